import PyProof.Rows.All
import Wide.All
import OpenK.AllK
import Wide.FinOn
import HandS.ForMost
import HandS.Wide
import HandS.Walk
import HandS.IsInst
import HandS.Style
import HandS.Strs
import HandS.Star
import HandS.TupAny
import HandS.FStr
import HandS.Property
import HandS.SlotsOwn
import HandS.Lambda
import HandS.ForExc
import HandS.ExcOwn
import HandS.TryMany
import HandS.Deep
import HandS.CallSlots
import HandS.IterNext
import HandS.OwnIter
import KE.KCallOwn
import KE.KFmtOwn
import PyProof.InstNe
import HandS.Zip
import KE.GoesMore
import HandS.StrMore
import HandS.StrSplit
import HandS.SetKeys
import HandS.Small
import HandS.RaiseMore
import KE.DataFind
import PyProof.StrBlock2
import PyProof.StrWalks
import PyProof.CollectWalk
import KE.KExcSuper
import KE.KExcLine
import HandS.ExcField
import HandS.EndTab
import HandS.TupMul
import HandS.Defaults
import HandS.WordsDict
import PyProof.MeetsDict
import PyProof.NeKinds
import HandS.Text
import PySem.Challenge.RW_settledplay_k44_errors_of_letters_and_ba
set_option Elab.async false
set_option linter.all false
set_option maxRecDepth 100000
set_option maxHeartbeats 4000000
set_option Elab.async false
namespace VL
open PySem PySem.Spec PyProof.Rows L2 LamX
/-! ### data, the store, the monad -/
/-- a value as data: lists that change stand in the store (ptr) -/
inductive D where
  | non | bl (b : Bool) | int (i : Int) | str (z : Str) | ty (n : String)
  | tup (xs : List D) | lst (xs : List D) | ins (C : String) (fs : List D)
  | ptr (k : Nat) | cls (C : String) | fn (f : String)
  /-- a dict that is never changed -/
  | dct (ks : List Key) (vs : List D)
  /-- the law's script: a list that is only measured and read by place -/
  | scr (xs : List D)
inductive Cell where
  | lst (xs : List D) | dct (ks : List Key) (xs : List D)
abbrev Mem := List Cell
structure Exn where
  cls : String
  arg : Option (Str × D)
inductive Out (α : Type) where
  | ok (a : α) (μ : Mem) | exn (e : Exn) (μ : Mem) | stuck
def M (α : Type) := Mem → Out α
def M.pure {α : Type} (a : α) : M α := fun μ => .ok a μ
def M.bind {α β : Type} (m : M α) (k : α → M β) : M β := fun μ => match m μ with
  | .ok a μ' => k a μ'
  | .exn e μ' => .exn e μ'
  | .stuck => .stuck
instance : Monad M where
  pure := M.pure
  bind := M.bind
def stuck {α : Type} : M α := fun _ => .stuck
def throw {α : Type} (e : Exn) : M α := fun μ => .exn e μ
/-! ### how data lie in the heap -/
/-- the store's places: the object's address, its dict's (a list: its own again); none: no longer the store's -/
structure Phi where
  st : List (Option (Addr × Addr))
  /-- lists in the making (a comprehension's): not the store's, not to be seen -/
  hid : List Addr
def ownS (φ : Phi) (b : Addr) : Prop := ∃ (k : Nat) (e : Addr × Addr), φ.st[k]? = some (some e) ∧ (b = e.1 ∨ b = e.2)
def own (φ : Phi) (b : Addr) : Prop := ownS φ b ∨ b ∈ φ.hid
/-- what is fixed: the written part, classes, functions, code tables -/
structure IniC where
  x : Addr
  dx : Addr
  C : String
  n : Nat
structure Cn where
  K : PySem.W.Frag
  cl : String → Addr
  fn : String → Addr
  T : List (Addr × Str)
  /-- within an __init__: the instance, its dict, the class, the number of slots; behind the slots the fields stand -/
  ini : Option IniC
/-- a slot of the def -/
def Cn.lo (c : Cn) (i : Nat) : Prop := ∀ I, c.ini = some I → i < I.n
def H0 : Hp := fun _ => none
mutual
def Rep (c : Cn) (φ : Phi) (H : Hp) : D → V → Prop
  | .non, v => v = .non
  | .bl b, v => v = .bl b
  | .int i, v => v = .int i
  | .str z, v => v = .str z
  | .ty n, v => v = .ty n
  | .tup ds, v => ∃ a vs, v = .ref a ∧ ((Rd H a (.tup vs) ∧ ¬ own φ a) ∨ SqT c.K H0 a vs) ∧ RepL c φ H ds vs
  | .lst ds, v => ∃ a vs, v = .ref a ∧ Rd H a (.lst vs) ∧ ¬ own φ a ∧ RepL c φ H ds vs
  | .ins C fs, v => ∃ a dx vs ws, v = .ref a ∧ SlX.Slt H a (c.cl C) dx ws ∧ H dx ≠ none ∧ ¬ own φ a ∧ ¬ own φ dx ∧ (∀ (i : Nat) (v : V), vs[i]? = some v → ws[i]? = some (some v)) ∧ RepL c φ H fs vs
  | .ptr k, v => ∃ e, φ.st[k]? = some (some e) ∧ v = .ref e.1
  | .cls C, v => v = .ref (c.cl C)
  | .dct ks ds, v => ∃ a vs, v = .ref a ∧ Rd H a (.dK (ks.zip vs)) ∧ ¬ own φ a ∧ ks.length = vs.length ∧ RepL c φ H ds vs
  | .fn f, v => v = .ref (c.fn f)
  | .scr ds, v => ∃ a vs, v = .ref a ∧ ((Rd H a (.lst vs) ∧ ¬ own φ a) ∨ SqL c.K H0 a vs) ∧ RepL c φ H ds vs
def RepL (c : Cn) (φ : Phi) (H : Hp) : List D → List V → Prop
  | [], vs => vs = []
  | d :: ds, vs => ∃ v r, vs = v :: r ∧ Rep c φ H d v ∧ RepL c φ H ds r
end
def RepO (c : Cn) (φ : Phi) (H : Hp) : Option D → Option V → Prop
  | none, _ => True
  | some d, o => ∃ v, o = some v ∧ Rep c φ H d v
/-- an environment: the slots -/
abbrev Env := List (Option D)
structure Ini (c : Cn) (φ : Phi) (H : Hp) (I : IniC) (ρ : Env) (σ : L2.St) : Prop where
  len : σ.length = I.n
  self : σ[0]? = some (some (.ref I.x))
  hx : I.x ∈ φ.hid
  hd : I.dx ∈ φ.hid
  ne : I.dx ≠ I.x
  fs : ∃ vs, SlX.Slt H I.x (c.cl I.C) I.dx vs ∧ ∀ (j : Nat) (d : D), ρ[I.n + j]? = some (some d) → ∃ v, vs[j]? = some (some v) ∧ Rep c φ H d v
structure RepE (c : Cn) (φ : Phi) (H : Hp) (ρ : Env) (σ : L2.St) : Prop where
  len : σ.length ≤ ρ.length
  len0 : c.ini = none → ρ.length = σ.length
  at_ : ∀ (i : Nat) (d : D), c.lo i → ρ[i]? = some (some d) → ∃ v, σ[i]? = some (some v) ∧ Rep c φ H d v
  ini : ∀ I, c.ini = some I → Ini c φ H I ρ σ
def CellOk (c : Cn) (φ : Phi) (H : Hp) (e : Addr × Addr) : Cell → Prop
  | .lst ds => e.2 = e.1 ∧ ∃ vs, H e.1 = some (.lst vs) ∧ RepL c φ H ds vs
  | .dct ks ds => e.2 = e.1 ∧ ∃ vs, H e.1 = some (.dK (ks.zip vs)) ∧ ks.length = vs.length ∧ RepL c φ H ds vs
/-- the code tables, and the code they name, are not the store's -/
def TabsO (T : List (Addr × Str)) (φ : Phi) (H : Hp) : Prop := ∀ p ∈ T, ∃ ps : Array Value, H p.1 = some (.tbl ps) ∧ ¬ own φ p.1 ∧ TriplesOk ps.toList ∧ ∀ (pos : Pos) (cv : Value), codeAmong pos ps.toList = some cv → ∃ k, cv = .ref k ∧ H k = some (CodeO k p.2) ∧ ¬ own φ k
structure WOk (c : Cn) (φ : Phi) (μ : Mem) (H : Hp) : Prop where
  len : φ.st.length = μ.length
  cell : ∀ (k : Nat) (e : Addr × Addr), φ.st[k]? = some (some e) → ∃ x, μ[k]? = some x ∧ CellOk c φ H e x
  hid : ∀ b ∈ φ.hid, H b ≠ none ∧ ¬ ownS φ b
  inj : ∀ (i j : Nat) (e e' : Addr × Addr), φ.st[i]? = some (some e) → φ.st[j]? = some (some e') → i ≠ j → e.1 ≠ e'.1 ∧ e.1 ≠ e'.2 ∧ e.2 ≠ e'.1 ∧ e.2 ≠ e'.2
  tabs : TabsO c.T φ H
structure Keep (φ : Phi) (H : Hp) (φ' : Phi) (H' : Hp) : Prop where
  pre : ∀ (k : Nat) (e : Addr × Addr), φ.st[k]? = some (some e) → φ'.st[k]? = some (some e)
  kp : ∀ b o, ¬ own φ b → H b = some o → (∀ ps, o ≠ .tbl ps) → H' b = some o
  tb : ∀ b ps, ¬ own φ b → H b = some (.tbl ps) → ∃ more, H' b = some (.tbl (ps ++ more))
  fr : ∀ b, own φ' b → ¬ own φ b → H b = none
structure Later (φ : Phi) (H : Hp) (φ' : Phi) (H' : Hp) : Prop extends Keep φ H φ' H' where
  len : φ.st.length ≤ φ'.st.length
  hid : φ'.hid = φ.hid
  hk : ∀ b ∈ φ.hid, H' b = H b
/-- behind a statement: within an __init__ the instance may have been written -/
structure LaterS (c : Cn) (φ : Phi) (H : Hp) (φ' : Phi) (H' : Hp) : Prop extends Keep φ H φ' H' where
  len : φ.st.length ≤ φ'.st.length
  hid : φ'.hid = φ.hid
  hk : ∀ b ∈ φ.hid, (∀ I, c.ini = some I → b ≠ I.x ∧ b ≠ I.dx) → H' b = H b
section
variable {c : Cn} {φ φ' φ'' : Phi} {H H' H'' : Hp} {μ μ' : Mem}
theorem Later.toS (L : Later φ H φ' H') : LaterS c φ H φ' H' := ⟨L.toKeep, L.len, L.hid, fun b h _ => L.hk b h⟩
theorem LaterS.to (L : LaterS c φ H φ' H') (h : c.ini = none) : Later φ H φ' H' := ⟨L.toKeep, L.len, L.hid, fun b hb => L.hk b hb fun I e => by rw [h] at e; cases e⟩
theorem Later.refl : Later φ H φ H := ⟨⟨fun _ _ h => h, fun _ _ _ h _ => h, fun _ ps _ h => ⟨#[], by rw [h]; simp⟩, fun b h n => absurd h n⟩, Nat.le_refl _, rfl, fun _ _ => rfl⟩
theorem Keep.some (L : Keep φ H φ' H') {b : Addr} (n : ¬ own φ b) (h : H b ≠ none) : H' b ≠ none := fun z => by
  cases q : H b with
  | none => exact h q
  | some o =>
    cases o with
    | tbl ps =>
      obtain ⟨m, e⟩ := L.tb b ps n q
      rw [z] at e; cases e
    | _ =>
      have e := L.kp b _ n q (by intro ps z; cases z)
      rw [z] at e; cases e
theorem Keep.nown (L : Keep φ H φ' H') {b : Addr} (n : ¬ own φ b) (h : H b ≠ none) : ¬ own φ' b := fun z => h (L.fr b z n)
theorem Keep.trans (L : Keep φ H φ' H') (L' : Keep φ' H' φ'' H'') : Keep φ H φ'' H'' where
  pre := fun k e h => L'.pre k e (L.pre k e h)
  kp := fun b o n h t => L'.kp b o (L.nown n (by rw [h]; simp)) (L.kp b o n h t) t
  tb := fun b ps n h => by
    obtain ⟨m1, e1⟩ := L.tb b ps n h
    obtain ⟨m2, e2⟩ := L'.tb b _ (L.nown n (by rw [h]; simp)) e1
    exact ⟨m1 ++ m2, by rw [e2, Array.append_assoc]⟩
  fr := fun b h n => by
    by_cases q : own φ' b
    · exact L.fr b q n
    · have e := L'.fr b h q
      cases z : H b with
      | none => rfl
      | some o => exact absurd e (L.some n (by rw [z]; simp))
theorem Later.trans (L : Later φ H φ' H') (L' : Later φ' H' φ'' H'') : Later φ H φ'' H'' :=
  ⟨L.toKeep.trans L'.toKeep, Nat.le_trans L.len L'.len, L'.hid.trans L.hid, fun b h => (L'.hk b (by rw [L.hid]; exact h)).trans (L.hk b h)⟩
theorem LaterS.trans (L : LaterS c φ H φ' H') (L' : LaterS c φ' H' φ'' H'') : LaterS c φ H φ'' H'' :=
  ⟨L.toKeep.trans L'.toKeep, Nat.le_trans L.len L'.len, L'.hid.trans L.hid, fun b h q => (L'.hk b (by rw [L.hid]; exact h) q).trans (L.hk b h q)⟩
theorem LaterS.refl : LaterS c φ H φ H := Later.refl.toS
theorem Keep.rd (L : Keep φ H φ' H') {a : Addr} {u : HO} (n : ¬ own φ a) (h : Rd H a u) (hu : ∀ ps, u ≠ .tbl ps) : Rd H' a u ∧ ¬ own φ' a := by
  rcases h with h | ⟨o, h⟩
  · exact ⟨.inl (L.kp a _ n h hu), L.nown n (by rw [h]; simp)⟩
  · exact ⟨.inr ⟨o, L.kp a _ n h (by intro ps z; cases z)⟩, L.nown n (by rw [h]; simp)⟩
theorem slt_ne {a C dx : Addr} {vs : List (Option V)} (h : SlX.Slt H a C dx vs) : H a ≠ none := by
  rcases h with ⟨h, _⟩ | ⟨h, _⟩ <;> (rw [h]; simp)
theorem Keep.slt (L : Keep φ H φ' H') {a C dx : Addr} {vs : List (Option V)} (h : SlX.Slt H a C dx vs) (n : ¬ own φ a) (m : ¬ own φ dx) : SlX.Slt H' a C dx vs := by
  rcases h with ⟨h, e⟩ | ⟨h, e⟩
  · exact .inl ⟨L.kp a _ n h (by intro ps z; cases z), e⟩
  · exact .inr ⟨L.kp a _ n h (by unfold SlX.SlO; intro ps z; cases z), L.kp dx _ m e (by intro ps z; cases z)⟩
mutual
theorem Rep.later (L : Keep φ H φ' H') : ∀ (d : D) (v : V), Rep c φ H d v → Rep c φ' H' d v
  | .non, _, h => by simpa only [Rep] using h
  | .bl _, _, h => by simpa only [Rep] using h
  | .int _, _, h => by simpa only [Rep] using h
  | .str _, _, h => by simpa only [Rep] using h
  | .ty _, _, h => by simpa only [Rep] using h
  | .cls _, _, h => by simpa only [Rep] using h
  | .fn _, _, h => by simpa only [Rep] using h
  | .tup ds, v, h => by
    simp only [Rep] at h ⊢
    obtain ⟨a, vs, e, h, r⟩ := h
    refine ⟨a, vs, e, ?_, RepL.later L ds vs r⟩
    rcases h with ⟨h, n⟩ | h
    · exact .inl (L.rd n h (by intro ps z; cases z))
    · exact .inr h
  | .scr ds, v, h => by
    simp only [Rep] at h ⊢
    obtain ⟨a, vs, e, h, r⟩ := h
    refine ⟨a, vs, e, ?_, RepL.later L ds vs r⟩
    rcases h with ⟨h, n⟩ | h
    · exact .inl (L.rd n h (by intro ps z; cases z))
    · exact .inr h
  | .lst ds, v, h => by
    simp only [Rep] at h ⊢
    obtain ⟨a, vs, e, h, n, r⟩ := h
    obtain ⟨h1, h2⟩ := L.rd n h (by intro ps z; cases z)
    exact ⟨a, vs, e, h1, h2, RepL.later L ds vs r⟩
  | .dct ks ds, v, h => by
    simp only [Rep] at h ⊢
    obtain ⟨a, vs, e, h, n, hl, r⟩ := h
    obtain ⟨h1, h2⟩ := L.rd n h (by intro ps z; cases z)
    exact ⟨a, vs, e, h1, h2, hl, RepL.later L ds vs r⟩
  | .ins C fs, v, h => by
    simp only [Rep] at h ⊢
    obtain ⟨a, dx, vs, ws, e, hs, hd, n, m, ew, r⟩ := h
    exact ⟨a, dx, vs, ws, e, L.slt hs n m, L.some m hd, L.nown n (slt_ne hs), L.nown m hd, ew, RepL.later L fs vs r⟩
  | .ptr k, v, h => by
    simp only [Rep] at h ⊢
    obtain ⟨e, h, r⟩ := h
    exact ⟨e, L.pre k e h, r⟩
theorem RepL.later (L : Keep φ H φ' H') : ∀ (ds : List D) (vs : List V), RepL c φ H ds vs → RepL c φ' H' ds vs
  | [], vs, h => by simpa only [RepL] using h
  | d :: ds, vs, h => by
    simp only [RepL] at h ⊢
    obtain ⟨v, r, e, h1, h2⟩ := h
    exact ⟨v, r, e, Rep.later L d v h1, RepL.later L ds r h2⟩
end
theorem Ini.later {I : IniC} {ρ : Env} {σ : L2.St} (h : Ini c φ H I ρ σ) (K : Keep φ H φ' H') (h1 : H' I.x = H I.x) (h2 : H' I.dx = H I.dx) (hh : ∀ b ∈ φ.hid, b ∈ φ'.hid) : Ini c φ' H' I ρ σ := by
  obtain ⟨vs, hs, hf⟩ := h.fs
  refine ⟨h.len, h.self, hh _ h.hx, hh _ h.hd, h.ne, vs, ?_, fun j d e => ?_⟩
  · rcases hs with ⟨q, e⟩ | ⟨q, e⟩
    · exact .inl ⟨h1.trans q, e⟩
    · exact .inr ⟨h1.trans q, h2.trans e⟩
  · obtain ⟨v, e2, r⟩ := hf j d e
    exact ⟨v, e2, r.later K⟩
theorem RepE.later {ρ : Env} {σ : L2.St} (h : RepE c φ H ρ σ) (L : Later φ H φ' H') : RepE c φ' H' ρ σ := ⟨h.len, h.len0, fun i d q e => by
  obtain ⟨v, e2, r⟩ := h.at_ i d q e
  exact ⟨v, e2, r.later L.toKeep⟩, fun I e => (h.ini I e).later L.toKeep (L.hk _ (h.ini I e).hx) (L.hk _ (h.ini I e).hd) fun b hb => by rw [L.hid]; exact hb⟩
theorem RepE.put {ρ : Env} {σ : L2.St} (h : RepE c φ H ρ σ) (i : Nat) (q : c.lo i) {o : Option D} {u : Option V} (r : ∀ d, o = some d → ∃ v, u = some v ∧ Rep c φ H d v) (h0 : c.ini ≠ none → i ≠ 0) : RepE c φ H (ρ.set i o) (σ.set i u) := by
  refine ⟨by rw [List.length_set, List.length_set]; exact h.len, fun e => by rw [List.length_set, List.length_set]; exact h.len0 e, fun j d' q' e => ?_, fun I e => ?_⟩
  · by_cases hj : i = j
    · subst hj
      by_cases hl : i < ρ.length
      · rw [List.getElem?_set_self hl] at e
        cases e
        obtain ⟨v, rfl, rv⟩ := r d' rfl
        have hs : i < σ.length := by
          cases hI : c.ini with
          | none => rw [← h.len0 hI]; exact hl
          | some I => rw [(h.ini I hI).len]; exact q I hI
        exact ⟨v, List.getElem?_set_self hs, rv⟩
      · rw [List.getElem?_eq_none (by rw [List.length_set]; omega)] at e
        cases e
    · rw [List.getElem?_set_ne hj] at e ⊢
      exact h.at_ j d' q' e
  · have hI := h.ini I e
    have hq := q I e
    obtain ⟨vs, hs, hf⟩ := hI.fs
    refine ⟨by rw [List.length_set]; exact hI.len, ?_, hI.hx, hI.hd, hI.ne, vs, hs, fun j d' e2 => ?_⟩
    · rw [List.getElem?_set_ne (h0 (by rw [e]; simp))]
      exact hI.self
    · rw [List.getElem?_set_ne (by omega)] at e2
      exact hf j d' e2
theorem RepE.set {ρ : Env} {σ : L2.St} (h : RepE c φ H ρ σ) (i : Nat) (q : c.lo i) (h0 : c.ini ≠ none → i ≠ 0) {d : D} {v : V} (r : Rep c φ H d v) : RepE c φ H (ρ.set i (some d)) (σ.set i (some v)) := h.put i q (fun d' e => by cases e; exact ⟨v, rfl, r⟩) h0
theorem RepL.len : ∀ {ds : List D} {vs : List V}, RepL c φ H ds vs → ds.length = vs.length
  | [], vs, h => by simp only [RepL] at h; subst h; rfl
  | d :: ds, vs, h => by
    simp only [RepL] at h
    obtain ⟨v, r, e, _, h2⟩ := h
    subst e
    simp [h2.len]
theorem RepL.get : ∀ {ds : List D} {vs : List V} {i : Nat} {d : D}, RepL c φ H ds vs → ds[i]? = some d → ∃ v, vs[i]? = some v ∧ Rep c φ H d v
  | [], vs, i, d, h, e => by simp at e
  | d :: ds, vs, 0, d', h, e => by
    simp only [RepL] at h
    obtain ⟨v, r, rfl, h1, _⟩ := h
    simp at e
    subst e
    exact ⟨v, rfl, h1⟩
  | d :: ds, vs, i + 1, d', h, e => by
    simp only [RepL] at h
    obtain ⟨v, r, rfl, _, h2⟩ := h
    simpa using h2.get (i := i) (by simpa using e)
theorem RepL.app : ∀ {ds es : List D} {vs ws : List V}, RepL c φ H ds vs → RepL c φ H es ws → RepL c φ H (ds ++ es) (vs ++ ws)
  | [], es, vs, ws, h, g => by
    simp only [RepL] at h
    subst h
    exact g
  | d :: ds, es, vs, ws, h, g => by
    simp only [RepL, List.cons_append] at h ⊢
    obtain ⟨v, r, rfl, h1, h2⟩ := h
    exact ⟨v, r ++ ws, rfl, h1, h2.app g⟩
theorem RepL.one {d : D} {v : V} (h : Rep c φ H d v) : RepL c φ H [d] [v] := by
  simp only [RepL]
  exact ⟨v, [], rfl, h, rfl⟩
theorem RepL.drop : ∀ {ds : List D} {vs : List V} (n : Nat), RepL c φ H ds vs → RepL c φ H (ds.drop n) (vs.drop n)
  | ds, vs, 0, h => h
  | [], vs, n + 1, h => by simp only [RepL] at h; subst h; simp [RepL]
  | d :: ds, vs, n + 1, h => by
    simp only [RepL] at h
    obtain ⟨v, r, rfl, _, h2⟩ := h
    simpa using h2.drop n
theorem RepL.take : ∀ {ds : List D} {vs : List V} (n : Nat), RepL c φ H ds vs → RepL c φ H (ds.take n) (vs.take n)
  | ds, vs, 0, h => by simp [RepL]
  | [], vs, n + 1, h => by simp only [RepL] at h; subst h; simp [RepL]
  | d :: ds, vs, n + 1, h => by
    simp only [RepL] at h
    obtain ⟨v, r, rfl, h1, h2⟩ := h
    simp only [List.take_succ_cons, RepL]
    exact ⟨v, r.take n, rfl, h1, h2.take n⟩
theorem RepL.set : ∀ {ds : List D} {vs : List V} (n : Nat) {d : D} {v : V}, RepL c φ H ds vs → Rep c φ H d v → RepL c φ H (ds.set n d) (vs.set n v)
  | [], vs, n, d, v, h, r => by simp only [RepL] at h; subst h; simp [RepL]
  | e :: ds, vs, 0, d, v, h, r => by
    simp only [RepL] at h
    obtain ⟨w, q, rfl, h1, h2⟩ := h
    simp only [List.set_cons_zero, RepL]
    exact ⟨v, q, rfl, r, h2⟩
  | e :: ds, vs, n + 1, d, v, h, r => by
    simp only [RepL] at h
    obtain ⟨w, q, rfl, h1, h2⟩ := h
    simp only [List.set_cons_succ, RepL]
    exact ⟨w, q.set n v, rfl, h1, h2.set n r⟩
/-- a cell whose own objects stay -/
theorem CellOk.later {e : Addr × Addr} {x : Cell} (h : CellOk c φ H e x) (L : Keep φ H φ' H') (h1 : H' e.1 = H e.1) (h2 : H' e.2 = H e.2) : CellOk c φ' H' e x := by
  cases x with
  | lst ds =>
    obtain ⟨a, vs, b, r⟩ := h
    exact ⟨a, vs, h1.trans b, r.later L⟩
  | dct ks ds =>
    obtain ⟨a, vs, b, l, r⟩ := h
    exact ⟨a, vs, h1.trans b, l, r.later L⟩
theorem CellOk.there {e : Addr × Addr} {x : Cell} (h : CellOk c φ H e x) : H e.1 ≠ none ∧ H e.2 ≠ none := by
  cases x with
  | lst ds =>
    obtain ⟨a, vs, b, r⟩ := h
    rw [a]
    exact ⟨by rw [b]; simp, by rw [b]; simp⟩
  | dct ks ds =>
    obtain ⟨a, vs, b, l, r⟩ := h
    rw [a]
    exact ⟨by rw [b]; simp, by rw [b]; simp⟩
theorem WOk.there (w : WOk c φ μ H) {b : Addr} (h : own φ b) : H b ≠ none := by
  rcases h with ⟨k, e, h, z⟩ | h
  · obtain ⟨x, _, q⟩ := w.cell k e h
    rcases z with rfl | rfl
    · exact q.there.1
    · exact q.there.2
  · exact (w.hid b h).1
theorem WOk.new (w : WOk c φ μ H) {p : Addr} (h : H p = none) : ¬ own φ p := fun z => w.there z h
/-- a new object, not the store's -/
theorem Later.laid (w : WOk c φ μ H) {p : Addr} {o : HO} (h : H p = none) : Later φ H φ (upd H p o) :=
  ⟨⟨fun _ _ q => q, fun b u _ q _ => by rw [upd_ne (ne_of_none q h)]; exact q, fun b ps _ q => ⟨#[], by rw [upd_ne (ne_of_none q h), q]; simp⟩, fun b z n => absurd z n⟩, Nat.le_refl _, rfl, fun b q => upd_ne fun z => (w.hid b q).1 (by rw [z]; exact h)⟩
theorem TabsO.keep {T : List (Addr × Str)} (t : TabsO T φ H) (e : ∀ b o, ¬ own φ b → H b = some o → H' b = some o) (n : ∀ b, own φ' b → ¬ own φ b → H b = none) : TabsO T φ' H' := fun p hp => by
  obtain ⟨ps, h1, h2, h3, h4⟩ := t p hp
  refine ⟨ps, e _ _ h2 h1, fun z => ?_, h3, fun pos cv hc => ?_⟩
  · have := n _ z h2
    rw [h1] at this; cases this
  · obtain ⟨k, rfl, h5, h6⟩ := h4 pos cv hc
    refine ⟨k, rfl, e _ _ h6 h5, fun z => ?_⟩
    have := n _ z h6
    rw [h5] at this; cases this
theorem WOk.laid (w : WOk c φ μ H) {p : Addr} {o : HO} (h : H p = none) : WOk c φ μ (upd H p o) where
  len := w.len
  cell := fun k e q => by
    obtain ⟨x, q1, q2⟩ := w.cell k e q
    have t := q2.there
    exact ⟨x, q1, q2.later (Later.laid w h).toKeep (upd_ne fun z => t.1 (by rw [z]; exact h)) (upd_ne fun z => t.2 (by rw [z]; exact h))⟩
  hid := fun b q => ⟨by rw [upd_ne fun z => (w.hid b q).1 (by rw [z]; exact h)]; exact (w.hid b q).1, (w.hid b q).2⟩
  inj := w.inj
  tabs := w.tabs.keep (fun b u _ q => by rw [upd_ne (ne_of_none q h)]; exact q) fun b z n => absurd z n
end
end VL

namespace VL
open PySem PySem.Spec PyProof.Rows L2 LamX
/-! ### the wishes of a run of m -/
def RepX (c : Cn) (φ : Phi) (H : Hp) (e : Exn) (k : Value) (d : Option Addr) : Prop := k = .ref (c.cl e.cls) ∧ match e.arg with
  | none => d = none
  | some (f, x) => ∃ dx v, d = some dx ∧ H dx = some (.xd [(f, v)]) ∧ ¬ own φ dx ∧ Rep c φ H x v
abbrev XW := Value → Option Addr → Hp → Prop
def wpM {α β : Type} (c : Cn) (R : Phi → Hp → α → β → Prop) (m : M α) (φ : Phi) (μ : Mem) (H : Hp) (Q : β → Hp → Prop) (E : XW) : Prop :=
  match m μ with
  | .ok a μ' => ∀ φ' H' b, Later φ H φ' H' → WOk c φ' μ' H' → R φ' H' a b → Q b H'
  | .exn e μ' => ∀ φ' H' k d, Later φ H φ' H' → WOk c φ' μ' H' → RepX c φ' H' e k d → E k d H'
  | .stuck => False
section
variable {α β γ δ : Type} {c : Cn} {φ φ' : Phi} {H H' : Hp} {μ μ' : Mem} {E : XW}
theorem wp_mono {R : Phi → Hp → α → β → Prop} {m : M α} {Q Q' : β → Hp → Prop} (h : wpM c R m φ μ H Q E) (i : ∀ b H', Q b H' → Q' b H') : wpM c R m φ μ H Q' E := by
  unfold wpM at h ⊢
  split at h
  · exact fun φ' H' b L w r => i _ _ (h φ' H' b L w r)
  · exact h
  · exact h
theorem wp_bind {R : Phi → Hp → α → β → Prop} {R' : Phi → Hp → γ → δ → Prop} {m : M α} {k : α → M γ} {Q : δ → Hp → Prop} (h : wpM c R' (m >>= k) φ μ H Q E) :
    wpM c R m φ μ H (fun b H1 => ∃ φ1 μ1 a, Later φ H φ1 H1 ∧ WOk c φ1 μ1 H1 ∧ R φ1 H1 a b ∧ wpM c R' (k a) φ1 μ1 H1 Q E) E := by
  have e : (m >>= k) μ = M.bind m k μ := rfl
  unfold wpM at h ⊢
  rw [e] at h
  unfold M.bind at h
  cases hm : m μ with
  | ok a μ1 =>
    rw [hm] at h
    refine fun φ1 H1 b L w r => ⟨φ1, μ1, a, L, w, r, ?_⟩
    show wpM c R' (k a) φ1 μ1 H1 Q E
    unfold wpM
    simp only [] at h
    cases hk : k a μ1 with
    | ok x μ2 =>
      rw [hk] at h
      exact fun φ2 H2 b2 L2 w2 r2 => h φ2 H2 b2 (L.trans L2) w2 r2
    | exn x μ2 =>
      rw [hk] at h
      exact fun φ2 H2 k2 d2 L2 w2 r2 => h φ2 H2 k2 d2 (L.trans L2) w2 r2
    | stuck =>
      rw [hk] at h
      exact h
  | exn x μ1 =>
    rw [hm] at h
    exact h
  | stuck =>
    rw [hm] at h
    exact h
theorem wp_pure {R : Phi → Hp → α → β → Prop} {a : α} {b : β} {Q : β → Hp → Prop} (h : wpM c R (pure a) φ μ H Q E) (w : WOk c φ μ H) (r : R φ H a b) : Q b H := h φ H b .refl w r
/-- a pure answer at a grown heap -/
theorem wp_pureL {R : Phi → Hp → α → β → Prop} {a : α} {b : β} {Q : β → Hp → Prop} (h : wpM c R (pure a) φ μ H Q E) (L : Later φ H φ' H') (w : WOk c φ' μ H') (r : R φ' H' a b) : Q b H' := h φ' H' b L w r
theorem wp_stuck {R : Phi → Hp → α → β → Prop} {Q : β → Hp → Prop} {P : Prop} (h : wpM c R (stuck : M α) φ μ H Q E) : P := False.elim h
/-- a guard -/
def ask (p : Bool) : M Unit := if p then pure () else stuck
theorem wp_ask {R : Phi → Hp → γ → δ → Prop} {p : Bool} {k : Unit → M γ} {Q : δ → Hp → Prop} (h : wpM c R (ask p >>= k) φ μ H Q E) : p = true ∧ wpM c R (k ()) φ μ H Q E := by
  cases p
  · exact False.elim h
  · exact ⟨rfl, h⟩
theorem wp_wk {R : Phi → Hp → α → β → Prop} {m : M α} {Q : β → Hp → Prop} {E' : XW} (h : wpM c R m φ μ H Q E) (i : ∀ k d H', E k d H' → E' k d H') : wpM c R m φ μ H Q E' := by
  unfold wpM at h ⊢
  split at h
  · exact h
  · exact fun φ' H' k d L w r => i _ _ _ (h φ' H' k d L w r)
  · exact h
end
/-! ### judgements -/
def wEx (W : WX) (σ : L2.St) : XW := fun k d H => W k d σ H
/-- the state: a store, an environment -/
def tV (c : Cn) (W : WX) (f : Env → M D) : TE := fun σ H Q => ∃ φ μ ρ, WOk c φ μ H ∧ RepE c φ H ρ σ ∧ wpM c (Rep c) (f ρ) φ μ H Q (wEx W σ)
def tL (c : Cn) (W : WX) (f : Env → M (List D)) : TA := fun σ H Q => ∃ φ μ ρ, WOk c φ μ H ∧ RepE c φ H ρ σ ∧ wpM c (RepL c) (f ρ) φ μ H Q (wEx W σ)
def RB : Phi → Hp → Bool → Bool → Prop := fun _ _ a b => b = a
def tT (c : Cn) (W : WX) (f : Env → M Bool) : TT := fun σ H Q => ∃ φ μ ρ, WOk c φ μ H ∧ RepE c φ H ρ σ ∧ wpM c RB (f ρ) φ μ H Q (wEx W σ)
inductive Flow where
  | nx (ρ : Env) | rt (d : D) | bk (ρ : Env) | ct (ρ : Env) | xc (ρ : Env) (e : Exn)
def wpS (c : Cn) (m : M Flow) (φ : Phi) (μ : Mem) (H : Hp) (D : Ends) (W : WX) : Prop :=
  match m μ with
  | .ok (.nx ρ) μ' => ∀ φ' H' σ', LaterS c φ H φ' H' → WOk c φ' μ' H' → RepE c φ' H' ρ σ' → D.nx σ' H'
  | .ok (.rt d) μ' => ∀ φ' H' v, LaterS c φ H φ' H' → WOk c φ' μ' H' → Rep c φ' H' d v → D.rt v H'
  | .ok (.bk ρ) μ' => ∀ φ' H' σ', LaterS c φ H φ' H' → WOk c φ' μ' H' → RepE c φ' H' ρ σ' → D.bk σ' H'
  | .ok (.ct ρ) μ' => ∀ φ' H' σ', LaterS c φ H φ' H' → WOk c φ' μ' H' → RepE c φ' H' ρ σ' → D.ct σ' H'
  | .ok (.xc ρ e) μ' => ∀ φ' H' σ' k d, LaterS c φ H φ' H' → WOk c φ' μ' H' → RepE c φ' H' ρ σ' → RepX c φ' H' e k d → W k d σ' H'
  | .exn _ _ => False
  | .stuck => False
def tS (c : Cn) (W : WX) (s : Env → M Flow) : TS := fun D σ H => ∃ φ μ ρ, WOk c φ μ H ∧ RepE c φ H ρ σ ∧ wpS c (s ρ) φ μ H D W
structure VE (X : Cx) (c : Cn) (W : WX) (e : Expr) (f : Env → M D) : Prop where
  pe : PE X e (tV c W f)
structure VL (X : Cx) (c : Cn) (W : WX) (es : List Expr) (f : Env → M (List D)) : Prop where
  pa : PA X es (tL c W f)
structure VT (X : Cx) (c : Cn) (W : WX) (e : Expr) (f : Env → M Bool) : Prop where
  pt : PT X e (tT c W f)
structure VW (X : Cx) (c : Cn) (W : WX) (e : Expr) (f : Env → M Bool) : Prop where
  pw : PW X e (tT c W f)
structure VS (X : Cx) (c : Cn) (W : WX) (st : Stmt) (s : Env → M Flow) : Prop where
  ps : PS X st (tS c W s)
structure VB (X : Cx) (c : Cn) (W : WX) (st : List Stmt) (s : Env → M Flow) : Prop where
  ps : PSs X st (tS c W s)
theorem PE.weak {X : Cx} {e : Expr} {t t' : TE} (h : PE X e t) (i : ∀ σ H Q, t' σ H Q → t σ H Q) : PE X e t' := ⟨fun pins s σ H Q I q => h.run pins s σ H Q I (i _ _ _ q)⟩
theorem PE.weakI {X : Cx} {e : Expr} {t t' : TE} (h : PE X e t) (i : ∀ pins s σ H Q, Inv X pins σ H s → t' σ H Q → t σ H Q) : PE X e t' := ⟨fun pins s σ H Q I q => h.run pins s σ H Q I (i _ _ _ _ _ I q)⟩
theorem PA.weak {X : Cx} {e : List Expr} {t t' : TA} (h : PA X e t) (i : ∀ σ H Q, t' σ H Q → t σ H Q) : PA X e t' := ⟨fun pos pins s σ H Q I q => h.run pos pins s σ H Q I (i _ _ _ q)⟩
theorem PT.weak {X : Cx} {e : Expr} {t t' : TT} (h : PT X e t) (i : ∀ σ H Q, t' σ H Q → t σ H Q) : PT X e t' := ⟨fun pins s σ H Q I q => h.run pins s σ H Q I (i _ _ _ q)⟩
theorem PW.weak {X : Cx} {e : Expr} {t t' : TT} (h : PW X e t) (i : ∀ σ H Q, t' σ H Q → t σ H Q) : PW X e t' := ⟨fun wh pins s σ H Q I q => h.run wh pins s σ H Q I (i _ _ _ q)⟩
theorem PS.weak {X : Cx} {e : Stmt} {t t' : TS} (h : PS X e t) (i : ∀ D σ H, t' D σ H → t D σ H) : PS X e t' := ⟨fun pins s σ H D I q => h.run pins s σ H D I (i _ _ _ q)⟩
theorem PSs.weak {X : Cx} {e : List Stmt} {t t' : TS} (h : PSs X e t) (i : ∀ D σ H, t' D σ H → t D σ H) : PSs X e t' := ⟨fun pins s σ H D I q => h.run pins s σ H D I (i _ _ _ q)⟩
section
variable {X : Cx} {c : Cn} {W : WX} {φ : Phi} {H : Hp} {μ : Mem} {e a b : Expr} {es : List Expr} {f g : Env → M D} {pos : Pos}
/-! ### names, constants -/
def rd (i : Nat) (ρ : Env) : M D := match ρ[i]? with
  | some (some d) => pure d
  | _ => stuck
theorem ve_var {i : Nat} {x : Str} (hq : c.lo i) (hN : X.N[i]? = some x) (hv : Vis X.env.scope x) (hd : (x == ("__debug__" : Str)) = false := by decide) (hcd : (x == ("__classdict__" : Str)) = false := by decide) : VE X c W (.Name x pos) (rd i) :=
  ⟨PE.weak (pe_var hN hv hd hcd) fun σ H Q h => by
    obtain ⟨φ, μ, ρ, w, he, h⟩ := h
    unfold rd at h
    split at h
    · rename_i d hi
      obtain ⟨v, e, r⟩ := he.at_ i d hq hi
      exact ⟨v, e, wp_pure h w r⟩
    · exact wp_stuck h⟩
theorem ve_tC {v : V} {d : D} (h : PE X e (tC v)) (r : ∀ φ H, Rep c φ H d v) : VE X c W e (fun _ => pure d) :=
  ⟨PE.weak h fun σ H Q h => by
    obtain ⟨φ, μ, ρ, w, he, h⟩ := h
    exact wp_pure h w (r φ H)⟩
theorem ve_int {i j pos} : VE X c W (.Constant (.int i) j pos) (fun _ => pure (.int i)) := ve_tC pe_int fun _ _ => by simp only [Rep]
theorem ve_bl {i j pos} : VE X c W (.Constant (.bool i) j pos) (fun _ => pure (.bl i)) := ve_tC pe_bl fun _ _ => by simp only [Rep]
theorem ve_non {j pos} : VE X c W (.Constant .none j pos) (fun _ => pure .non) := ve_tC pe_non fun _ _ => by simp only [Rep]
theorem ve_str {i j pos} : VE X c W (.Constant (.str i) j pos) (fun _ => pure (.str i)) := ve_tC pe_str fun _ _ => by simp only [Rep]
theorem ve_glob {x : Str} {v : V} {d : D} {u : Value} (hg : Gl X x) (hm : X.mg x = some u) (r : RelV v u) (rd : ∀ φ H, Rep c φ H d v) (hd : (x == ("__debug__" : Str)) = false := by decide) : VE X c W (.Name x pos) (fun _ => pure d) := ve_tC (pe_glob hg hm r hd) rd
theorem ve_bltn {x : Str} {n : String} (hg : Gl X x) (hm : X.mg x = none) (hv : bootBuiltins x = some (.type n)) (hn : x ≠ "__name__" := by decide) (hd : (x == ("__debug__" : Str)) = false := by decide) : VE X c W (.Name x pos) (fun _ => pure (.ty n)) :=
  ve_tC (pe_bltn (v := .ty n) hg hm hv rfl hn hd) fun _ _ => by simp only [Rep]
/-! ### operators -/
/-- f on values is g on data -/
def OpV (X : Cx) (c : Cn) (f : Value → Value → Sem Value) (g : D → D → M D) : Prop :=
  ∃ r, OpR X f r ∧ ∀ φ μ H x y vx vy Q E, WOk c φ μ H → Rep c φ H x vx → Rep c φ H y vy → wpM c (Rep c) (g x y) φ μ H Q E → r vx vy H Q
theorem two {W : WX} {f g : Env → M D} {k : D → D → M D} {r : V → V → Hp → VK → Prop} (hr : ∀ φ μ H x y vx vy Q E, WOk c φ μ H → Rep c φ H x vx → Rep c φ H y vy → wpM c (Rep c) (k x y) φ μ H Q E → r vx vy H Q) (σ : L2.St) (H : Hp) (Q : VK)
    (h : tV c W (fun ρ => f ρ >>= fun x => g ρ >>= fun y => k x y) σ H Q) : tOp r (tV c W f) (tV c W g) σ H Q := by
  obtain ⟨φ, μ, ρ, w, he, h⟩ := h
  refine ⟨φ, μ, ρ, w, he, wp_mono (wp_bind h) fun x H1 z => ?_⟩
  obtain ⟨φ1, μ1, d1, L1, w1, r1, h1⟩ := z
  refine ⟨φ1, μ1, ρ, w1, he.later L1, wp_mono (wp_bind h1) fun y H2 z => ?_⟩
  obtain ⟨φ2, μ2, d2, L2, w2, r2, h2⟩ := z
  exact hr φ2 μ2 H2 d1 d2 x y Q _ w2 (r1.later L2.toKeep) r2 h2
theorem ve_op {op : Operator} {k : D → D → M D} (ho : OpV X c (binaryOp op) k) (ha : VE X c W a f) (hb : VE X c W b g) : VE X c W (.BinOp a op b pos) (fun ρ => f ρ >>= fun x => g ρ >>= fun y => k x y) := by
  obtain ⟨r, h1, h2⟩ := ho
  exact ⟨PE.weak (pe_op h1 ha.pe hb.pe) (two h2)⟩
theorem ve_cmp {op : CmpOp} {k : D → D → M D} (ho : OpV X c (compareOp op) k) (ha : VE X c W a f) (hb : VE X c W b g) (hm : behindInMarks op b = false) : VE X c W (.Compare a [op] [b] pos) (fun ρ => f ρ >>= fun x => g ρ >>= fun y => k x y) := by
  obtain ⟨r, h1, h2⟩ := ho
  exact ⟨PE.weak (pe_cmpR h1 ha.pe hb.pe hm) (two h2)⟩
def asB : D → M Bool
  | .bl b => pure b
  | _ => stuck
theorem rep_bl {b : Bool} {v : V} (h : Rep c φ H (.bl b) v) : v = .bl b := by simpa only [Rep] using h
/-- a value that is a bool, as a test -/
theorem tT_of (σ : L2.St) (H : Hp) (Q : Bool → Hp → Prop) (h : tT c W (fun ρ => f ρ >>= asB) σ H Q) : tV c W f σ H (fun x H1 => ∃ k, x = .bl k ∧ Q k H1) := by
  obtain ⟨φ, μ, ρ, w, he, h⟩ := h
  refine ⟨φ, μ, ρ, w, he, wp_mono (wp_bind h) fun x H1 z => ?_⟩
  obtain ⟨φ1, μ1, d, L, w1, r, h1⟩ := z
  cases d with
  | bl b => exact ⟨b, rep_bl r, wp_pure (b := b) h1 w1 rfl⟩
  | _ => exact wp_stuck h1
theorem vt_val (h : VE X c W e f) (he : ∀ whole, isTrue e X.env whole = (do let v ← whole; standAt e.pos; holding [v] (truthy v)) := by intro _; rfl) : VT X c W e (fun ρ => f ρ >>= asB) :=
  ⟨PT.weak (pt_val h.pe he) fun σ H Q q => tT_of σ H Q q⟩
theorem vt_cmp {op : CmpOp} {k : D → D → M D} (ho : OpV X c (compareOp op) k) (ha : VE X c W a f) (hb : VE X c W b g) (hm : behindInMarks op b = false) : VT X c W (.Compare a [op] [b] pos) (fun ρ => (f ρ >>= fun x => g ρ >>= fun y => k x y) >>= asB) := by
  obtain ⟨r, h1, h2⟩ := ho
  exact ⟨PT.weak (pt_cmpR h1 ha.pe hb.pe hm) fun σ H Q q => two (W := W) (f := f) (g := g) h2 σ H _ (tT_of σ H Q q)⟩
/-! ### is None -/
def isN : D → Bool
  | .non => true
  | _ => false
theorem rep_isN : ∀ {d : D} {v : V}, Rep c φ H d v → decide (v = .non) = isN d
  | .non, v, h => by simp only [Rep] at h; subst h; rfl
  | .bl _, v, h => by simp only [Rep] at h; subst h; rfl
  | .int _, v, h => by simp only [Rep] at h; subst h; rfl
  | .str _, v, h => by simp only [Rep] at h; subst h; rfl
  | .ty _, v, h => by simp only [Rep] at h; subst h; rfl
  | .cls _, v, h => by simp only [Rep] at h; subst h; rfl
  | .fn _, v, h => by simp only [Rep] at h; subst h; rfl
  | .tup _, v, h => by simp only [Rep] at h; obtain ⟨a, vs, rfl, _⟩ := h; rfl
  | .lst _, v, h => by simp only [Rep] at h; obtain ⟨a, vs, rfl, _⟩ := h; rfl
  | .ins _ _, v, h => by simp only [Rep] at h; obtain ⟨a, dx, vs, ws, rfl, _⟩ := h; rfl
  | .ptr _, v, h => by simp only [Rep] at h; obtain ⟨e, _, rfl⟩ := h; rfl
  | .dct _ _, v, h => by simp only [Rep] at h; obtain ⟨a, vs, rfl, _⟩ := h; rfl
  | .scr _, v, h => by simp only [Rep] at h; obtain ⟨a, vs, rfl, _⟩ := h; rfl
theorem one {W : WX} {f : Env → M D} {k : D → M D} {r : V → Hp → VK → Prop} (hr : ∀ φ μ H x vx Q E, WOk c φ μ H → Rep c φ H x vx → wpM c (Rep c) (k x) φ μ H Q E → r vx H Q) (σ : L2.St) (H : Hp) (Q : VK)
    (h : tV c W (fun ρ => f ρ >>= k) σ H Q) : tV c W f σ H (fun x H1 => r x H1 Q) := by
  obtain ⟨φ, μ, ρ, w, he, h⟩ := h
  refine ⟨φ, μ, ρ, w, he, wp_mono (wp_bind h) fun x H1 z => ?_⟩
  obtain ⟨φ1, μ1, d1, L1, w1, r1, h1⟩ := z
  exact hr φ1 μ1 H1 d1 x Q _ w1 r1 h1
theorem ve_isN {j p2} (ha : VE X c W a f) : VE X c W (.Compare a [.Is] [.Constant .none j p2] pos) (fun ρ => f ρ >>= fun x => pure (.bl (isN x))) :=
  ⟨PE.weak (pe_cmp (pc_isN ha.pe) rfl) fun σ H Q q => one (r := fun x H Q => Q (.bl (decide (x = .non))) H) (fun φ μ H x vx Q E w r h => by
    rw [rep_isN r]
    exact wp_pure h w (by simp only [Rep])) σ H Q q⟩
theorem ve_notN {j p2} (ha : VE X c W a f) : VE X c W (.Compare a [.IsNot] [.Constant .none j p2] pos) (fun ρ => f ρ >>= fun x => pure (.bl (!isN x))) :=
  ⟨PE.weak (pe_cmp (pc_notN ha.pe) rfl) fun σ H Q q => one (r := fun x H Q => Q (.bl (!decide (x = .non))) H) (fun φ μ H x vx Q E w r h => by
    rw [rep_isN r]
    exact wp_pure h w (by simp only [Rep])) σ H Q q⟩
theorem vt_isN {j p2} (ha : VE X c W a f) : VT X c W (.Compare a [.Is] [.Constant .none j p2] pos) (fun ρ => f ρ >>= fun x => pure (isN x)) :=
  ⟨PT.weak (pt_cmp (pc_isN ha.pe) rfl) fun σ H Q h => by
    obtain ⟨φ, μ, ρ, w, he, h⟩ := h
    refine ⟨φ, μ, ρ, w, he, wp_mono (wp_bind h) fun x H1 z => ?_⟩
    obtain ⟨φ1, μ1, d1, L1, w1, r1, h1⟩ := z
    refine ⟨_, rfl, ?_⟩
    rw [rep_isN r1]
    exact wp_pure h1 w1 rfl⟩
theorem vt_notN {j p2} (ha : VE X c W a f) : VT X c W (.Compare a [.IsNot] [.Constant .none j p2] pos) (fun ρ => f ρ >>= fun x => pure (!isN x)) :=
  ⟨PT.weak (pt_cmp (pc_notN ha.pe) rfl) fun σ H Q h => by
    obtain ⟨φ, μ, ρ, w, he, h⟩ := h
    refine ⟨φ, μ, ρ, w, he, wp_mono (wp_bind h) fun x H1 z => ?_⟩
    obtain ⟨φ1, μ1, d1, L1, w1, r1, h1⟩ := z
    refine ⟨_, rfl, ?_⟩
    rw [rep_isN r1]
    exact wp_pure h1 w1 rfl⟩
/-! ### and, or, not, if -/
variable {ft gt : Env → M Bool} {rest : List Expr}
def tAnd (a b : M Bool) : M Bool := a >>= fun k => if k then b else pure false
def tOr (a b : M Bool) : M Bool := a >>= fun k => if k then pure true else b
theorem vt_of (h : VW X c W e ft) : VT X c W e ft := ⟨h.pw.pt⟩
theorem vw_and1 (ha : VT X c W a ft) : VW X c W (.BoolOp .And [a] pos) ft := ⟨pw_and1 ha.pt⟩
theorem vw_or1 (ha : VT X c W a ft) : VW X c W (.BoolOp .Or [a] pos) ft := ⟨pw_or1 ha.pt⟩
theorem tBind {W : WX} {f g : Env → M Bool} {k : Env → Bool → M Bool} {z : Bool → TT} (hz : ∀ b ρ σ φ μ H Q, WOk c φ μ H → RepE c φ H ρ σ → wpM c RB (k ρ b) φ μ H Q (wEx W σ) → z b σ H Q) (σ : L2.St) (H : Hp) (Q : Bool → Hp → Prop)
    (h : tT c W (fun ρ => f ρ >>= k ρ) σ H Q) : tT c W f σ H (fun b H1 => z b σ H1 Q) := by
  obtain ⟨φ, μ, ρ, w, he, h⟩ := h
  refine ⟨φ, μ, ρ, w, he, wp_mono (wp_bind h) fun x H1 y => ?_⟩
  obtain ⟨φ1, μ1, d1, L1, w1, r1, h1⟩ := y
  obtain rfl : x = d1 := r1
  exact hz x ρ σ φ1 μ1 H1 Q w1 (he.later L1) h1
theorem vw_and (ha : VT X c W a ft) (hb : VW X c W (.BoolOp .And (b :: rest) pos) gt) : VW X c W (.BoolOp .And (a :: b :: rest) pos) (fun ρ => tAnd (ft ρ) (gt ρ)) :=
  ⟨PW.weak (pw_and ha.pt hb.pw) fun σ H Q q => tBind (g := gt) (z := fun b σ H Q => if b = true then tT c W gt σ H Q else Q false H) (fun b ρ σ φ μ H Q w he h => by
    cases b
    · exact wp_pure (b := false) h w rfl
    · exact ⟨φ, μ, ρ, w, he, h⟩) σ H Q q⟩
theorem vw_or (ha : VT X c W a ft) (hb : VW X c W (.BoolOp .Or (b :: rest) pos) gt) : VW X c W (.BoolOp .Or (a :: b :: rest) pos) (fun ρ => tOr (ft ρ) (gt ρ)) :=
  ⟨PW.weak (pw_or ha.pt hb.pw) fun σ H Q q => tBind (g := gt) (z := fun b σ H Q => if b = true then Q true H else tT c W gt σ H Q) (fun b ρ σ φ μ H Q w he h => by
    cases b
    · exact ⟨φ, μ, ρ, w, he, h⟩
    · exact wp_pure (b := true) h w rfl) σ H Q q⟩
theorem vt_not (ha : VT X c W a ft) : VT X c W (.UnaryOp .Not a pos) (fun ρ => ft ρ >>= fun b => pure (!b)) :=
  ⟨PT.weak (pt_not ha.pt) fun σ H Q q => tBind (g := ft) (z := fun b σ H Q => Q (!b) H) (fun b ρ σ φ μ H Q w he h => wp_pure (b := !b) h w rfl) σ H Q q⟩
theorem tBindV {W : WX} {f : Env → M Bool} {k : Env → Bool → M D} {z : Bool → TE} (hz : ∀ b ρ σ φ μ H Q, WOk c φ μ H → RepE c φ H ρ σ → wpM c (Rep c) (k ρ b) φ μ H Q (wEx W σ) → z b σ H Q) (σ : L2.St) (H : Hp) (Q : VK)
    (h : tV c W (fun ρ => f ρ >>= k ρ) σ H Q) : tT c W f σ H (fun b H1 => z b σ H1 Q) := by
  obtain ⟨φ, μ, ρ, w, he, h⟩ := h
  refine ⟨φ, μ, ρ, w, he, wp_mono (wp_bind h) fun x H1 y => ?_⟩
  obtain ⟨φ1, μ1, d1, L1, w1, r1, h1⟩ := y
  obtain rfl : x = d1 := r1
  exact hz x ρ σ φ1 μ1 H1 Q w1 (he.later L1) h1
theorem ve_if {t : Expr} (ht : VT X c W t ft) (ha : VE X c W a f) (hb : VE X c W b g) : VE X c W (.IfExp t a b pos) (fun ρ => ft ρ >>= fun k => if k then f ρ else g ρ) :=
  ⟨PE.weak (pe_ifExp ht.pt ha.pe hb.pe) fun σ H Q q => tBindV (z := fun b σ H Q => if b = true then tV c W f σ H Q else tV c W g σ H Q) (fun b ρ σ φ μ H Q w he h => by
    cases b
    · exact ⟨φ, μ, ρ, w, he, h⟩
    · exact ⟨φ, μ, ρ, w, he, h⟩) σ H Q q⟩
/-- and, or, not as values: bools, but for the last -/
theorem tBindD {W : WX} {f : Env → M D} {k : Env → D → M D} {z : D → V → TE} (hz : ∀ d v ρ σ φ μ H Q, WOk c φ μ H → RepE c φ H ρ σ → Rep c φ H d v → wpM c (Rep c) (k ρ d) φ μ H Q (wEx W σ) → z d v σ H Q) (σ : L2.St) (H : Hp) (Q : VK)
    (h : tV c W (fun ρ => f ρ >>= k ρ) σ H Q) : tV c W f σ H (fun v H1 => ∃ d, z d v σ H1 Q) := by
  obtain ⟨φ, μ, ρ, w, he, h⟩ := h
  refine ⟨φ, μ, ρ, w, he, wp_mono (wp_bind h) fun x H1 y => ?_⟩
  obtain ⟨φ1, μ1, d1, L1, w1, r1, h1⟩ := y
  exact ⟨d1, hz d1 x ρ σ φ1 μ1 H1 Q w1 (he.later L1) r1 h1⟩
def andD (a b : M D) : M D := a >>= fun d => match d with
  | .bl true => b
  | .bl false => pure (.bl false)
  | _ => stuck
def orD (a b : M D) : M D := a >>= fun d => match d with
  | .bl true => pure (.bl true)
  | .bl false => b
  | _ => stuck
theorem tV_wk {W : WX} {f : Env → M D} {σ : L2.St} {H : Hp} {Q Q' : VK} (h : tV c W f σ H Q) (i : ∀ v H', Q v H' → Q' v H') : tV c W f σ H Q' := by
  obtain ⟨φ, μ, ρ, w, he, h⟩ := h
  exact ⟨φ, μ, ρ, w, he, wp_mono h i⟩
theorem ve_one {op} (h : VE X c W a f) : VE X c W (.BoolOp op [a] pos) f := ⟨pe_one h.pe⟩
theorem ve_and (ha : VE X c W a f) (hb : VE X c W (.BoolOp .And (b :: rest) pos) g) : VE X c W (.BoolOp .And (a :: b :: rest) pos) (fun ρ => andD (f ρ) (g ρ)) :=
  ⟨PE.weak (pe_and ha.pe hb.pe) fun σ H Q q => tV_wk (tBindD (z := fun d v σ H Q => ∃ k, v = .bl k ∧ if k = true then tV c W g σ H Q else Q (.bl false) H) (fun d v ρ σ φ μ H Q w he r h => by
    cases d with
    | bl k =>
      cases k
      · exact ⟨false, rep_bl r, show Q (.bl false) H from wp_pure (b := V.bl false) h w (by simp only [Rep])⟩
      · exact ⟨true, rep_bl r, φ, μ, ρ, w, he, h⟩
    | _ => exact wp_stuck h) σ H Q q) fun v H' ⟨d, z⟩ => z⟩
theorem ve_or (ha : VE X c W a f) (hb : VE X c W (.BoolOp .Or (b :: rest) pos) g) : VE X c W (.BoolOp .Or (a :: b :: rest) pos) (fun ρ => orD (f ρ) (g ρ)) :=
  ⟨PE.weak (pe_or ha.pe hb.pe) fun σ H Q q => tV_wk (tBindD (z := fun d v σ H Q => ∃ k, v = .bl k ∧ if k = true then Q (.bl true) H else tV c W g σ H Q) (fun d v ρ σ φ μ H Q w he r h => by
    cases d with
    | bl k =>
      cases k
      · exact ⟨false, rep_bl r, φ, μ, ρ, w, he, h⟩
      · exact ⟨true, rep_bl r, show Q (.bl true) H from wp_pure (b := V.bl true) h w (by simp only [Rep])⟩
    | _ => exact wp_stuck h) σ H Q q) fun v H' ⟨d, z⟩ => z⟩
def notD : D → M D
  | .bl b => pure (.bl (!b))
  | _ => stuck
theorem ve_not (ha : VE X c W a f) : VE X c W (.UnaryOp .Not a pos) (fun ρ => f ρ >>= notD) :=
  ⟨PE.weak (pe_not ha.pe) fun σ H Q q => one (r := fun x H Q => ∃ k, x = .bl k ∧ Q (.bl (!k)) H) (fun φ μ H x vx Q E w r h => by
    cases x with
    | bl b => exact ⟨b, rep_bl r, wp_pure h w (by simp only [Rep])⟩
    | _ => exact wp_stuck h) σ H Q q⟩
/-! ### argument lists, displays -/
variable {fl gl : Env → M (List D)}
theorem vl_nil : VL X c W [] (fun _ => pure []) := ⟨PA.weak pa_nil fun σ H Q h => by
  obtain ⟨φ, μ, ρ, w, he, h⟩ := h
  exact wp_pure (b := []) h w (by simp only [RepL])⟩
theorem vl_cons (ha : VE X c W e f) (hr : VL X c W es fl) (hs : starEach (e :: es) X.env = (false, eval e X.env) :: starEach es X.env := by rfl) : VL X c W (e :: es) (fun ρ => f ρ >>= fun x => fl ρ >>= fun r => pure (x :: r)) :=
  ⟨PA.weak (pa_cons ha.pe hr.pa hs) fun σ H Q h => by
    obtain ⟨φ, μ, ρ, w, he, h⟩ := h
    refine ⟨φ, μ, ρ, w, he, wp_mono (wp_bind h) fun x H1 y => ?_⟩
    obtain ⟨φ1, μ1, d1, L1, w1, r1, h1⟩ := y
    refine ⟨φ1, μ1, ρ, w1, he.later L1, wp_mono (wp_bind h1) fun xs H2 y => ?_⟩
    obtain ⟨φ2, μ2, d2, L2, w2, r2, h2⟩ := y
    exact wp_pure (b := x :: xs) h2 w2 (by simp only [RepL]; exact ⟨x, xs, rfl, r1.later L2.toKeep, r2⟩)⟩
/-- a display's length is within the line -/
def small (n : Nat) : Bool := decide (n ≤ sizeLine)
def mkTup (r : List D) : M D := ask (small r.length) >>= fun _ => pure (.tup r)
def mkLst (r : List D) : M D := ask (small r.length) >>= fun _ => pure (.lst r)
theorem ve_tup {x1} (h : VL X c W es fl) : VE X c W (.Tuple es x1 pos) (fun ρ => fl ρ >>= mkTup) :=
  ⟨PE.weak (pe_tup h.pa) fun σ H Q h => by
    obtain ⟨φ, μ, ρ, w, he, h⟩ := h
    refine ⟨φ, μ, ρ, w, he, wp_mono (wp_bind h) fun xs H1 y => ?_⟩
    obtain ⟨φ1, μ1, ds, L1, w1, r1, h1⟩ := y
    obtain ⟨hs, h1⟩ := wp_ask h1
    have hs := of_decide_eq_true hs
    refine ⟨r1.len ▸ hs, fun p np => wp_pureL h1 (Later.laid w1 np) (w1.laid np) ?_⟩
    simp only [Rep]
    exact ⟨p, xs, rfl, .inl ⟨.inl upd_same, w1.new np⟩, r1.later (Later.laid w1 np).toKeep⟩⟩
/-- a list that is never changed -/
theorem ve_lst (h : VL X c W es fl) : VE X c W (.List es pos) (fun ρ => fl ρ >>= mkLst) :=
  ⟨PE.weak (pe_lst h.pa) fun σ H Q h => by
    obtain ⟨φ, μ, ρ, w, he, h⟩ := h
    refine ⟨φ, μ, ρ, w, he, wp_mono (wp_bind h) fun xs H1 y => ?_⟩
    obtain ⟨φ1, μ1, ds, L1, w1, r1, h1⟩ := y
    obtain ⟨hs, h1⟩ := wp_ask h1
    have hs := of_decide_eq_true hs
    refine ⟨r1.len ▸ hs, fun p np => wp_pureL h1 (Later.laid w1 np) (w1.laid np) ?_⟩
    simp only [Rep]
    exact ⟨p, xs, rfl, .inl upd_same, w1.new np, r1.later (Later.laid w1 np).toKeep⟩⟩
end
end VL

namespace VL
open PySem PySem.Spec PyProof.Rows L2 LamX
section
variable {X : Cx} {c : Cn} {W : WX} {φ : Phi} {H : Hp} {μ : Mem}
/-! ### lists that are read; data -/
def readL : D → M (List D)
  | .lst xs => pure xs
  | .ptr k => fun μ => match μ[k]? with
    | some (.lst xs) => .ok xs μ
    | _ => .stuck
  | _ => stuck
theorem sqtK {K : PySem.W.Frag} {a : Addr} {vs : List V} (h : SqT K H0 a vs) : SqT K H a vs := by
  rcases h with (h | ⟨o, h⟩) | h
  · cases h
  · cases h
  · exact .inr h
theorem sqlK {K : PySem.W.Frag} {a : Addr} {vs : List V} (h : SqL K H0 a vs) : SqL K H a vs := by
  rcases h with (h | ⟨o, h⟩) | h
  · cases h
  · cases h
  · exact .inr h
theorem rep_tup {xs : List D} {v : V} (h : Rep c φ H (.tup xs) v) : ∃ a vs, v = .ref a ∧ SqT c.K H a vs ∧ RepL c φ H xs vs := by
  simp only [Rep] at h
  obtain ⟨a, vs, e, h, r⟩ := h
  refine ⟨a, vs, e, ?_, r⟩
  rcases h with ⟨h, _⟩ | h
  · exact .inl h
  · exact sqtK h
theorem rep_lst {xs : List D} {v : V} (h : Rep c φ H (.lst xs) v) : ∃ a vs, v = .ref a ∧ Rd H a (.lst vs) ∧ RepL c φ H xs vs := by
  simp only [Rep] at h
  obtain ⟨a, vs, e, h, _, r⟩ := h
  exact ⟨a, vs, e, h, r⟩
theorem rep_scr {xs : List D} {v : V} (h : Rep c φ H (.scr xs) v) : ∃ a vs, v = .ref a ∧ SqL c.K H a vs ∧ RepL c φ H xs vs := by
  simp only [Rep] at h
  obtain ⟨a, vs, e, h, r⟩ := h
  refine ⟨a, vs, e, ?_, r⟩
  rcases h with ⟨h, _⟩ | h
  · exact .inl h
  · exact sqlK h
theorem rep_int {i : Int} {v : V} (h : Rep c φ H (.int i) v) : v = .int i := by simpa only [Rep] using h
theorem rep_str {i : Str} {v : V} (h : Rep c φ H (.str i) v) : v = .str i := by simpa only [Rep] using h
theorem rep_non {v : V} (h : Rep c φ H .non v) : v = .non := by simpa only [Rep] using h
theorem of_int {i : Int} : Rep c φ H (.int i) (.int i) := by simp only [Rep]
theorem of_str {i : Str} : Rep c φ H (.str i) (.str i) := by simp only [Rep]
theorem of_bl {i : Bool} : Rep c φ H (.bl i) (.bl i) := by simp only [Rep]
theorem of_non : Rep c φ H .non .non := by simp only [Rep]
/-- what a bind of readL gives -/
theorem wp_readL {α β : Type} {R : Phi → Hp → α → β → Prop} {d : D} {v : V} {k : List D → M α} {Q : β → Hp → Prop} {E : XW} (h : wpM c R (readL d >>= k) φ μ H Q E) (w : WOk c φ μ H) (r : Rep c φ H d v) :
    ∃ xs a vs, v = .ref a ∧ Rd H a (.lst vs) ∧ RepL c φ H xs vs ∧ wpM c R (k xs) φ μ H Q E := by
  cases d with
  | lst xs =>
    obtain ⟨a, vs, e, hs, rl⟩ := rep_lst r
    exact ⟨xs, a, vs, e, hs, rl, h⟩
  | ptr i =>
    simp only [Rep] at r
    obtain ⟨e, hi, rfl⟩ := r
    obtain ⟨x, hx, hc⟩ := w.cell i e hi
    cases x with
    | lst xs =>
      obtain ⟨_, vs, hv, rl⟩ := hc
      refine ⟨xs, e.1, vs, rfl, .inl hv, rl, ?_⟩
      have e1 : (readL (.ptr i) >>= k) μ = k xs μ := by
        show M.bind (readL (.ptr i)) k μ = _
        unfold M.bind readL
        simp only [hx]
      unfold wpM at h ⊢
      rw [e1] at h
      exact h
    | dct C fs =>
      have e1 : (readL (.ptr i) >>= k) μ = .stuck := by
        show M.bind (readL (.ptr i)) k μ = _
        unfold M.bind readL
        simp only [hx]
      unfold wpM at h
      rw [e1] at h
      exact h.elim
  | _ => exact wp_stuck (α := α) (R := R) h
mutual
def toP : D → Option PyData
  | .non => some .none
  | .bl b => some (.bool b)
  | .int i => some (.int i)
  | .str z => some (.str z)
  | .tup xs => (toPs xs).map .tuple
  | .lst xs => (toPs xs).map .list
  | _ => none
def toPs : List D → Option (List PyData)
  | [] => some []
  | d :: ds => match toP d, toPs ds with
    | some p, some ps => some (p :: ps)
    | _, _ => none
end
mutual
theorem toP_dp : ∀ (d : D) (v : V) (p : PyData), Rep c φ H d v → toP d = some p → Dp c.K H v p
  | .non, v, p, r, e => by simp only [toP] at e; cases e; rw [rep_non r]; exact .non
  | .bl _, v, p, r, e => by simp only [toP] at e; cases e; rw [rep_bl r]; exact .bl _
  | .int _, v, p, r, e => by simp only [toP] at e; cases e; rw [rep_int r]; exact .int _
  | .str _, v, p, r, e => by simp only [toP] at e; cases e; rw [rep_str r]; exact .str _
  | .tup xs, v, p, r, e => by
    simp only [toP, Option.map_eq_some_iff] at e
    obtain ⟨ps, e, rfl⟩ := e
    obtain ⟨a, vs, rfl, hs, rl⟩ := rep_tup r
    exact .tup hs (toPs_dp xs vs ps rl e)
  | .lst xs, v, p, r, e => by
    simp only [toP, Option.map_eq_some_iff] at e
    obtain ⟨ps, e, rfl⟩ := e
    obtain ⟨a, vs, rfl, hs, rl⟩ := rep_lst r
    exact .lst (.inl hs) (toPs_dp xs vs ps rl e)
  | .ty _, v, p, r, e => by simp [toP] at e
  | .cls _, v, p, r, e => by simp [toP] at e
  | .fn _, v, p, r, e => by simp [toP] at e
  | .ins _ _, v, p, r, e => by simp [toP] at e
  | .ptr _, v, p, r, e => by simp [toP] at e
  | .dct _ _, v, p, r, e => by simp [toP] at e
  | .scr _, v, p, r, e => by simp [toP] at e
theorem toPs_dp : ∀ (ds : List D) (vs : List V) (ps : List PyData), RepL c φ H ds vs → toPs ds = some ps → DpAll c.K H vs ps
  | [], vs, ps, r, e => by
    simp only [toPs] at e; cases e
    simp only [RepL] at r; subst r
    exact .nil
  | d :: ds, vs, ps, r, e => by
    simp only [RepL] at r
    obtain ⟨v, rest, rfl, r1, r2⟩ := r
    simp only [toPs] at e
    split at e
    · rename_i p ps' h1 h2
      cases e
      exact .cons (toP_dp d v p r1 h1) (toPs_dp ds rest ps' r2 h2)
    · cases e
end
/-- data of a value, a list of the store's among them -/
def datum (d : D) : M PyData := match d with
  | .ptr k => readL (.ptr k) >>= fun xs => match toP (.lst xs) with
    | some p => pure p
    | none => stuck
  | d => match toP d with
    | some p => pure p
    | none => stuck
theorem wp_datum {α β : Type} {R : Phi → Hp → α → β → Prop} {d : D} {v : V} {k : PyData → M α} {Q : β → Hp → Prop} {E : XW} (h : wpM c R (datum d >>= k) φ μ H Q E) (w : WOk c φ μ H) (r : Rep c φ H d v) :
    ∃ p, Dp c.K H v p ∧ wpM c R (k p) φ μ H Q E := by
  by_cases hp : ∃ i, d = .ptr i
  · obtain ⟨i, rfl⟩ := hp
    have e : (datum (.ptr i) >>= k) μ = (readL (.ptr i) >>= fun xs => (match toP (.lst xs) with | some p => pure p | none => stuck) >>= k) μ := by
      show M.bind (M.bind _ _) k μ = M.bind _ (fun xs => M.bind _ k) μ
      unfold M.bind
      cases readL (.ptr i) μ <;> rfl
    have h2 : wpM c R (readL (.ptr i) >>= fun xs => (match toP (.lst xs) with | some p => pure p | none => stuck) >>= k) φ μ H Q E := by
      unfold wpM at h ⊢
      rw [e] at h
      exact h
    obtain ⟨xs, a, vs, rfl, hs, rl, h3⟩ := wp_readL h2 w r
    cases hx : toP (.lst xs) with
    | none => rw [hx] at h3; exact wp_stuck (α := α) (R := R) h3
    | some p =>
      rw [hx] at h3
      refine ⟨p, ?_, h3⟩
      simp only [toP, Option.map_eq_some_iff] at hx
      obtain ⟨ps, hx, rfl⟩ := hx
      exact .lst (.inl hs) (toPs_dp xs vs ps rl hx)
  · have e : datum d = match toP d with | some p => pure p | none => stuck := by
      cases d <;> first | rfl | exact absurd ⟨_, rfl⟩ hp
    rw [e] at h
    cases hx : toP d with
    | none => rw [hx] at h; exact wp_stuck (α := α) (R := R) h
    | some p =>
      rw [hx] at h
      exact ⟨p, toP_dp d v p r hx, h⟩
/-! ### operators -/
theorem OpV.mk {f : Value → Value → Sem Value} {g : D → D → M D} {r : R2} (h : OpR X f r) (i : ∀ φ μ H x y vx vy Q E, WOk c φ μ H → Rep c φ H x vx → Rep c φ H y vy → wpM c (Rep c) (g x y) φ μ H Q E → r vx vy H Q) : OpV X c f g := ⟨r, h, i⟩
def dAdd : D → D → M D
  | .int i, .int j => pure (.int (i + j))
  | .str a, .str b => ask (small (a.length + b.length)) >>= fun _ => pure (.str (a ++ b))
  | .tup a, .tup b => ask (small (a.length + b.length)) >>= fun _ => pure (.tup (a ++ b))
  | x, y => readL x >>= fun a => readL y >>= fun b => ask (small (a.length + b.length)) >>= fun _ => pure (.lst (a ++ b))
def rCatL (_ : PySem.W.Frag) : R2 := fun x y H Q => ∃ l b xs zs, x = .ref l ∧ y = .ref b ∧ Rd H l (.lst xs) ∧ Rd H b (.lst zs) ∧ xs.length + zs.length ≤ sizeLine ∧ ∀ p, H p = none → Q (.ref p) (upd H p (.lst (xs ++ zs)))
theorem op_catL : OpR X (binaryOp .Add) (rCatL X.K) := by
  intro pins s σ H x y v u Q I rx ry h
  obtain ⟨l, b, xs, zs, rfl, rfl, hH, hB, hz, q⟩ := h
  cases rx
  cases ry
  obtain ⟨z, its, n, r, e⟩ := hH.ok I.hok
  obtain ⟨z2, its2, n2, r2, e2⟩ := hB.ok I.hok
  have hl := r.length
  have hl2 := r2.length
  refine PySem.P.add_list e e2 ?_ (by rw [List.size_toArray, List.size_toArray]; omega)
  have ea : its.toArray ++ its2.toArray = (its ++ its2).toArray := by simp
  rw [ea]
  exact ⟨.ref _, _, I.lnew (t' := s.toks) (r.append r2) (by rw [List.length_append]; omega), rfl, q _ I.fresh⟩
theorem tup_new (w : WOk c φ μ H) {p : Addr} {vs : List V} {ds : List D} (np : H p = none) (r : RepL c φ H ds vs) : Rep c φ (upd H p (.tup vs)) (.tup ds) (.ref p) := by
  simp only [Rep]
  exact ⟨p, vs, rfl, .inl ⟨.inl upd_same, w.new np⟩, r.later (Later.laid w np).toKeep⟩
theorem lst_new (w : WOk c φ μ H) {p : Addr} {vs : List V} {ds : List D} (np : H p = none) (r : RepL c φ H ds vs) : Rep c φ (upd H p (.lst vs)) (.lst ds) (.ref p) := by
  simp only [Rep]
  exact ⟨p, vs, rfl, .inl upd_same, w.new np, r.later (Later.laid w np).toKeep⟩
theorem opv_add (hK : X.K = c.K) : OpV X c (binaryOp .Add) dAdd := by
  refine .mk (((op_add.or op_add_str).or op_catA).or op_catL) fun φ μ H x y vx vy Q E w r1 r2 h => ?_
  rw [hK]
  have lists : ∀ (h : wpM c (Rep c) (readL x >>= fun a => readL y >>= fun b => ask (small (a.length + b.length)) >>= fun _ => pure (.lst (a ++ b))) φ μ H Q E), rCatL c.K vx vy H Q := fun h => by
    obtain ⟨xs, a, vs, rfl, hs, rl, h⟩ := wp_readL h w r1
    obtain ⟨ys, b, ws, rfl, hs2, rl2, h⟩ := wp_readL h w r2
    obtain ⟨hz, h⟩ := wp_ask h
    have hz := of_decide_eq_true hz
    rw [rl.len, rl2.len] at hz
    exact ⟨a, b, vs, ws, rfl, rfl, hs, hs2, hz, fun p np => wp_pureL h (Later.laid w np) (w.laid np) (lst_new w np (rl.app rl2))⟩
  unfold dAdd at h
  split at h
  · rw [rep_int r1, rep_int r2]
    exact .inl (.inl (.inl ⟨_, _, rfl, rfl, wp_pure h w of_int⟩))
  · obtain ⟨hz, h⟩ := wp_ask h
    rw [rep_str r1, rep_str r2]
    exact .inl (.inl (.inr ⟨_, _, rfl, rfl, of_decide_eq_true hz, wp_pure h w of_str⟩))
  · obtain ⟨hz, h⟩ := wp_ask h
    have hz := of_decide_eq_true hz
    obtain ⟨a, vs, rfl, hs, rl⟩ := rep_tup r1
    obtain ⟨b, ws, rfl, hs2, rl2⟩ := rep_tup r2
    rw [rl.len, rl2.len] at hz
    refine .inl (.inr ⟨a, b, vs, ws, rfl, rfl, hs, hs2, hz, fun e => ?_, fun _ e => ?_, fun _ _ p np => wp_pureL h (Later.laid w np) (w.laid np) (tup_new w np (rl.app rl2))⟩)
    · subst e
      have := rl.len
      obtain rfl : (_ : List D) = [] := List.eq_nil_of_length_eq_zero this
      exact wp_pure h w r2
    · subst e
      have := rl2.len
      obtain rfl : (_ : List D) = [] := List.eq_nil_of_length_eq_zero this
      rw [List.append_nil] at h
      exact wp_pure h w r1
  · exact .inr (lists h)
def intOp (ok : Int → Int → Bool) (g : Int → Int → D) : D → D → M D
  | .int i, .int j => ask (ok i j) >>= fun _ => pure (g i j)
  | _, _ => stuck
def intOp0 (g : Int → Int → D) : D → D → M D
  | .int i, .int j => pure (g i j)
  | _, _ => stuck
theorem opv_int {f : Value → Value → Sem Value} {C : Int → Int → Prop} {g : Int → Int → V} {g' : Int → Int → D} {ok : Int → Int → Bool} (h : OpR X f (rI C g)) (hc : ∀ i j, ok i j = true → C i j) (hg : ∀ φ H i j, Rep c φ H (g' i j) (g i j)) : OpV X c f (intOp ok g') := by
  refine .mk h fun φ μ H x y vx vy Q E w r1 r2 h => ?_
  unfold intOp at h
  split at h
  · obtain ⟨hz, h⟩ := wp_ask h
    rw [rep_int r1, rep_int r2]
    exact ⟨_, _, rfl, rfl, hc _ _ hz, wp_pure h w (hg _ _ _ _)⟩
  · exact wp_stuck h
theorem opv_int0 {f : Value → Value → Sem Value} {g : Int → Int → V} {g' : Int → Int → D} (h : OpR X f (rI0 g)) (hg : ∀ φ H i j, Rep c φ H (g' i j) (g i j)) : OpV X c f (intOp0 g') := by
  refine .mk h fun φ μ H x y vx vy Q E w r1 r2 h => ?_
  unfold intOp0 at h
  split at h
  · rw [rep_int r1, rep_int r2]
    exact ⟨_, _, rfl, rfl, wp_pure h w (hg _ _ _ _)⟩
  · exact wp_stuck h
abbrev dSub := intOp0 fun i j => .int (i - j)
abbrev dMul := intOp (fun i j => decide (i.natAbs.log2 + j.natAbs.log2 < 1000000)) fun i j => .int (i * j)
abbrev dDiv := intOp (fun _ j => decide (0 < j ∧ j.natAbs.log2 < 9000)) fun i j => .int (i / j)
abbrev dMod := intOp (fun _ j => decide (0 < j)) fun i j => .int (i % j)
abbrev dPow := intOp (fun i j => decide (0 ≤ j ∧ j ≤ 1000000 ∧ i.natAbs < 2 ^ 64)) fun i j => .int (i ^ j.toNat)
theorem opv_sub : OpV X c (binaryOp .Sub) dSub := opv_int0 op_sub fun _ _ _ _ => of_int
theorem opv_mul : OpV X c (binaryOp .Mult) dMul := opv_int op_mulW (fun i j h => @of_decide_eq_true (i.natAbs.log2 + j.natAbs.log2 < 1000000) _ h) fun _ _ _ _ => of_int
theorem opv_div : OpV X c (binaryOp .FloorDiv) dDiv := opv_int op_fdivW (fun i j h => @of_decide_eq_true (0 < j ∧ j.natAbs.log2 < 9000) _ h) fun _ _ _ _ => of_int
theorem opv_mod : OpV X c (binaryOp .Mod) dMod := opv_int op_mod (fun _ _ h => of_decide_eq_true h) fun _ _ _ _ => of_int
theorem opv_pow : OpV X c (binaryOp .Pow) dPow := opv_int op_pow (fun i j h => @of_decide_eq_true (0 ≤ j ∧ j ≤ 1000000 ∧ i.natAbs < 2 ^ 64) _ h) fun _ _ _ _ => of_int
/-- orders: ints, texts -/
def cmpD (fi : Int → Int → Bool) (fs : Str → Str → Bool) : D → D → M D
  | .int i, .int j => pure (.bl (fi i j))
  | .str i, .str j => pure (.bl (fs i j))
  | _, _ => stuck
theorem opv_cmp {f : Value → Value → Sem Value} {fi : Int → Int → Bool} {fs : Str → Str → Bool} (h : OpR X f (rI0 fun i j => .bl (fi i j))) (h2 : OpR X f (fun x y H Q => ∃ i j, x = .str i ∧ y = .str j ∧ Q (.bl (fs i j)) H)) : OpV X c f (cmpD fi fs) := by
  refine .mk (h.or h2) fun φ μ H x y vx vy Q E w r1 r2 h => ?_
  unfold cmpD at h
  split at h
  · rw [rep_int r1, rep_int r2]
    exact .inl ⟨_, _, rfl, rfl, wp_pure h w of_bl⟩
  · rw [rep_str r1, rep_str r2]
    exact .inr ⟨_, _, rfl, rfl, wp_pure h w of_bl⟩
  · exact wp_stuck h
abbrev dLt := cmpD (fun i j => decide (i < j)) fun a b => decide (a.cps.toList < b.cps.toList)
abbrev dLe := cmpD (fun i j => decide (i ≤ j)) fun a b => !decide (b.cps.toList < a.cps.toList)
abbrev dGt := cmpD (fun i j => decide (j < i)) fun a b => decide (b.cps.toList < a.cps.toList)
abbrev dGe := cmpD (fun i j => decide (j ≤ i)) fun a b => !decide (a.cps.toList < b.cps.toList)
theorem opv_lt : OpV X c (compareOp .Lt) dLt := opv_cmp op_lt op_lt_str
theorem opv_le : OpV X c (compareOp .LtE) dLe := opv_cmp op_le op_le_str
theorem opv_gt : OpV X c (compareOp .Gt) dGt := opv_cmp op_gt op_gt_str
theorem opv_ge : OpV X c (compareOp .GtE) dGe := opv_cmp op_ge op_ge_str
/-- == : texts as texts, all else as data -/
def eqB : D → D → M Bool
  | .str a, .str b => pure (decide (a = b))
  | .int a, .int b => pure (decide (a = b))
  | x, y => datum x >>= fun p => datum y >>= fun q => ask (SeqAt.shaped p && SeqAt.shaped q) >>= fun _ => pure (PyData.eqv p q)
def dEq (x y : D) : M D := eqB x y >>= fun b => pure (.bl b)
def dNe (x y : D) : M D := eqB x y >>= fun b => pure (.bl (!b))
theorem wp_eqB {x y : D} {vx vy : V} {k : Bool → M D} {Q : VK} {E : XW} (w : WOk c φ μ H) (r1 : Rep c φ H x vx) (r2 : Rep c φ H y vy) (h : wpM c (Rep c) (eqB x y >>= k) φ μ H Q E) :
    ∃ b, wpM c (Rep c) (k b) φ μ H Q E ∧ ((scal vx vy = true ∧ decide (vx = vy) = b) ∨ ∃ d e, Dp c.K H vx d ∧ Dp c.K H vy e ∧ SeqAt.shaped d = true ∧ SeqAt.shaped e = true ∧ PyData.eqv d e = b) := by
  unfold eqB at h
  split at h
  · rw [rep_str r1, rep_str r2]
    refine ⟨_, h, .inl ⟨rfl, ?_⟩⟩
    simp
  · rw [rep_int r1, rep_int r2]
    refine ⟨_, h, .inl ⟨rfl, ?_⟩⟩
    simp
  · have h : wpM c (Rep c) (datum x >>= fun p => datum y >>= fun q => ask (SeqAt.shaped p && SeqAt.shaped q) >>= fun _ => k (PyData.eqv p q)) φ μ H Q E := by
      have e : ∀ {m : M PyData} {n : M PyData}, ((m >>= fun p => n >>= fun q => ask (SeqAt.shaped p && SeqAt.shaped q) >>= fun _ => pure (PyData.eqv p q)) >>= k) μ = (m >>= fun p => n >>= fun q => ask (SeqAt.shaped p && SeqAt.shaped q) >>= fun _ => k (PyData.eqv p q)) μ := fun {m n} => by
        show M.bind (M.bind m fun p => M.bind n fun q => M.bind (ask _) fun _ => M.pure _) k μ = M.bind m (fun p => M.bind n fun q => M.bind (ask _) fun _ => k _) μ
        unfold M.bind M.pure
        cases m μ with
        | ok p μ1 =>
          simp only
          cases n μ1 with
          | ok q μ2 =>
            simp only
            cases ask (SeqAt.shaped p && SeqAt.shaped q) μ2 <;> rfl
          | exn _ _ => rfl
          | stuck => rfl
        | exn _ _ => rfl
        | stuck => rfl
      unfold wpM at h ⊢
      rw [e] at h
      exact h
    obtain ⟨p, d1, h⟩ := wp_datum h w r1
    obtain ⟨q, d2, h⟩ := wp_datum h w r2
    obtain ⟨hs, h⟩ := wp_ask h
    rw [Bool.and_eq_true] at hs
    exact ⟨_, h, .inr ⟨p, q, d1, d2, hs.1, hs.2, rfl⟩⟩
theorem opv_eq (hK : X.K = c.K) (hu : X.A.units + 64 < cLine) : OpV X c (compareOp .Eq) dEq := by
  refine .mk (op_eq.or (op_eqD hu)) fun φ μ H x y vx vy Q E w r1 r2 h => ?_
  rw [hK]
  obtain ⟨b, h, z⟩ := wp_eqB w r1 r2 h
  have q := wp_pure h w of_bl
  rcases z with ⟨z1, z2⟩ | ⟨d, e, h1, h2, h3, h4, z⟩
  · exact .inl ⟨z1, by rw [z2]; exact q⟩
  · exact .inr ⟨d, e, h1, h2, h3, h4, by rw [z]; exact q⟩
theorem opv_ne (hK : X.K = c.K) (hu : X.A.units + 64 < cLine) : OpV X c (compareOp .NotEq) dNe := by
  refine .mk (op_ne.or (op_neD hu)) fun φ μ H x y vx vy Q E w r1 r2 h => ?_
  rw [hK]
  obtain ⟨b, h, z⟩ := wp_eqB w r1 r2 h
  have q := wp_pure h w of_bl
  rcases z with ⟨z1, z2⟩ | ⟨d, e, h1, h2, h3, h4, z⟩
  · exact .inl ⟨z1, by rw [z2]; exact q⟩
  · exact .inr ⟨d, e, h1, h2, h3, h4, by rw [z]; exact q⟩
end
end VL

namespace VL
open PySem PySem.Spec PyProof.Rows L2 LamX
/-! ### statements -/
/-- an expression within a statement: what it raises is the statement's -/
def liftS {α : Type} (ρ : Env) (m : M α) (k : α → M Flow) : M Flow := fun μ => match m μ with
  | .ok a μ' => k a μ'
  | .exn e μ' => .ok (.xc ρ e) μ'
  | .stuck => .stuck
/-- a store: it raises nothing -/
def liftT {α : Type} (m : M Env) (k : Env → M α) : M α := fun μ => match m μ with
  | .ok a μ' => k a μ'
  | _ => .stuck
def seqM (m : M Flow) (k : Env → M Flow) : M Flow := m >>= fun fl => match fl with
  | .nx ρ => k ρ
  | fl => pure fl
section
variable {X : Cx} {c : Cn} {W : WX} {φ φ' : Phi} {H H' : Hp} {μ μ' : Mem} {ρ : Env} {σ : L2.St} {D0 : Ends}
theorem wpS_later {m : M Flow} (h : wpS c m φ μ H D0 W) (L : LaterS c φ H φ' H') {m' : M Flow} (e : m' μ' = m μ) : wpS c m' φ' μ' H' D0 W := by
  unfold wpS at h ⊢
  rw [e]
  cases hm : m μ with
  | ok a μ1 =>
    rw [hm] at h
    cases a with
    | nx ρ => exact fun p q s L1 => h p q s (L.trans L1)
    | rt d => exact fun p q s L1 => h p q s (L.trans L1)
    | bk ρ => exact fun p q s L1 => h p q s (L.trans L1)
    | ct ρ => exact fun p q s L1 => h p q s (L.trans L1)
    | xc ρ e => exact fun p q s k d L1 => h p q s k d (L.trans L1)
  | exn e μ1 => rw [hm] at h; exact h
  | stuck => rw [hm] at h; exact h
theorem wpS_lift {α β : Type} {R : Phi → Hp → α → β → Prop} {m : M α} {k : α → M Flow} (h : wpS c (liftS ρ m k) φ μ H D0 W) (he : RepE c φ H ρ σ) :
    wpM c R m φ μ H (fun b H1 => ∃ φ1 μ1 a, Later φ H φ1 H1 ∧ WOk c φ1 μ1 H1 ∧ R φ1 H1 a b ∧ wpS c (k a) φ1 μ1 H1 D0 W) (wEx W σ) := by
  unfold wpM
  cases hm : m μ with
  | ok a μ1 => exact fun φ1 H1 b L w r => ⟨φ1, μ1, a, L, w, r, wpS_later h L.toS (by unfold liftS; rw [hm])⟩
  | exn e μ1 =>
    intro φ1 H1 k1 d L w r
    unfold wpS liftS at h
    rw [hm] at h
    exact h φ1 H1 σ k1 d L.toS w (he.later L) r
  | stuck =>
    unfold wpS liftS at h
    rw [hm] at h
    exact h
/-- m a store: what it leaves, then the rest -/
def wpT (c : Cn) (m : M Env) (φ : Phi) (μ : Mem) (H : Hp) (R : L2.St → Hp → Prop) : Prop := match m μ with
  | .ok ρ μ' => ∀ φ' H' σ', Later φ H φ' H' → WOk c φ' μ' H' → RepE c φ' H' ρ σ' → R σ' H'
  | _ => False
theorem wpT_mono {m : M Env} {R R' : L2.St → Hp → Prop} (h : wpT c m φ μ H R) (i : ∀ σ H, R σ H → R' σ H) : wpT c m φ μ H R' := by
  unfold wpT at h ⊢
  split at h
  · exact fun p q s L w r => i _ _ (h p q s L w r)
  · exact h
theorem wpS_liftT {m : M Env} {k : Env → M Flow} (h : wpS c (liftT m k) φ μ H D0 W) :
    wpT c m φ μ H (fun σ1 H1 => ∃ φ1 μ1 ρ1, Later φ H φ1 H1 ∧ WOk c φ1 μ1 H1 ∧ RepE c φ1 H1 ρ1 σ1 ∧ wpS c (k ρ1) φ1 μ1 H1 D0 W) := by
  unfold wpT
  cases hm : m μ with
  | ok a μ1 => exact fun φ1 H1 b L w r => ⟨φ1, μ1, a, L, w, r, wpS_later h L.toS (by unfold liftT; rw [hm])⟩
  | exn e μ1 => unfold wpS liftT at h; rw [hm] at h; exact h
  | stuck => unfold wpS liftT at h; rw [hm] at h; exact h
theorem wpT_liftT {m : M Env} {k : Env → M Env} {R : L2.St → Hp → Prop} (h : wpT c (liftT m k) φ μ H R) :
    wpT c m φ μ H (fun σ1 H1 => ∃ φ1 μ1 ρ1, Later φ H φ1 H1 ∧ WOk c φ1 μ1 H1 ∧ RepE c φ1 H1 ρ1 σ1 ∧ wpT c (k ρ1) φ1 μ1 H1 R) := by
  unfold wpT liftT at h
  unfold wpT
  cases hm : m μ with
  | ok a μ1 =>
    rw [hm] at h
    refine fun φ1 H1 b L w r => ⟨φ1, μ1, a, L, w, r, ?_⟩
    simp only at h
    cases hk : k a μ1 with
    | ok ρ2 μ2 =>
      rw [hk] at h
      exact fun φ2 H2 σ2 L2 w2 he2 => h φ2 H2 σ2 (L.trans L2) w2 he2
    | exn _ _ => rw [hk] at h; exact h
    | stuck => rw [hk] at h; exact h
  | exn e μ1 => rw [hm] at h; exact h
  | stuck => rw [hm] at h; exact h
theorem wpS_nx (h : wpS c (pure (.nx ρ)) φ μ H D0 W) (w : WOk c φ μ H) (he : RepE c φ H ρ σ) : D0.nx σ H := h φ H σ .refl w he
theorem wpS_rt {d : D} {v : V} (h : wpS c (pure (.rt d)) φ μ H D0 W) (w : WOk c φ μ H) (r : Rep c φ H d v) : D0.rt v H := h φ H v .refl w r
theorem wpS_bind {m : M Flow} {k : Flow → M Flow} {D1 : Ends} (h : wpS c (m >>= k) φ μ H D0 W)
    (hn : ∀ φ1 μ1 H1 ρ1 σ1, LaterS c φ H φ1 H1 → WOk c φ1 μ1 H1 → RepE c φ1 H1 ρ1 σ1 → wpS c (k (.nx ρ1)) φ1 μ1 H1 D0 W → D1.nx σ1 H1)
    (hr : ∀ φ1 μ1 H1 d v, LaterS c φ H φ1 H1 → WOk c φ1 μ1 H1 → Rep c φ1 H1 d v → wpS c (k (.rt d)) φ1 μ1 H1 D0 W → D1.rt v H1)
    (hb : ∀ φ1 μ1 H1 ρ1 σ1, LaterS c φ H φ1 H1 → WOk c φ1 μ1 H1 → RepE c φ1 H1 ρ1 σ1 → wpS c (k (.bk ρ1)) φ1 μ1 H1 D0 W → D1.bk σ1 H1)
    (hc : ∀ φ1 μ1 H1 ρ1 σ1, LaterS c φ H φ1 H1 → WOk c φ1 μ1 H1 → RepE c φ1 H1 ρ1 σ1 → wpS c (k (.ct ρ1)) φ1 μ1 H1 D0 W → D1.ct σ1 H1)
    (hx : ∀ φ1 μ1 H1 ρ1 σ1 e k1 d, LaterS c φ H φ1 H1 → WOk c φ1 μ1 H1 → RepE c φ1 H1 ρ1 σ1 → RepX c φ1 H1 e k1 d → wpS c (k (.xc ρ1 e)) φ1 μ1 H1 D0 W → W k1 d σ1 H1) : wpS c m φ μ H D1 W := by
  have e : ∀ a μ1, m μ = .ok a μ1 → (m >>= k) μ = k a μ1 := fun a μ1 q => by
    show M.bind m k μ = _
    unfold M.bind
    rw [q]
  have e2 : ∀ x μ1, m μ = .exn x μ1 → (m >>= k) μ = .exn x μ1 := fun a μ1 q => by
    show M.bind m k μ = _
    unfold M.bind
    rw [q]
  have e3 : m μ = .stuck → (m >>= k) μ = .stuck := fun q => by
    show M.bind m k μ = _
    unfold M.bind
    rw [q]
  have later : ∀ a μ1 φ1 H1, m μ = .ok a μ1 → LaterS c φ H φ1 H1 → wpS c (k a) φ1 μ1 H1 D0 W := fun a μ1 φ1 H1 q L => wpS_later h L (e a μ1 q).symm
  unfold wpS
  cases hm : m μ with
  | ok a μ1 =>
    cases a with
    | nx ρ => exact fun φ1 H1 s L w r => hn φ1 μ1 H1 ρ s L w r (later _ _ _ _ hm L)
    | rt d => exact fun φ1 H1 v L w r => hr φ1 μ1 H1 d v L w r (later _ _ _ _ hm L)
    | bk ρ => exact fun φ1 H1 s L w r => hb φ1 μ1 H1 ρ s L w r (later _ _ _ _ hm L)
    | ct ρ => exact fun φ1 H1 s L w r => hc φ1 μ1 H1 ρ s L w r (later _ _ _ _ hm L)
    | xc ρ x => exact fun φ1 H1 s k1 d L w r rx => hx φ1 μ1 H1 ρ s x k1 d L w r rx (later _ _ _ _ hm L)
  | exn x μ1 => unfold wpS at h; rw [e2 x μ1 hm] at h; exact h
  | stuck => unfold wpS at h; rw [e3 hm] at h; exact h
/-! #### small statements -/
variable {st : Stmt} {rest : List Stmt} {e : Expr} {f : Env → M D} {s u : Env → M Flow} {pos : Pos}
theorem vb_nil : VB X c W [] (fun ρ => pure (.nx ρ)) := ⟨PSs.weak pss_nil fun D σ H h => by
  obtain ⟨φ, μ, ρ, w, he, h⟩ := h
  exact wpS_nx h w he⟩
theorem vb_one (h : VS X c W st s) : VB X c W [st] s := ⟨pss_one h.ps⟩
theorem vb_cons (h1 : VS X c W st s) (h2 : VB X c W rest u) : VB X c W (st :: rest) (fun ρ => seqM (s ρ) u) := ⟨PSs.weak (pss_cons h1.ps h2.ps) fun D σ H h => by
  obtain ⟨φ, μ, ρ, w, he, h⟩ := h
  refine ⟨φ, μ, ρ, w, he, wpS_bind h ?_ ?_ ?_ ?_ ?_⟩
  · exact fun φ1 μ1 H1 ρ1 σ1 L w1 r h1 => ⟨φ1, μ1, ρ1, w1, r, h1⟩
  · exact fun φ1 μ1 H1 d v L w1 r h1 => h1 φ1 H1 v .refl w1 r
  · exact fun φ1 μ1 H1 ρ1 σ1 L w1 r h1 => h1 φ1 H1 σ1 .refl w1 r
  · exact fun φ1 μ1 H1 ρ1 σ1 L w1 r h1 => h1 φ1 H1 σ1 .refl w1 r
  · exact fun φ1 μ1 H1 ρ1 σ1 e k1 d L w1 r rx h1 => h1 φ1 H1 σ1 k1 d .refl w1 r rx⟩
theorem vs_pass : VS X c W (.Pass pos) (fun ρ => pure (.nx ρ)) := ⟨PS.weak ps_pass fun D σ H h => by
  obtain ⟨φ, μ, ρ, w, he, h⟩ := h
  exact wpS_nx h w he⟩
theorem vs_doc {x j p2} : VS X c W (.Expr (.Constant (.str x) j p2) pos) (fun ρ => pure (.nx ρ)) := ⟨PS.weak ps_doc fun D σ H h => by
  obtain ⟨φ, μ, ρ, w, he, h⟩ := h
  exact wpS_nx h w he⟩
theorem vs_break : VS X c W (.Break pos) (fun ρ => pure (.bk ρ)) := ⟨PS.weak ps_break fun D σ H h => by
  obtain ⟨φ, μ, ρ, w, he, h⟩ := h
  exact h φ H σ .refl w he⟩
theorem vs_cont : VS X c W (.Continue pos) (fun ρ => pure (.ct ρ)) := ⟨PS.weak ps_continue fun D σ H h => by
  obtain ⟨φ, μ, ρ, w, he, h⟩ := h
  exact h φ H σ .refl w he⟩
theorem vs_expr (h : VE X c W e f) (hs : swapsWith e none pos.line X.env = pure false := by rfl) : VS X c W (.Expr e pos) (fun ρ => liftS ρ (f ρ) fun _ => pure (.nx ρ)) := ⟨PS.weak (ps_expr h.pe hs) fun D σ H h => by
  obtain ⟨φ, μ, ρ, w, he, h⟩ := h
  refine ⟨φ, μ, ρ, w, he, wp_mono (wpS_lift (R := Rep c) h he) fun v H1 z => ?_⟩
  obtain ⟨φ1, μ1, d, L, w1, r, h1⟩ := z
  exact wpS_nx h1 w1 (he.later L)⟩
theorem vs_ret (h : VE X c W e f) : VS X c W (.Return (some e) pos) (fun ρ => liftS ρ (f ρ) fun d => pure (.rt d)) := ⟨PS.weak (ps_ret h.pe) fun D σ H h => by
  obtain ⟨φ, μ, ρ, w, he, h⟩ := h
  refine ⟨φ, μ, ρ, w, he, wp_mono (wpS_lift (R := Rep c) h he) fun v H1 z => ?_⟩
  obtain ⟨φ1, μ1, d, L, w1, r, h1⟩ := z
  exact wpS_rt h1 w1 r⟩
theorem vs_retN : VS X c W (.Return none pos) (fun _ => pure (.rt .non)) := ⟨PS.weak ps_retN fun D σ H h => by
  obtain ⟨φ, μ, ρ, w, he, h⟩ := h
  exact wpS_rt h w of_non⟩
theorem vs_if {t : Expr} {a b : List Stmt} {ft : Env → M Bool} (ht : VT X c W t ft) (ha : VB X c W a s) (hb : VB X c W b u) : VS X c W (.If t a b pos) (fun ρ => liftS ρ (ft ρ) fun k => if k then s ρ else u ρ) := ⟨PS.weak (ps_if ht.pt ha.ps hb.ps) fun D σ H h => by
  obtain ⟨φ, μ, ρ, w, he, h⟩ := h
  refine ⟨φ, μ, ρ, w, he, wp_mono (wpS_lift (R := RB) h he) fun v H1 z => ?_⟩
  obtain ⟨φ1, μ1, d, L, w1, r, h1⟩ := z
  obtain rfl : v = d := r
  cases v
  · exact ⟨φ1, μ1, ρ, w1, he.later L, h1⟩
  · exact ⟨φ1, μ1, ρ, w1, he.later L, h1⟩⟩
/-! #### targets -/
/-- but for the slots is all is as it was -/
def Only (is : List Nat) (σ σ' : L2.St) : Prop := σ'.length = σ.length ∧ ∀ i, i ∉ is → σ'[i]? = σ[i]?
theorem Only.refl {is : List Nat} : Only is σ σ := ⟨rfl, fun _ _ => rfl⟩
theorem Only.set {i : Nat} {v : Option V} : Only [i] σ (σ.set i v) := ⟨List.length_set, fun j h => List.getElem?_set_ne fun z => h (by simp [z])⟩
theorem Only.trans {is js : List Nat} {σ1 σ2 : L2.St} (a : Only is σ σ1) (b : Only js σ1 σ2) : Only (is ++ js) σ σ2 := ⟨b.1.trans a.1, fun i h => (b.2 i fun z => h (List.mem_append.mpr (.inr z))).trans (a.2 i fun z => h (List.mem_append.mpr (.inl z)))⟩
theorem Only.wipe {vs : List Nat} : ∀ {is : List Nat} {σ1 : L2.St}, Only is σ σ1 → (∀ i ∈ is, i ∈ vs) → wipe σ1 vs = wipe σ vs := fun {is σ1} h hs => by
  have get : ∀ (vs : List Nat) (σ : L2.St) (i : Nat), (L2.wipe σ vs)[i]? = if i ∈ vs ∧ i < σ.length then some none else σ[i]? := by
    intro vs
    induction vs with
    | nil => intro σ i; simp [L2.wipe]
    | cons v vs ih =>
      intro σ i
      unfold L2.wipe
      by_cases hv : v = i
      · subst hv
        by_cases hl : v < σ.length
        · rw [List.getElem?_set_self (by rw [wipe_length]; exact hl), if_pos ⟨List.mem_cons_self, hl⟩]
        · rw [List.getElem?_eq_none (by rw [List.length_set, wipe_length]; omega), if_neg (fun z => hl z.2), List.getElem?_eq_none (by omega)]
      · rw [List.getElem?_set_ne hv, ih]
        have : (i ∈ v :: vs) ↔ i ∈ vs := by
          rw [List.mem_cons]
          exact ⟨fun z => z.resolve_left (fun e => hv e.symm), .inr⟩
        simp only [this]
  refine List.ext_getElem? fun i => ?_
  rw [get, get, h.1]
  by_cases hi : i ∈ vs ∧ i < σ.length
  · rw [if_pos hi, if_pos hi]
  · rw [if_neg hi, if_neg hi]
    by_cases hm : i ∈ vs
    · have : ¬ i < σ.length := fun z => hi ⟨hm, z⟩
      have hl := h.1
      rw [List.getElem?_eq_none (show σ1.length ≤ i by omega), List.getElem?_eq_none (show σ.length ≤ i by omega)]
    · exact h.2 i fun z => hm (hs i z)
def tG (c : Cn) (is : List Nat) (g : D → Env → M Env) : TG := fun v σ H R => ∃ φ μ ρ d, WOk c φ μ H ∧ RepE c φ H ρ σ ∧ Rep c φ H d v ∧ wpT c (g d ρ) φ μ H (fun σ' H' => Only is σ σ' → R σ' H')
def tGs (c : Cn) (is : List Nat) (g : List D → Env → M Env) : TGs := fun v σ H R => ∃ φ μ ρ d, WOk c φ μ H ∧ RepE c φ H ρ σ ∧ RepL c φ H d v ∧ wpT c (g d ρ) φ μ H (fun σ' H' => Only is σ σ' → R σ' H')
structure VG (X : Cx) (c : Cn) (t : Expr) (is : List Nat) (g : D → Env → M Env) : Prop where
  pg : PG X t (tG c is g)
structure VGs (X : Cx) (c : Cn) (t : List Expr) (is : List Nat) (g : List D → Env → M Env) : Prop where
  pg : PGs X t (tGs c is g)
theorem PG.weak {t : Expr} {tg tg' : TG} (h : PG X t tg) (i : ∀ v σ H R, tg' v σ H R → tg v σ H R) : PG X t tg' := ⟨fun pins s σ H v u Q I r q => h.run pins s σ H v u Q I r (i _ _ _ _ q)⟩
theorem PGs.weak {t : List Expr} {tg tg' : TGs} (h : PGs X t tg) (i : ∀ v σ H R, tg' v σ H R → tg v σ H R) : PGs X t tg' := ⟨fun pins s σ H v u Q I r q => h.run pins s σ H v u Q I r (i _ _ _ _ q)⟩
def gN (i : Nat) (d : D) (ρ : Env) : M Env := pure (ρ.set i (some d))
theorem vg_name {i : Nat} {x : Str} (hq : c.lo i) (h0 : c.ini ≠ none → i ≠ 0) (hN : X.N.Nodup) (hi : X.N[i]? = some x) (hx : Loc X.env.scope x) (hf : X.fn x = true ∨ X.env.scope.names.lookup x = some .local := by first | exact .inl rfl | exact .inr rfl | assumption) : VG X c (.Name x pos) [i] (gN i) :=
  ⟨PG.weak (pg_name hN hi hx hf) fun v σ H R z => by
    obtain ⟨φ, μ, ρ, d, w, he, r, h⟩ := z
    exact h φ H _ .refl w (he.set i hq h0 r) .set⟩
def gsNil (xs : List D) (ρ : Env) : M Env := match xs with
  | [] => pure ρ
  | _ => stuck
def gsCons (g : D → Env → M Env) (gs : List D → Env → M Env) (xs : List D) (ρ : Env) : M Env := match xs with
  | x :: r => liftT (g x ρ) fun ρ1 => gs r ρ1
  | [] => stuck
theorem vgs_nil : VGs X c [] [] gsNil := ⟨PGs.weak pgs_nil fun v σ H R z => by
  obtain ⟨φ, μ, ρ, xs, w, he, r, h⟩ := z
  cases xs with
  | nil =>
    simp only [RepL] at r
    exact ⟨r, h φ H σ .refl w he .refl⟩
  | cons => exact h.elim⟩
theorem vgs_cons {t : Expr} {ts : List Expr} {is js : List Nat} {g : D → Env → M Env} {gs : List D → Env → M Env} (h1 : VG X c t is g) (h2 : VGs X c ts js gs) (hs : ∀ tg tgs, PG X t tg → PGs X ts tgs → PGs X (t :: ts) (gCons tg tgs) := by intro tg tgs a b; exact pgs_cons a b) : VGs X c (t :: ts) (is ++ js) (gsCons g gs) := by
  refine ⟨PGs.weak (hs _ _ h1.pg h2.pg) fun vs σ H R z => ?_⟩
  obtain ⟨φ, μ, ρ, xs, w, he, r, h⟩ := z
  cases xs with
  | nil => exact h.elim
  | cons x xs =>
    simp only [RepL] at r
    obtain ⟨v, rest, rfl, r1, r2⟩ := r
    have h : wpT c (liftT (g x ρ) fun ρ1 => gs xs ρ1) φ μ H (fun σ' H' => Only (is ++ js) σ σ' → R σ' H') := h
    refine ⟨v, rest, rfl, φ, μ, ρ, x, w, he, r1, wpT_mono (wpT_liftT h) fun σ1 H1 z o1 => ?_⟩
    obtain ⟨φ1, μ1, ρ1, L, w1, he1, h1⟩ := z
    exact ⟨φ1, μ1, ρ1, xs, w1, he1, r2.later L.toKeep, wpT_mono h1 fun σ2 H2 z o2 => z (o1.trans o2)⟩
def gT (n : Nat) (gs : List D → Env → M Env) (d : D) (ρ : Env) : M Env := match d with
  | .tup xs => if xs.length = n then gs xs ρ else stuck
  | _ => stuck
theorem vg_tup {es : List Expr} {k : Nat} {is : List Nat} {gs : List D → Env → M Env} {n : Nat} (hK : X.K = c.K) (h1 : VGs X c es is gs) (hp : ∀ tgs, PGs X es tgs → PG X (.Tuple es k pos) (gTup X.K n tgs)) : VG X c (.Tuple es k pos) is (gT n gs) := by
  refine ⟨PG.weak (hp _ h1.pg) fun v σ H R z => ?_⟩
  obtain ⟨φ, μ, ρ, x, w, he, r, h⟩ := z
  unfold gT wpT at h
  cases x with
  | tup xs =>
    obtain ⟨a, vs, rfl, hs, rl⟩ := rep_tup r
    by_cases hn : xs.length = n
    · simp only [if_pos hn] at h
      exact ⟨a, vs, rfl, by rw [hK]; exact hs, by rw [← rl.len]; exact hn, φ, μ, ρ, xs, w, he, rl, h⟩
    · simp only [if_neg hn] at h
      exact h.elim
  | _ => exact h.elim
theorem vs_asg {t : Expr} {is : List Nat} {g : D → Env → M Env} (h : VE X c W e f) (hg : VG X c t is g) (hp : ∀ te tg, PE X e te → PG X t tg → PS X (.Assign [t] e pos) (tAsg te tg) := by intro te tg a b; exact ps_asg a b) : VS X c W (.Assign [t] e pos) (fun ρ => liftS ρ (f ρ) fun d => liftT (g d ρ) fun ρ1 => pure (.nx ρ1)) := by
  refine ⟨PS.weak (hp _ _ h.pe hg.pg) fun D σ H h => ?_⟩
  obtain ⟨φ, μ, ρ, w, he, h⟩ := h
  refine ⟨φ, μ, ρ, w, he, wp_mono (wpS_lift (R := Rep c) h he) fun v H1 z => ?_⟩
  obtain ⟨φ1, μ1, d, L, w1, r, h1⟩ := z
  refine ⟨φ1, μ1, ρ, d, w1, he.later L, r, wpT_mono (wpS_liftT h1) fun σ2 H2 z _ => ?_⟩
  obtain ⟨φ2, μ2, ρ2, L2, w2, he2, h2⟩ := z
  exact wpS_nx h2 w2 he2
theorem vs_set {i : Nat} {x : Str} {p2 : Pos} (hq : c.lo i) (h0 : c.ini ≠ none → i ≠ 0) (hN : X.N.Nodup) (hi : X.N[i]? = some x) (hx : Loc X.env.scope x) (h : VE X c W e f) (hs : swapsWith e (some (.Name x p2)) pos.line X.env = pure false := by rfl)
    (hf : X.fn x = true ∨ X.env.scope.names.lookup x = some .local := by first | exact .inl rfl | exact .inr rfl | assumption) : VS X c W (.Assign [.Name x p2] e pos) (fun ρ => liftS ρ (f ρ) fun d => pure (.nx (ρ.set i (some d)))) :=
  ⟨PS.weak (ps_set hN hi hx h.pe hs hf) fun D σ H h => by
    obtain ⟨φ, μ, ρ, w, he, h⟩ := h
    refine ⟨φ, μ, ρ, w, he, wp_mono (wpS_lift (R := Rep c) h he) fun v H1 z => ?_⟩
    obtain ⟨φ1, μ1, d, L, w1, r, h1⟩ := z
    exact wpS_nx h1 w1 ((he.later L).set i hq h0 r)⟩
end
end VL

namespace VL
open PySem PySem.Spec PyProof.Rows L2 LamX
/-! ### what is walked -/
/-! ### data can be told apart -/
mutual
def eqd : D → D → Bool
  | .non, .non => true
  | .bl a, .bl b => a == b
  | .int a, .int b => decide (a = b)
  | .str a, .str b => decide (a = b)
  | .ty a, .ty b => decide (a = b)
  | .tup a, .tup b => eqdL a b
  | .lst a, .lst b => eqdL a b
  | .scr a, .scr b => eqdL a b
  | .ins c a, .ins d b => decide (c = d) && eqdL a b
  | .ptr a, .ptr b => decide (a = b)
  | .cls a, .cls b => decide (a = b)
  | .fn a, .fn b => decide (a = b)
  | .dct k a, .dct l b => decide (k = l) && eqdL a b
  | _, _ => false
def eqdL : List D → List D → Bool
  | [], [] => true
  | a :: r, b :: t => eqd a b && eqdL r t
  | _, _ => false
end
mutual
theorem eqd_eq : ∀ a b, eqd a b = true → a = b
  | .non, b, h => by cases b <;> first | rfl | (simp only [eqd, Bool.false_eq_true] at h)
  | .bl a, b, h => by cases b <;> simp only [eqd, Bool.false_eq_true, beq_iff_eq] at h; rw [h]
  | .int a, b, h => by cases b <;> simp only [eqd, Bool.false_eq_true, decide_eq_true_eq] at h; rw [h]
  | .str a, b, h => by cases b <;> simp only [eqd, Bool.false_eq_true, decide_eq_true_eq] at h; rw [h]
  | .ty a, b, h => by cases b <;> simp only [eqd, Bool.false_eq_true, decide_eq_true_eq] at h; rw [h]
  | .ptr a, b, h => by cases b <;> simp only [eqd, Bool.false_eq_true, decide_eq_true_eq] at h; rw [h]
  | .cls a, b, h => by cases b <;> simp only [eqd, Bool.false_eq_true, decide_eq_true_eq] at h; rw [h]
  | .fn a, b, h => by cases b <;> simp only [eqd, Bool.false_eq_true, decide_eq_true_eq] at h; rw [h]
  | .tup a, b, h => by cases b <;> simp only [eqd, Bool.false_eq_true] at h; rw [eqdL_eq a _ h]
  | .lst a, b, h => by cases b <;> simp only [eqd, Bool.false_eq_true] at h; rw [eqdL_eq a _ h]
  | .scr a, b, h => by cases b <;> simp only [eqd, Bool.false_eq_true] at h; rw [eqdL_eq a _ h]
  | .ins c a, b, h => by cases b <;> simp only [eqd, Bool.false_eq_true, Bool.and_eq_true, decide_eq_true_eq] at h; rw [h.1, eqdL_eq a _ h.2]
  | .dct c a, b, h => by cases b <;> simp only [eqd, Bool.false_eq_true, Bool.and_eq_true, decide_eq_true_eq] at h; rw [h.1, eqdL_eq a _ h.2]
theorem eqdL_eq : ∀ a b, eqdL a b = true → a = b
  | [], b, h => by cases b <;> first | rfl | (simp only [eqdL, Bool.false_eq_true] at h)
  | x :: r, b, h => by
    cases b <;> simp only [eqdL, Bool.false_eq_true, Bool.and_eq_true] at h
    rw [eqd_eq x _ h.1, eqdL_eq r _ h.2]
end
mutual
theorem eqd_refl : ∀ a, eqd a a = true
  | .non => rfl
  | .bl a | .int a | .str a | .ty a | .ptr a | .cls a | .fn a => by simp [eqd]
  | .tup a | .lst a | .scr a => by simp only [eqd]; exact eqdL_refl a
  | .ins c a | .dct k a => by simp only [eqd, Bool.and_eq_true, decide_eq_true_eq]; exact ⟨trivial, eqdL_refl a⟩
theorem eqdL_refl : ∀ a, eqdL a a = true
  | [] => rfl
  | a :: r => by simp only [eqdL, Bool.and_eq_true]; exact ⟨eqd_refl a, eqdL_refl r⟩
end
instance decD : DecidableEq D := fun a b => if h : eqd a b = true then isTrue (eqd_eq _ _ h) else isFalse fun e => h (e ▸ eqd_refl a)
def eqC : Cell → Cell → Bool
  | .lst a, .lst b => eqdL a b
  | .dct k a, .dct l b => decide (k = l) && eqdL a b
  | _, _ => false
theorem eqC_eq : ∀ a b, eqC a b = true → a = b
  | .lst a, .lst b, h => by rw [eqdL_eq _ _ h]
  | .dct k a, .dct l b, h => by
    simp only [eqC, Bool.and_eq_true, decide_eq_true_eq] at h
    rw [h.1, eqdL_eq _ _ h.2]
theorem eqC_refl : ∀ a, eqC a a = true
  | .lst a => eqdL_refl a
  | .dct k a => by simp only [eqC, Bool.and_eq_true, decide_eq_true_eq]; exact ⟨trivial, eqdL_refl a⟩
instance decC : DecidableEq Cell := fun a b => if h : eqC a b = true then isTrue (eqC_eq _ _ h) else isFalse fun e => h (e ▸ eqC_refl a)
structure ItD where
  items : List D
  /-- what must stay true of the store -/
  chk : Mem → Prop
  [dec : DecidablePred chk]
instance (it : ItD) : DecidablePred it.chk := it.dec
def ItOk (c : Cn) (φ : Phi) (H : Hp) (J : It) (it : ItD) : Prop :=
  ∃ (G : Hp → Prop) (Y : Nat → Hp → V → Hp → Prop), Walk J it.items.length G Y ∧ (∀ φ2 μ2 H2, Keep φ H φ2 H2 → WOk c φ2 μ2 H2 → it.chk μ2 → G H2) ∧
    ∀ i H1 x H2 φ1 μ1, i < it.items.length → Keep φ H φ1 H1 → WOk c φ1 μ1 H1 → it.chk μ1 → Y i H1 x H2 → ∃ d, it.items[i]? = some d ∧ Later φ1 H1 φ1 H2 ∧ WOk c φ1 μ1 H2 ∧ Rep c φ1 H2 d x
def tI (c : Cn) (W : WX) (f : Env → M ItD) : TI := fun σ H R => ∃ φ μ ρ, WOk c φ μ H ∧ RepE c φ H ρ σ ∧ wpM c (fun φ' H' it J => ItOk c φ' H' J it) (f ρ) φ μ H (fun J H' => R J H') (wEx W σ)
structure VI (X : Cx) (c : Cn) (W : WX) (tg iter : Expr) (f : Env → M ItD) : Prop where
  pi : PI X tg iter (tI c W f)
theorem PI.weak {X : Cx} {tg iter : Expr} {wi wi' : TI} (h : PI X tg iter wi) (i : ∀ σ H R, wi' σ H R → wi σ H R) : PI X tg iter wi' := ⟨fun pins s σ H R I q => h.run pins s σ H R I (i _ _ _ q)⟩
def chkM {α : Type} (p : Mem → Prop) [DecidablePred p] (m : M α) : M α := fun μ => if p μ then m μ else .stuck
theorem chkM_true {α : Type} (m : M α) : chkM (fun _ => True) m = m := by
  funext μ
  exact if_pos trivial
def loopI (it : ItD) (tg : D → Env → M Env) (body : Env → M Flow) : List D → Env → M Flow
  | [], ρ => chkM it.chk (pure (.nx ρ))
  | d :: r, ρ => chkM it.chk (liftT (tg d ρ) fun ρ1 => body ρ1 >>= fun fl => match fl with
    | .nx ρ' => loopI it tg body r ρ'
    | .ct ρ' => loopI it tg body r ρ'
    | .bk ρ' => pure (.nx ρ')
    | .rt d => pure (.rt d)
    | .xc ρ e => pure (.xc ρ e))
section
variable {X : Cx} {c : Cn} {W : WX} {φ φ' : Phi} {H H' : Hp} {μ μ' : Mem} {ρ : Env} {σ : L2.St} {D0 : Ends} {pos : Pos}
theorem wpS_chk {p : Mem → Prop} [DecidablePred p] {m : M Flow} (h : wpS c (chkM p m) φ μ H D0 W) : p μ ∧ wpS c m φ μ H D0 W := by
  by_cases q : p μ
  · refine ⟨q, ?_⟩
    have e : chkM p m μ = m μ := if_pos q
    unfold wpS at h ⊢
    rw [e] at h
    exact h
  · have e : chkM p m μ = .stuck := if_neg q
    unfold wpS at h
    rw [e] at h
    exact h.elim
theorem wpM_chk {α β : Type} {R : Phi → Hp → α → β → Prop} {E : XW} {Q : β → Hp → Prop} {p : Mem → Prop} [DecidablePred p] {m : M α} (h : wpM c R (chkM p m) φ μ H Q E) : p μ ∧ wpM c R m φ μ H Q E := by
  by_cases q : p μ
  · refine ⟨q, ?_⟩
    have e : chkM p m μ = m μ := if_pos q
    unfold wpM at h ⊢
    rw [e] at h
    exact h
  · have e : chkM p m μ = .stuck := if_neg q
    unfold wpM at h
    rw [e] at h
    exact h.elim
theorem vs_for {t iter : Expr} {body : List Stmt} {fi : Env → M ItD} {is : List Nat} {g : D → Env → M Env} {s : Env → M Flow} (hi : VI X c W t iter fi) (hg : VG X c t is g) (hb : VB X c W body s)
    (hp : ∀ wi tg tb, PI X t iter wi → PG X t tg → PSs X body tb → PS X (.For t iter body [] pos) (tFor wi tg tb)) : VS X c W (.For t iter body [] pos) (fun ρ => liftS ρ (fi ρ) fun it => loopI it g s it.items ρ) := by
  refine ⟨PS.weak (hp _ _ _ hi.pi hg.pg hb.ps) fun D σ H h => ?_⟩
  obtain ⟨φ, μ, ρ, w, he, h⟩ := h
  refine ⟨φ, μ, ρ, w, he, wp_mono (wpS_lift (R := fun φ' H' it J => ItOk c φ' H' J it) h he) fun J H1 z => ?_⟩
  obtain ⟨φ1, μ1, it, L1, w1, ⟨G, Y, wk, hG, hY⟩, h1⟩ := z
  refine for_it wk (fun i σ H' => ∃ φ' μ' ρ', LaterS c φ1 H1 φ' H' ∧ WOk c φ' μ' H' ∧ RepE c φ' H' ρ' σ ∧ wpS c (loopI it g s (it.items.drop i) ρ') φ' μ' H' D W) ⟨φ1, μ1, ρ, .refl, w1, he.later L1, h1⟩ (fun i σ H' hi z => ?_) (fun i x σ H2 H3 hi z y => ?_) (fun σ H2 z => ?_)
  · obtain ⟨φ', μ', ρ', L, w', he', h'⟩ := z
    have : it.chk μ' := by
      cases hd : it.items.drop i with
      | nil => rw [hd] at h'; exact (wpS_chk h').1
      | cons d r => rw [hd] at h'; exact (wpS_chk h').1
    exact hG φ' μ' H' L.toKeep w' this
  · obtain ⟨φ', μ', ρ', L, w', he', h'⟩ := z
    have hd : it.items.drop i = it.items[i] :: it.items.drop (i + 1) := List.drop_eq_getElem_cons hi
    rw [hd] at h'
    obtain ⟨hc, h'⟩ := wpS_chk h'
    obtain ⟨d, ed, L3, w3, r3⟩ := hY i H2 x H3 φ' μ' hi L.toKeep w' hc y
    rw [List.getElem?_eq_getElem hi] at ed
    cases ed
    refine ⟨φ', μ', ρ', _, w3, he'.later L3, r3, wpT_mono (wpS_liftT (wpS_later h' L3.toS rfl)) fun σ4 H4 z _ => ?_⟩
    obtain ⟨φ4, μ4, ρ4, L4, w4, he4, h4⟩ := z
    have L14 := (L.trans L3.toS).trans L4.toS
    refine ⟨φ4, μ4, ρ4, w4, he4, wpS_bind h4 ?_ ?_ ?_ ?_ ?_⟩
    · exact fun φ5 μ5 H5 ρ5 σ5 L5 w5 r5 h5 => ⟨φ5, μ5, ρ5, L14.trans L5, w5, r5, h5⟩
    · exact fun φ5 μ5 H5 d5 v5 L5 w5 r5 h5 => h5 φ5 H5 v5 .refl w5 r5
    · exact fun φ5 μ5 H5 ρ5 σ5 L5 w5 r5 h5 => h5 φ5 H5 σ5 .refl w5 r5
    · exact fun φ5 μ5 H5 ρ5 σ5 L5 w5 r5 h5 => ⟨φ5, μ5, ρ5, L14.trans L5, w5, r5, h5⟩
    · exact fun φ5 μ5 H5 ρ5 σ5 e5 k5 d5 L5 w5 r5 x5 h5 => h5 φ5 H5 σ5 k5 d5 .refl w5 r5 x5
  · obtain ⟨φ', μ', ρ', L, w', he', h'⟩ := z
    rw [List.drop_length] at h'
    obtain ⟨hc, h'⟩ := wpS_chk h'
    exact wpS_nx h' w' he'
/-! ### comprehensions -/
/-- no exception leaves: none is allowed -/
def noX {α : Type} (m : M α) : M α := fun μ => match m μ with
  | .exn _ _ => .stuck
  | r => r
def W0 : WX := fun _ _ _ _ => False
def loopC (it : ItD) (tg : D → Env → M Env) (test : Env → M Bool) (elt : Env → M D) (ρ : Env) : List D → List D → M (List D)
  | [], acc => chkM it.chk (pure acc)
  | d :: r, acc => chkM it.chk (liftT (tg d ρ) fun ρ1 => noX (test ρ1) >>= fun k => if k then noX (elt ρ1) >>= fun y => loopC it tg test elt ρ r (acc ++ [y]) else loopC it tg test elt ρ r acc)
theorem wp_noX {α β : Type} {R : Phi → Hp → α → β → Prop} {E E' : XW} {Q : β → Hp → Prop} {m : M α} (h : wpM c R (noX m) φ μ H Q E) : wpM c R m φ μ H Q E' := by
  unfold wpM noX at h
  unfold wpM
  cases hm : m μ with
  | ok a μ1 => rw [hm] at h; exact h
  | exn _ _ => rw [hm] at h; exact h.elim
  | stuck => rw [hm] at h; exact h
theorem wp_noXb {α β γ δ : Type} {R : Phi → Hp → α → β → Prop} {R' : Phi → Hp → γ → δ → Prop} {E E' : XW} {Q : δ → Hp → Prop} {m : M α} {k : α → M γ} (h : wpM c R' (noX m >>= k) φ μ H Q E) :
    wpM c R m φ μ H (fun b H1 => ∃ φ1 μ1 a, Later φ H φ1 H1 ∧ WOk c φ1 μ1 H1 ∧ R φ1 H1 a b ∧ wpM c R' (k a) φ1 μ1 H1 Q E) E' := wp_noX (wp_bind h)
theorem wpM_liftT {α β : Type} {R : Phi → Hp → α → β → Prop} {E : XW} {Q : β → Hp → Prop} {m : M Env} {k : Env → M α} (h : wpM c R (liftT m k) φ μ H Q E) :
    wpT c m φ μ H (fun σ1 H1 => ∃ φ1 μ1 ρ1, Later φ H φ1 H1 ∧ WOk c φ1 μ1 H1 ∧ RepE c φ1 H1 ρ1 σ1 ∧ wpM c R (k ρ1) φ1 μ1 H1 Q E) := by
  unfold wpM liftT at h
  unfold wpT
  cases hm : m μ with
  | ok a μ1 =>
    rw [hm] at h
    refine fun φ1 H1 b L w r => ⟨φ1, μ1, a, L, w, r, ?_⟩
    unfold wpM
    simp only at h
    cases hk : k a μ1 with
    | ok x μ2 =>
      rw [hk] at h
      exact fun φ2 H2 b2 L2 w2 r2 => h φ2 H2 b2 (L.trans L2) w2 r2
    | exn x μ2 =>
      rw [hk] at h
      exact fun φ2 H2 k2 d2 L2 w2 r2 => h φ2 H2 k2 d2 (L.trans L2) w2 r2
    | stuck => rw [hk] at h; exact h
  | exn e μ1 => rw [hm] at h; exact h
  | stuck => rw [hm] at h; exact h
/-- a list in the making at A -/
def Phi.add (φ : Phi) (A : Addr) : Phi := { φ with hid := A :: φ.hid }
theorem own_add {A b : Addr} : own (φ.add A) b ↔ own φ b ∨ b = A := by
  constructor
  · rintro (h | h)
    · exact .inl (.inl h)
    · rcases List.mem_cons.mp h with h | h
      · exact .inr h
      · exact .inl (.inr h)
  · rintro ((h | h) | h)
    · exact .inl h
    · exact .inr (List.mem_cons_of_mem _ h)
    · exact .inr (h ▸ List.mem_cons_self)
mutual
theorem Rep.less {A : Addr} : ∀ (d : D) (v : V), Rep c (φ.add A) H d v → Rep c φ H d v
  | .non, _, h => by simpa only [Rep] using h
  | .bl _, _, h => by simpa only [Rep] using h
  | .int _, _, h => by simpa only [Rep] using h
  | .str _, _, h => by simpa only [Rep] using h
  | .ty _, _, h => by simpa only [Rep] using h
  | .cls _, _, h => by simpa only [Rep] using h
  | .fn _, _, h => by simpa only [Rep] using h
  | .tup ds, v, h => by
    simp only [Rep] at h ⊢
    obtain ⟨a, vs, e, h, r⟩ := h
    refine ⟨a, vs, e, ?_, RepL.less ds vs r⟩
    rcases h with ⟨h, n⟩ | h
    · exact .inl ⟨h, fun z => n (own_add.mpr (.inl z))⟩
    · exact .inr h
  | .lst ds, v, h => by
    simp only [Rep] at h ⊢
    obtain ⟨a, vs, e, h, n, r⟩ := h
    exact ⟨a, vs, e, h, fun z => n (own_add.mpr (.inl z)), RepL.less ds vs r⟩
  | .scr ds, v, h => by
    simp only [Rep] at h ⊢
    obtain ⟨a, vs, e, h, r⟩ := h
    refine ⟨a, vs, e, ?_, RepL.less ds vs r⟩
    rcases h with ⟨h, n⟩ | h
    · exact .inl ⟨h, fun z => n (own_add.mpr (.inl z))⟩
    · exact .inr h
  | .dct ks ds, v, h => by
    simp only [Rep] at h ⊢
    obtain ⟨a, vs, e, h, n, hl, r⟩ := h
    exact ⟨a, vs, e, h, fun z => n (own_add.mpr (.inl z)), hl, RepL.less ds vs r⟩
  | .ins C fs, v, h => by
    simp only [Rep] at h ⊢
    obtain ⟨a, dx, vs, ws, e, hs, hd, n, m, ew, r⟩ := h
    exact ⟨a, dx, vs, ws, e, hs, hd, fun z => n (own_add.mpr (.inl z)), fun z => m (own_add.mpr (.inl z)), ew, RepL.less fs vs r⟩
  | .ptr k, v, h => by
    simp only [Rep] at h ⊢
    exact h
theorem RepL.less {A : Addr} : ∀ (ds : List D) (vs : List V), RepL c (φ.add A) H ds vs → RepL c φ H ds vs
  | [], vs, h => by simpa only [RepL] using h
  | d :: ds, vs, h => by
    simp only [RepL] at h ⊢
    obtain ⟨v, r, e, h1, h2⟩ := h
    exact ⟨v, r, e, Rep.less d v h1, RepL.less ds r h2⟩
end
theorem CellOk.less {A : Addr} {e : Addr × Addr} {x : Cell} (h : CellOk c (φ.add A) H e x) : CellOk c φ H e x := by
  cases x with
  | lst ds =>
    obtain ⟨a, vs, b, r⟩ := h
    exact ⟨a, vs, b, r.less⟩
  | dct ks ds =>
    obtain ⟨a, vs, b, l, r⟩ := h
    exact ⟨a, vs, b, l, r.less⟩
theorem WOk.less {A : Addr} (w : WOk c (φ.add A) μ H) : WOk c φ μ H where
  len := w.len
  cell := fun k e h => by
    obtain ⟨x, h1, h2⟩ := w.cell k e h
    exact ⟨x, h1, h2.less⟩
  hid := fun b h => w.hid b (List.mem_cons_of_mem _ h)
  inj := w.inj
  tabs := fun p hp => by
    obtain ⟨ps, h1, h2, h3, h4⟩ := w.tabs p hp
    exact ⟨ps, h1, fun z => h2 (own_add.mpr (.inl z)), h3, fun pos cv hc => by
      obtain ⟨k, e, h5, h6⟩ := h4 pos cv hc
      exact ⟨k, e, h5, fun z => h6 (own_add.mpr (.inl z))⟩⟩
/-- behind a run with A in the making -/
theorem Later.inner {A : Addr} {φ1 : Phi} {φ2 : Phi} {H1 H2 : Hp} (L : Later φ H φ1 H1) (n : H A = none) (L2 : Later (φ1.add A) H1 φ2 H2) : ∃ φ3, φ2 = φ3.add A ∧ Later φ H φ3 H2 ∧ H2 A = H1 A := by
  obtain ⟨st2, hid2⟩ := φ2
  have eh : hid2 = A :: φ1.hid := L2.hid
  subst eh
  refine ⟨⟨st2, φ1.hid⟩, rfl, ?_, L2.hk A List.mem_cons_self⟩
  have eq : ∀ b, own ⟨st2, A :: φ1.hid⟩ b ↔ own ⟨st2, φ1.hid⟩ b ∨ b = A := fun b => own_add (φ := ⟨st2, φ1.hid⟩)
  refine ⟨⟨fun k e h => L2.pre k e (L.pre k e h), fun b o nb hb hp => ?_, fun b ps nb hb => ?_, fun b hb nb => ?_⟩, Nat.le_trans L.len L2.len, L.hid, fun b hb => ?_⟩
  · have nA : b ≠ A := fun z => by rw [z, n] at hb; cases hb
    exact L2.kp b o (fun z => (own_add.mp z).elim (L.nown nb (by rw [hb]; simp)) nA) (L.kp b o nb hb hp) hp
  · have nA : b ≠ A := fun z => by rw [z, n] at hb; cases hb
    obtain ⟨m1, e1⟩ := L.tb b ps nb hb
    obtain ⟨m2, e2⟩ := L2.tb b _ (fun z => (own_add.mp z).elim (L.nown nb (by rw [hb]; simp)) nA) e1
    exact ⟨m1 ++ m2, by rw [e2, Array.append_assoc]⟩
  · by_cases q : own φ1 b
    · exact L.fr b q nb
    · by_cases z : b = A
      · rw [z]; exact n
      · have e := L2.fr b ((eq b).mpr (.inl hb)) (fun y => (own_add.mp y).elim q z)
        cases y : H b with
        | none => rfl
        | some o => exact absurd e (L.some nb (by rw [y]; simp))
  · rw [← L.hk b hb]
    exact L2.hk b (List.mem_cons_of_mem _ (by rw [L.hid]; exact hb))
/-- a list in the making is written -/
theorem Later.write {A : Addr} {φ1 : Phi} {H1 : Hp} {o : HO} (L : Later φ H φ1 H1) (n : H A = none) (nh : A ∉ φ.hid) : Later φ H φ1 (upd H1 A o) := by
  refine ⟨⟨L.pre, fun b u nb hb hp => ?_, fun b ps nb hb => ?_, L.fr⟩, L.len, L.hid, fun b hb => ?_⟩
  · rw [upd_ne fun z => by rw [z, n] at hb; cases hb]
    exact L.kp b u nb hb hp
  · rw [upd_ne fun z => by rw [z, n] at hb; cases hb]
    exact L.tb b ps nb hb
  · rw [upd_ne fun z => nh (by rw [← z]; exact hb)]
    exact L.hk b hb
theorem Keep.write {A : Addr} {o : HO} : Keep (φ.add A) H (φ.add A) (upd H A o) :=
  ⟨fun _ _ h => h, fun b u nb hb _ => by rw [upd_ne fun z => nb (own_add.mpr (.inr z))]; exact hb, fun b ps nb hb => ⟨#[], by rw [upd_ne fun z => nb (own_add.mpr (.inr z)), hb]; simp⟩, fun b h n => absurd h n⟩
theorem WOk.write {A : Addr} {vs ws : List V} (w : WOk c (φ.add A) μ H) (hA : H A = some (.lst vs)) : WOk c (φ.add A) μ (upd H A (.lst ws)) where
  len := w.len
  cell := fun k e h => by
    obtain ⟨x, h1, h2⟩ := w.cell k e h
    have n := (w.hid A List.mem_cons_self).2
    exact ⟨x, h1, h2.later Keep.write (upd_ne fun z => n ⟨k, e, h, .inl z.symm⟩) (upd_ne fun z => n ⟨k, e, h, .inr z.symm⟩)⟩
  hid := fun b h => ⟨by
    by_cases z : b = A
    · rw [z, upd_same]; simp
    · rw [upd_ne z]; exact (w.hid b h).1, (w.hid b h).2⟩
  inj := w.inj
  tabs := w.tabs.keep (fun b u nb q => by rw [upd_ne fun z => nb (own_add.mpr (.inr z))]; exact q) fun b z n => absurd z n
/-- a list begins to be made -/
theorem WOk.begin {A : Addr} (w : WOk c φ μ H) (n : H A = none) : WOk c (φ.add A) μ (upd H A (.lst [])) := by
  have nA := w.new n
  have K : Keep φ H (φ.add A) (upd H A (.lst [])) := ⟨fun _ _ h => h, fun b u _ hb _ => by rw [upd_ne (ne_of_none hb n)]; exact hb, fun b ps _ hb => ⟨#[], by rw [upd_ne (ne_of_none hb n), hb]; simp⟩, fun b h nb => by
    rcases own_add.mp h with h | h
    · exact absurd h nb
    · rw [h]; exact n⟩
  refine ⟨w.len, fun k e h => ?_, fun b h => ?_, w.inj, w.tabs.keep (fun b u _ q => by rw [upd_ne (ne_of_none q n)]; exact q) K.fr⟩
  · obtain ⟨x, h1, h2⟩ := w.cell k e h
    have t := h2.there
    exact ⟨x, h1, h2.later K (upd_ne fun z => t.1 (by rw [z]; exact n)) (upd_ne fun z => t.2 (by rw [z]; exact n))⟩
  · rcases List.mem_cons.mp h with z | z
    · rw [z, upd_same]
      exact ⟨by simp, fun q => nA (.inl q)⟩
    · have q := w.hid b z
      exact ⟨by rw [upd_ne fun y => q.1 (by rw [y]; exact n)]; exact q.1, q.2⟩
theorem keep_begin {A : Addr} (n : H A = none) : Keep φ H (φ.add A) (upd H A (.lst [])) := ⟨fun _ _ h => h, fun b u _ hb _ => by rw [upd_ne (ne_of_none hb n)]; exact hb, fun b ps _ hb => ⟨#[], by rw [upd_ne (ne_of_none hb n), hb]; simp⟩, fun b h nb => by
  rcases own_add.mp h with h | h
  · exact absurd h nb
  · rw [h]; exact n⟩
/-- the slots forgotten -/
def wipeE (ρ : Env) : List Nat → Env
  | [] => ρ
  | v :: vs => (wipeE ρ vs).set v none
theorem RepE.wipe {ρ : Env} {σ : L2.St} (h : RepE c φ H ρ σ) : ∀ vs : List Nat, (∀ i ∈ vs, c.lo i ∧ (c.ini ≠ none → i ≠ 0)) → RepE c φ H (wipeE ρ vs) (L2.wipe σ vs)
  | [], _ => h
  | v :: vs, q => by
    have h := RepE.wipe h vs fun i hi => q i (List.mem_cons_of_mem _ hi)
    have hv := q v List.mem_cons_self
    exact h.put v hv.1 (o := none) (u := none) (fun d e => nomatch e) hv.2
theorem RepE.add {A : Addr} {ρ : Env} {σ : L2.St} (h : RepE c φ H ρ σ) (L : Later φ H φ' H') (n : H A = none) : RepE c (φ'.add A) H' ρ σ := by
  have K : Keep φ H (φ'.add A) H' := ⟨L.pre, L.kp, L.tb, fun b h nb => (own_add.mp h).elim (fun z => L.fr b z nb) fun z => by rw [z]; exact n⟩
  refine ⟨h.len, h.len0, fun i d q e => ?_, fun I e => (h.ini I e).later K (L.hk _ (h.ini I e).hx) (L.hk _ (h.ini I e).hd) fun b hb => List.mem_cons_of_mem _ (by rw [L.hid]; exact hb)⟩
  obtain ⟨v, e2, r⟩ := h.at_ i d q e
  exact ⟨v, e2, r.later K⟩
structure VTs (X : Cx) (c : Cn) (W : WX) (es : List Expr) (f : Env → M Bool) : Prop where
  pt : PTs X es (tT c W f)
theorem vts_nil : VTs X c W [] (fun _ => pure true) := ⟨⟨fun pins s σ H Q I h => pts_nil.run pins s σ H Q I (by
  obtain ⟨φ, μ, ρ, w, he, h⟩ := h
  exact wp_pure (b := true) h w rfl)⟩⟩
theorem vts_one {e : Expr} {f : Env → M Bool} (h : VT X c W e f) : VTs X c W [e] f := ⟨pts_one h.pt⟩
theorem M.assoc {α β γ : Type} (m : M α) (f : α → M β) (g : β → M γ) : ((m >>= f) >>= g) = (m >>= fun x => f x >>= g) := by
  funext μ
  show M.bind (M.bind m f) g μ = M.bind m (fun x => M.bind (f x) g) μ
  unfold M.bind
  cases m μ <;> rfl
theorem liftT_bind {α β : Type} (m : M Env) (f : Env → M α) (g : α → M β) : (liftT m f >>= g) = liftT m fun x => f x >>= g := by
  funext μ
  show M.bind (liftT m f) g μ = liftT m (fun x => M.bind (f x) g) μ
  unfold M.bind liftT
  cases m μ <;> rfl
theorem chkM_bind {α β : Type} (p : Mem → Prop) [DecidablePred p] (m : M α) (g : α → M β) : (chkM p m >>= g) = chkM p (m >>= g) := by
  funext μ
  show M.bind (chkM p m) g μ = chkM p (M.bind m g) μ
  unfold M.bind chkM
  by_cases q : p μ
  · rw [if_pos q, if_pos q]
  · rw [if_neg q, if_neg q]
/-- from a state of one's own: what is left to do is told from the base -/
theorem wpT_base {α β : Type} {R : Phi → Hp → α → β → Prop} {E : XW} {Q : β → Hp → Prop} {m : M Env} {k : Env → M α} {φ1 : Phi} {H1 : Hp} (h : wpM c R (liftT m k) φ1 μ H1 Q E) :
    wpT c m φ μ H (fun σ2 H2 => ∃ φ2 μ2 ρ2, Later φ H φ2 H2 ∧ WOk c φ2 μ2 H2 ∧ RepE c φ2 H2 ρ2 σ2 ∧ wpM c R (k ρ2) φ1 μ2 H1 Q E) := by
  unfold wpM liftT at h
  unfold wpT
  cases hm : m μ with
  | ok a μ1 =>
    rw [hm] at h
    exact fun φ2 H2 b L w r => ⟨φ2, μ1, a, L, w, r, h⟩
  | exn e μ1 => rw [hm] at h; exact h
  | stuck => rw [hm] at h; exact h
theorem wpM_base {α β γ δ : Type} {R : Phi → Hp → α → β → Prop} {R' : Phi → Hp → γ → δ → Prop} {E E' : XW} {Q : δ → Hp → Prop} {m : M α} {k : α → M γ} {φ1 : Phi} {H1 : Hp} (h : wpM c R' (noX m >>= k) φ1 μ H1 Q E) :
    wpM c R m φ μ H (fun b H2 => ∃ φ2 μ2 a, Later φ H φ2 H2 ∧ WOk c φ2 μ2 H2 ∧ R φ2 H2 a b ∧ wpM c R' (k a) φ1 μ2 H1 Q E) E' := by
  have e : (noX m >>= k) μ = M.bind (noX m) k μ := rfl
  unfold wpM at h ⊢
  rw [e] at h
  unfold M.bind noX at h
  cases hm : m μ with
  | ok a μ1 =>
    rw [hm] at h
    exact fun φ2 H2 b L w r => ⟨φ2, μ1, a, L, w, r, h⟩
  | exn e μ1 => rw [hm] at h; exact h.elim
  | stuck => rw [hm] at h; exact h.elim
theorem add_inj {A : Addr} {φ φ' : Phi} (h : φ.add A = φ'.add A) : φ = φ' := by
  obtain ⟨a, b⟩ := φ
  obtain ⟨a', b'⟩ := φ'
  unfold Phi.add at h
  simp only [Phi.mk.injEq, List.cons.injEq, true_and] at h
  rw [h.1, h.2]
theorem keep_add {A : Addr} {φ1 : Phi} {H1 : Hp} (L : Later φ H φ1 H1) (n : H A = none) : Keep φ H (φ1.add A) H1 :=
  ⟨L.pre, L.kp, L.tb, fun b h nb => (own_add.mp h).elim (fun z => L.fr b z nb) fun z => by rw [z]; exact n⟩
theorem wipe_idem (σ : L2.St) (vs : List Nat) : L2.wipe (L2.wipe σ vs) vs = L2.wipe σ vs := by
  have : Only vs σ (L2.wipe σ vs) := by
    refine ⟨wipe_length σ vs, fun i hi => ?_⟩
    induction vs with
    | nil => rfl
    | cons v vs ih =>
      unfold L2.wipe
      rw [List.getElem?_set_ne fun z => hi (by simp [z]), ih fun z => hi (List.mem_cons_of_mem _ z)]
  exact this.wipe fun _ h => h
/-- what is made of a comprehension's list: a list that stays, or one of the store's -/
def FinL (c : Cn) (fin : List D → M D) : Prop := ∀ (φ φ' : Phi) (μ' : Mem) (H H' : Hp) (A : Addr) (acc : List D) (ws : List V) (Q : VK) (E : XW), Later φ H φ' H' → H A = none → A ∉ φ.hid → WOk c (φ'.add A) μ' H' → H' A = some (.lst ws) → RepL c (φ'.add A) H' acc ws → wpM c (Rep c) (fin acc) φ μ' H Q E → Q (.ref A) H'
def frzL (acc : List D) : M D := pure (.lst acc)
theorem fin_frz : FinL c frzL := fun φ φ' μ' H H' A acc ws Q E L nA nh w' hA r' h' => by
  refine wp_pureL h' L w'.less ?_
  simp only [Rep]
  exact ⟨A, ws, rfl, .inl hA, fun z => z.elim (w'.hid A List.mem_cons_self).2 (fun z => nh (by rw [← L.hid]; exact z)), r'.less⟩
/-- the comprehension's reading -/
theorem lc_read {fin : List D → M D} (hfin : FinL c fin) {is vs : List Nat} (hlo : ∀ i ∈ vs, c.lo i ∧ (c.ini ≠ none → i ≠ 0)) {fi : Env → M ItD} {g : D → Env → M Env} {ft : Env → M Bool} {fe : Env → M D} (hs : ∀ i ∈ is, i ∈ vs) (σ : L2.St) (H : Hp) (Q : VK)
    (h : tV c W (fun ρ => fi ρ >>= fun it => ask (small it.items.length) >>= fun _ => loopC it g ft fe (wipeE ρ vs) it.items [] >>= fin) σ H Q) : tLc (tI c W fi) (tG c is g) (tT c W0 ft) (tV c W0 fe) vs σ H Q := by
  obtain ⟨φ, μ, ρ, w, he, h⟩ := h
  refine ⟨φ, μ, ρ, w, he, wp_mono (wp_bind h) fun J H1 z => ?_⟩
  obtain ⟨φ1, μ1, it, L1, w1, ⟨G, Y, wk, hG, hY⟩, h1⟩ := z
  obtain ⟨hz, h1⟩ := wp_ask h1
  have hz : it.items.length ≤ sizeLine := of_decide_eq_true hz
  intro A nA
  have nh : A ∉ φ1.hid := fun z => (w1.hid A z).1 nA
  refine lc_it wk (fun i H' => ∃ φ' μ' acc ws, Later φ1 H1 φ' H' ∧ WOk c (φ'.add A) μ' H' ∧ H' A = some (.lst ws) ∧ RepL c (φ'.add A) H' acc ws ∧ ws.length ≤ i ∧
    wpM c (Rep c) (loopC it g ft fe (wipeE ρ vs) (it.items.drop i) acc >>= fin) φ1 μ' H1 Q (wEx W σ)) ⟨φ1, μ1, [], [], Later.refl.write nA nh, w1.begin nA, upd_same, by simp only [RepL], Nat.le_refl _, h1⟩ (fun i H' hi z => ?_) (fun i x H2 H3 hi z y => ?_) (fun H2 z => ?_)
  · obtain ⟨φ', μ', acc, ws, L, w', hA, r', hl, h'⟩ := z
    have : it.chk μ' := by
      cases hd : it.items.drop i with
      | nil => rw [hd] at h'; unfold loopC at h'; rw [chkM_bind] at h'; exact (wpM_chk h').1
      | cons d r => rw [hd] at h'; unfold loopC at h'; rw [chkM_bind] at h'; exact (wpM_chk h').1
    exact hG (φ'.add A) μ' H' (keep_add L nA) w' this
  · obtain ⟨φ', μ', acc, ws, L, w', hA, r', hl, h'⟩ := z
    have hd : it.items.drop i = it.items[i] :: it.items.drop (i + 1) := List.drop_eq_getElem_cons hi
    rw [hd] at h'
    unfold loopC at h'
    rw [chkM_bind] at h'
    obtain ⟨hc, h'⟩ := wpM_chk h'
    rw [liftT_bind] at h'
    obtain ⟨d, ed, L3, w3, r3⟩ := hY i H2 x H3 (φ'.add A) μ' hi (keep_add L nA) w' hc y
    rw [List.getElem?_eq_getElem hi] at ed
    cases ed
    obtain ⟨φ3, e3, LL3, A3⟩ := Later.inner L nA L3
    obtain rfl := add_inj e3
    have he3 : RepE c (φ'.add A) H3 (wipeE ρ vs) (L2.wipe σ vs) := ((he.wipe vs hlo).later L1).add LL3 nA
    refine ⟨φ'.add A, μ', wipeE ρ vs, _, w3, he3, r3, wpT_mono (wpT_base h') fun σ4 H4 z o4 => ⟨by rw [o4.wipe hs, wipe_idem], ?_⟩⟩
    obtain ⟨φ4, μ4, ρ4, L4, w4, he4, h4⟩ := z
    obtain ⟨φ4, rfl, LL4, A4⟩ := Later.inner LL3 nA L4
    rw [M.assoc] at h4
    refine ⟨φ4.add A, μ4, ρ4, w4, he4, wp_mono (wpM_base (R := RB) h4) fun b H5 z => ?_⟩
    obtain ⟨φ5, μ5, b', L5, w5, r5, h5⟩ := z
    obtain rfl : b = b' := r5
    obtain ⟨φ5, rfl, LL5, A5⟩ := Later.inner LL4 nA L5
    cases b with
    | false =>
      have hA5 : H5 A = some (.lst ws) := by rw [A5, A4, A3]; exact hA
      exact ⟨φ5, μ5, acc, ws, LL5, w5, hA5, ((r'.later L3.toKeep).later L4.toKeep).later L5.toKeep, by omega, h5⟩
    | true =>
      have h5 : wpM c (Rep c) ((noX (fe ρ4) >>= fun y => loopC it g ft fe (wipeE ρ vs) (it.items.drop (i + 1)) (acc ++ [y])) >>= fin) φ1 μ5 H1 Q (wEx W σ) := h5
      rw [M.assoc] at h5
      refine ⟨φ5.add A, μ5, ρ4, w5, he4.later L5, wp_mono (wpM_base (R := Rep c) h5) fun y H6 z => ?_⟩
      obtain ⟨φ6, μ6, d6, L6, w6, r6, h6⟩ := z
      obtain ⟨φ6, rfl, LL6, A6⟩ := Later.inner LL5 nA L6
      have hA6 : H6 A = some (.lst ws) := by rw [A6, A5, A4, A3]; exact hA
      have r6' : RepL c (φ6.add A) H6 acc ws := (((r'.later L3.toKeep).later L4.toKeep).later L5.toKeep).later L6.toKeep
      exact ⟨ws, hA6, by omega, φ6, μ6, acc ++ [d6], ws ++ [y], LL6.write nA nh, w6.write hA6, upd_same, (r6'.app (RepL.one r6)).later Keep.write, by rw [List.length_append, List.length_singleton]; omega, h6⟩
  · obtain ⟨φ', μ', acc, ws, L, w', hA, r', hl, h'⟩ := z
    rw [List.drop_length] at h'
    unfold loopC at h'
    rw [chkM_bind] at h'
    have h' := (wpM_chk h').2
    exact hfin _ _ _ _ _ _ _ _ _ _ L nA nh w' hA r' h'
theorem ve_lc {fin : List D → M D} (hfin : FinL c fin) {elt t iter : Expr} {ifs : List Expr} {scope : Scope} {own : List (Str × Nat)} (hlo : ∀ i ∈ own.map (·.2), c.lo i ∧ (c.ini ≠ none → i ≠ 0)) {is : List Nat} {fi : Env → M ItD} {g : D → Env → M Env} {ft : Env → M Bool} {fe : Env → M D} (hc : X.calm = true) (hN : X.N.Nodup) (ok : BlkOk X.N X.env.scope scope own) (hi : VI X c W t iter fi)
    (hg : ∀ (s : Shared) (H : Hp) (C : Addr) (cl : List (Str × Addr)) (fp : List Addr), VG (X.blk s H scope (compEnvC scope cl C X.env) fp) c t is g) (ht : ∀ (s : Shared) (H : Hp) (C : Addr) (cl : List (Str × Addr)) (fp : List Addr), VTs (X.blk s H scope (compEnvC scope cl C X.env) fp) c W0 ifs ft)
    (he : ∀ (s : Shared) (H : Hp) (C : Addr) (cl : List (Str × Addr)) (fp : List Addr), VE (X.blk s H scope (compEnvC scope cl C X.env) fp) c W0 elt fe) (hs : ∀ i ∈ is, i ∈ own.map (·.2))
    (hf : ∀ x, foldedSetIterable iter X.env x = pure x := by intro _; rfl) :
    VE X c W (.ListComp elt [⟨t, iter, ifs, 0⟩] scope pos) (fun ρ => fi ρ >>= fun it => ask (small it.items.length) >>= fun _ => loopC it g ft fe (wipeE ρ (own.map (·.2))) it.items [] >>= fin) :=
  ⟨PE.weak (pe_lc hc hN hi.pi ok (fun s H C cl fp => (hg s H C cl fp).pg) (fun s H C cl fp => (ht s H C cl fp).pt) (fun s H C cl fp => (he s H C cl fp).pe) hf) fun σ H Q h => lc_read hfin hlo hs σ H Q h⟩
/-- name = [..] -/
theorem vs_setLc {fin : List D → M D} (hfin : FinL c fin) {i : Nat} {own : List (Str × Nat)} (hq : c.lo i) (h0 : c.ini ≠ none → i ≠ 0) (hlo : ∀ i ∈ own.map (·.2), c.lo i ∧ (c.ini ≠ none → i ≠ 0)) {y : Str} {py spos : Pos} {elt t iter : Expr} {ifs : List Expr} {scope : Scope} {is : List Nat} {fi : Env → M ItD} {g : D → Env → M Env} {ft : Env → M Bool} {fe : Env → M D} (hc : X.calm = true) (hN : X.N.Nodup) (hy : X.N[i]? = some y) (hyl : X.env.scope.names.lookup y = some .local)
    (hsw : swapsWith (.ListComp elt [⟨t, iter, ifs, 0⟩] scope pos) (some (.Name y py)) spos.line X.env = pure true) (ok : BlkOk X.N X.env.scope scope own) (hi : VI X c W t iter fi)
    (hg : ∀ (s : Shared) (H : Hp) (C : Addr) (cl : List (Str × Addr)) (fp : List Addr), VG (X.blk s H scope (compEnvC scope cl C X.env) fp) c t is g) (ht : ∀ (s : Shared) (H : Hp) (C : Addr) (cl : List (Str × Addr)) (fp : List Addr), VTs (X.blk s H scope (compEnvC scope cl C X.env) fp) c W0 ifs ft)
    (he : ∀ (s : Shared) (H : Hp) (C : Addr) (cl : List (Str × Addr)) (fp : List Addr), VE (X.blk s H scope (compEnvC scope cl C X.env) fp) c W0 elt fe) (hs : ∀ i ∈ is, i ∈ own.map (·.2))
    (hf : ∀ x, foldedSetIterable iter X.env x = pure x := by intro _; rfl) :
    VS X c W (.Assign [.Name y py] (.ListComp elt [⟨t, iter, ifs, 0⟩] scope pos) spos) (fun ρ => liftS ρ (fi ρ >>= fun it => ask (small it.items.length) >>= fun _ => loopC it g ft fe (wipeE ρ (own.map (·.2))) it.items [] >>= fin) fun d => pure (.nx (ρ.set i (some d)))) :=
  ⟨PS.weak (ps_setLc (i := i) hc hN hy hyl hsw hi.pi ok (fun s H C cl fp => (hg s H C cl fp).pg) (fun s H C cl fp => (ht s H C cl fp).pt) (fun s H C cl fp => (he s H C cl fp).pe) hf) fun D σ H h => by
    refine lc_read hfin hlo hs σ H _ ?_
    obtain ⟨φ, μ, ρ, w, he, h⟩ := h
    refine ⟨φ, μ, ρ, w, he, wp_mono (wpS_lift (R := Rep c) h he) fun v H1 z => ?_⟩
    obtain ⟨φ1, μ1, d, L, w1, r, h1⟩ := z
    exact wpS_nx h1 w1 ((he.later L).set i hq h0 r)⟩
/-! ### what is walked, by kinds -/
theorem it_same {it : ItD} {G : Hp → Prop} {J : It} {xs : List V} (hl : it.items.length = xs.length) (wk : Walk J xs.length G (YAt xs)) (hG : ∀ φ2 μ2 H2, Keep φ H φ2 H2 → WOk c φ2 μ2 H2 → it.chk μ2 → G H2 ∧ RepL c φ2 H2 it.items xs) : ItOk c φ H J it := by
  refine ⟨G, YAt xs, by rw [hl]; exact wk, fun φ2 μ2 H2 K w k => (hG φ2 μ2 H2 K w k).1, fun i H1 x H2 φ1 μ1 hi K w k y => ?_⟩
  obtain ⟨e2, hx⟩ := y
  have r := (hG φ1 μ1 H1 K w k).2
  obtain ⟨v, e, rv⟩ := r.get (List.getElem?_eq_getElem hi)
  rw [hx] at e
  cases e
  rw [e2]
  exact ⟨_, List.getElem?_eq_getElem hi, .refl, w, rv⟩
/-- a list, a tuple, a text -/
def iSeq (K : PySem.W.Frag) (tl : TE) : TI := fun σ H R => tl σ H fun x H1 => (∃ a, x = .ref a ∧ (∃ xs, SqL K H1 a xs) ∧ R (Itl K a) H1) ∨ (∃ a, x = .ref a ∧ (∃ xs, SqT K H1 a xs) ∧ R (Itt K a) H1) ∨ ∃ z, x = .str z ∧ R (Its z) H1
theorem pi_seq {tg l : Expr} {tl : TE} (hl : PE X l tl) : PI X tg l (iSeq X.K tl) := by
  refine ⟨fun pins s σ H R I h => ?_⟩
  refine thn (hl.run pins s σ H _ I h) fun v s1 ⟨x, H1, I1, r1, q1⟩ => ?_
  rcases q1 with ⟨a, e, ⟨xs, hq⟩, q⟩ | ⟨a, e, ⟨xs, hq⟩, q⟩ | ⟨z, e, q⟩
  · subst e
    cases r1
    obtain ⟨its, rv, p, hz⟩ := I1.list hq
    refine wpAny_pyIter_list p.isList ?_
    refine ⟨s1.heap.objs.size, [s1.heap.objs.size], _, _, H1, rfl, I1.kept (t' := s1.toks) fun b o e => Heap.get?_push_of_some _ e, turn_list a _, ⟨_, Heap.get?_push_size _ rfl, rfl, rfl⟩, fun b hb => ?_, q⟩
    have e : b = s1.heap.objs.size := by simpa using hb
    subst e
    exact I1.fpOk (Nat.le_refl _) (I1.hok.fresh (Nat.le_refl _))
  · subst e
    cases r1
    obtain ⟨its, rv, p, hz⟩ := I1.tuple hq
    refine wpAny_pyIter_tuple (show s1.heap.IsTuple a its.toArray from p) ?_
    refine ⟨s1.heap.objs.size, [s1.heap.objs.size], _, _, H1, rfl, I1.kept (t' := s1.toks) fun b o e => Heap.get?_push_of_some _ e, turn_tuple a _, ⟨_, Heap.get?_push_size _ rfl, rfl, rfl⟩, fun b hb => ?_, q⟩
    have e : b = s1.heap.objs.size := by simpa using hb
    subst e
    exact I1.fpOk (Nat.le_refl _) (I1.hok.fresh (Nat.le_refl _))
  · subst e
    obtain ⟨t, rfl⟩ := r1
    cases ha : z.cps.all (· < 128)
    · exact wpAny_pyIter_wide ha (pi_one (tk := s1.toks) I1 _ (turn_str _ z t "str_iterator" (.inr rfl)) ⟨_, Heap.get?_push_size _ rfl, rfl, rfl⟩ q)
    · exact wpAny_pyIter_ascii ha (pi_one (tk := s1.toks) I1 _ (turn_str _ z t "str_ascii_iterator" (.inl rfl)) ⟨_, Heap.get?_push_size _ rfl, rfl, rfl⟩ q)
/-- the signs of a text -/
def signs (z : Str) : List D := z.cps.toList.map fun k => .str ⟨#[k]⟩
/-- what a value gives, walked -/
def itOf : D → M ItD
  | .lst xs => pure ⟨xs, fun _ => True⟩
  | .tup xs => pure ⟨xs, fun _ => True⟩
  | .str z => pure ⟨signs z, fun _ => True⟩
  | .ptr k => fun μ => match μ[k]? with
    | some (.lst xs) => .ok ⟨xs, fun μ' => μ'[k]? = some (.lst xs)⟩ μ
    | _ => .stuck
  | _ => stuck
theorem Keep.sqt (K : Keep φ H φ' H') {k : PySem.W.Frag} {a : Addr} {vs : List V} (h : (Rd H a (.tup vs) ∧ ¬ own φ a) ∨ SqT k H0 a vs) : SqT k H' a vs := by
  rcases h with ⟨h, n⟩ | h
  · exact .inl (K.rd n h (by intro ps z; cases z)).1
  · exact sqtK h
theorem it_str {z : Str} : ItOk c φ H (Its z) ⟨signs z, fun _ => True⟩ := by
  have hl : (signs z).length = z.cps.size := by unfold signs; simp
  refine ⟨_, _, (show Walk (Its z) (signs z).length _ _ by rw [hl]; exact walk_str), fun _ _ _ _ _ _ => trivial, fun i H2 x H3 φ2 μ2 hi K w2 _ y => ?_⟩
  obtain ⟨e, k, hk, rfl⟩ := y
  rw [e]
  refine ⟨.str ⟨#[k]⟩, ?_, .refl, w2, of_str⟩
  show (signs z)[i]? = _
  unfold signs
  rw [List.getElem?_map, Array.getElem?_toList, hk]
  rfl
theorem vi_seq {tg l : Expr} {f : Env → M D} (hK : X.K = c.K) (h : VE X c W l f) : VI X c W tg l (fun ρ => f ρ >>= itOf) := by
  refine ⟨PI.weak (pi_seq h.pe) fun σ H R z => ?_⟩
  obtain ⟨φ, μ, ρ, w, he, h⟩ := z
  refine ⟨φ, μ, ρ, w, he, wp_mono (wp_bind h) fun x H1 z => ?_⟩
  obtain ⟨φ1, μ1, d, L, w1, r, h1⟩ := z
  rw [hK]
  cases d with
  | lst xs =>
    simp only [Rep] at r
    obtain ⟨a, vs, rfl, hs, n, rl⟩ := r
    exact .inl ⟨a, rfl, ⟨vs, .inl hs⟩, wp_pure (b := Itl c.K a) h1 w1 (it_same rl.len walk_list fun φ2 μ2 H2 K w2 _ => ⟨.inl (K.rd n hs (by intro ps z; cases z)).1, rl.later K⟩)⟩
  | tup xs =>
    simp only [Rep] at r
    obtain ⟨a, vs, rfl, hs, rl⟩ := r
    exact .inr (.inl ⟨a, rfl, ⟨vs, Later.refl.toKeep.sqt hs⟩, wp_pure (b := Itt c.K a) h1 w1 (it_same rl.len walk_tup fun φ2 μ2 H2 K w2 _ => ⟨K.sqt hs, rl.later K⟩)⟩)
  | str z =>
    rw [rep_str r]
    exact .inr (.inr ⟨z, rfl, wp_pure (b := Its z) h1 w1 it_str⟩)
  | ptr k =>
    simp only [Rep] at r
    obtain ⟨e, hi, rfl⟩ := r
    obtain ⟨x, hx, hc⟩ := w1.cell k e hi
    unfold wpM itOf at h1
    simp only [hx] at h1
    cases x with
    | dct C fs => exact h1.elim
    | lst xs =>
      obtain ⟨e2, vs, hv, rl⟩ := hc
      refine .inl ⟨e.1, rfl, ⟨vs, .inl (.inl hv)⟩, h1 φ1 H1 (Itl c.K e.1) .refl w1 ?_⟩
      have cell : ∀ φ2 μ2 H2, Keep φ1 H1 φ2 H2 → WOk c φ2 μ2 H2 → μ2[k]? = some (.lst xs) → ∃ us, H2 e.1 = some (.lst us) ∧ RepL c φ2 H2 xs us := fun φ2 μ2 H2 K w2 hm => by
        obtain ⟨x, hx, hc⟩ := w2.cell k e (K.pre k e hi)
        rw [hm] at hx
        cases hx
        exact hc.2
      refine ⟨fun H2 => ∃ us, H2 e.1 = some (.lst us) ∧ us.length = xs.length, fun i H2 x H3 => H3 = H2 ∧ ∀ us, SqL c.K H2 e.1 us → us[i]? = some x, ⟨fun i H2 hi ⟨us, h, hl⟩ => ⟨us, us[i]'(by rw [hl]; exact hi), .inl (.inl h), by simp [hl, hi]⟩, fun H2 ⟨us, h, hl⟩ => ⟨us, .inl (.inl h), Nat.le_of_eq hl⟩, fun i H2 x H3 _ _ y => y⟩, fun φ2 μ2 H2 K w2 hm => ?_, fun i H2 x H3 φ2 μ2 hi K w2 hm y => ?_⟩
      · obtain ⟨us, h, r⟩ := cell φ2 μ2 H2 K w2 hm
        exact ⟨us, h, r.len.symm⟩
      · obtain ⟨us, h, r⟩ := cell φ2 μ2 H2 K w2 hm
        obtain ⟨e3, hy⟩ := y
        rw [e3]
        obtain ⟨v, ev, rv⟩ := r.get (List.getElem?_eq_getElem hi)
        rw [hy us (.inl (.inl h))] at ev
        cases ev
        exact ⟨_, List.getElem?_eq_getElem hi, .refl, w2, rv⟩
  | _ => exact wp_stuck (β := It) h1
/-- range -/
def rangeD (lo : Int) (n : Nat) : List D := (List.range n).map fun (i : Nat) => .int (lo + (i : Int))
theorem it_range {lo : Int} {n : Nat} : ItOk c φ H (Itr lo n) ⟨rangeD lo n, fun _ => True⟩ := by
  have hl : (rangeD lo n).length = n := by unfold rangeD; simp
  refine ⟨_, _, (show Walk (Itr lo n) (rangeD lo n).length _ _ by rw [hl]; exact walk_range), fun _ _ _ _ _ _ => trivial, fun i H1 x H2 φ1 μ1 hi K w _ y => ?_⟩
  obtain ⟨e, rfl⟩ := y
  rw [e]
  refine ⟨.int (lo + (i : Int)), ?_, .refl, w, of_int⟩
  have hi : i < n := by rw [← hl]; exact hi
  show (rangeD lo n)[i]? = _
  unfold rangeD
  rw [List.getElem?_map, List.getElem?_range hi]
  rfl
def rng1 : List D → M ItD
  | [.int j] => ask (decide (-(2 ^ 62) ≤ j ∧ j < 2 ^ 62)) >>= fun _ => pure ⟨rangeD 0 j.toNat, fun _ => True⟩
  | _ => stuck
def rng2 : List D → M ItD
  | [.int i, .int j] => ask (decide (-(2 ^ 62) ≤ i ∧ i < 2 ^ 62 ∧ -(2 ^ 62) ≤ j ∧ j < 2 ^ 62)) >>= fun _ => pure ⟨rangeD i (j - i).toNat, fun _ => True⟩
  | _ => stuck
theorem repL1 {vs : List V} {d : D} (r : RepL c φ H [d] vs) : ∃ v, vs = [v] ∧ Rep c φ H d v := by
  simp only [RepL] at r
  obtain ⟨v, rest, rfl, r1, rfl⟩ := r
  exact ⟨v, rfl, r1⟩
theorem repL2 {vs : List V} {d e : D} (r : RepL c φ H [d, e] vs) : ∃ v u, vs = [v, u] ∧ Rep c φ H d v ∧ Rep c φ H e u := by
  simp only [RepL] at r
  obtain ⟨v, rest, rfl, r1, u, r2, rfl, r3, rfl⟩ := r
  exact ⟨v, u, rfl, r1, r3⟩
theorem vi_range1 {tg a : Expr} {fl : Env → M (List D)} {p : Pos} (hg : Gl X "range") (hm : X.mg "range" = none) (ha : VL X c W [a] fl) (hs : starEach [a] X.env = [(false, eval a X.env)] := by rfl) : VI X c W tg (.Call (.Name "range" p) [a] [] pos) (fun ρ => fl ρ >>= rng1) := by
  refine ⟨PI.weak (pi_range1 hg hm ha.pa hs) fun σ H R z => ?_⟩
  obtain ⟨φ, μ, ρ, w, he, h⟩ := z
  refine ⟨φ, μ, ρ, w, he, wp_mono (wp_bind h) fun x H1 z => ?_⟩
  obtain ⟨φ1, μ1, ds, L, w1, r, h1⟩ := z
  unfold rng1 at h1
  split at h1
  · obtain ⟨v, rfl, r0⟩ := repL1 r
    rw [rep_int r0]
    obtain ⟨hz, h1⟩ := wp_ask h1
    have hz := of_decide_eq_true hz
    exact ⟨_, rfl, hz.1, hz.2, wp_pure (b := Itr 0 _) h1 w1 it_range⟩
  · exact wp_stuck (β := It) h1
theorem vi_range2 {tg a b : Expr} {fl : Env → M (List D)} {p : Pos} (hg : Gl X "range") (hm : X.mg "range" = none) (ha : VL X c W [a, b] fl) (hs : starEach [a, b] X.env = [(false, eval a X.env), (false, eval b X.env)] := by rfl) (hs2 : starEach [b] X.env = [(false, eval b X.env)] := by rfl) : VI X c W tg (.Call (.Name "range" p) [a, b] [] pos) (fun ρ => fl ρ >>= rng2) := by
  refine ⟨PI.weak (pi_range2 hg hm ha.pa hs hs2) fun σ H R z => ?_⟩
  obtain ⟨φ, μ, ρ, w, he, h⟩ := z
  refine ⟨φ, μ, ρ, w, he, wp_mono (wp_bind h) fun x H1 z => ?_⟩
  obtain ⟨φ1, μ1, ds, L, w1, r, h1⟩ := z
  unfold rng2 at h1
  split at h1
  · obtain ⟨v, u, rfl, r0, r2⟩ := repL2 r
    rw [rep_int r0, rep_int r2]
    obtain ⟨hz, h1⟩ := wp_ask h1
    have hz := of_decide_eq_true hz
    exact ⟨_, _, rfl, hz, wp_pure (b := Itr _ _) h1 w1 it_range⟩
  · exact wp_stuck (β := It) h1
end
end VL

namespace VL
open PySem PySem.Spec PyProof.Rows L2 LamX
/-! ### while -/
/-- at most n turns -/
def whileN (t : Env → M Bool) (s : Env → M Flow) : Nat → Env → M Flow
  | 0, _ => stuck
  | n + 1, ρ => liftS ρ (t ρ) fun k => if k then s ρ >>= fun fl => match fl with
    | .nx ρ' => whileN t s n ρ'
    | .ct ρ' => whileN t s n ρ'
    | .bk ρ' => pure (.nx ρ')
    | .rt d => pure (.rt d)
    | .xc ρ e => pure (.xc ρ e) else pure (.nx ρ)
open Classical in
noncomputable def whileS (t : Env → M Bool) (s : Env → M Flow) (ρ : Env) : M Flow := fun μ => if h : ∃ n, whileN t s n ρ μ ≠ .stuck then whileN t s h.choose ρ μ else .stuck
/-- a loop of less than n turns -/
def whileF (n : Nat) (t : Env → M Bool) (s : Env → M Flow) (ρ : Env) : M Flow := whileN t s n ρ
section
variable {X : Cx} {c : Cn} {W : WX} {φ φ' : Phi} {H H' : Hp} {μ μ' : Mem} {ρ : Env} {σ : L2.St} {D0 : Ends} {pos : Pos}
theorem vs_whileN (n : Nat) {t : Expr} {body : List Stmt} {ft : Env → M Bool} {s : Env → M Flow} (ht : VT X c W t ft) (hb : VB X c W body s) (hp : ∀ tc tb, PT X t tc → PSs X body tb → PS X (.While t body [] pos) (tWhile tc tb)) : VS X c W (.While t body [] pos) (whileF n ft s) := by
  refine ⟨PS.weak (hp _ _ ht.pt hb.ps) fun D σ H h => ?_⟩
  obtain ⟨φ, μ, ρ, w, he, h⟩ := h
  have h1 : wpS c (whileN ft s n ρ) φ μ H D W := h
  refine ⟨fun m σ H => ∃ φ μ ρ, WOk c φ μ H ∧ RepE c φ H ρ σ ∧ wpS c (whileN ft s m ρ) φ μ H D W, ⟨n, φ, μ, ρ, w, he, h1⟩, fun m σ H z => ?_⟩
  obtain ⟨φ, μ, ρ, w, he, h⟩ := z
  cases m with
  | zero => exact h.elim
  | succ m =>
    refine ⟨φ, μ, ρ, w, he, wp_mono (wpS_lift (R := RB) h he) fun b H1 z => ?_⟩
    obtain ⟨φ1, μ1, b', L1, w1, r1, h1⟩ := z
    obtain rfl : b = b' := r1
    cases b with
    | false => exact wpS_nx h1 w1 (he.later L1)
    | true =>
      refine ⟨fun σ H => ∃ φ μ ρ, WOk c φ μ H ∧ RepE c φ H ρ σ ∧ wpS c (whileN ft s m ρ) φ μ H D W, fun σ' H' z => ⟨m, Nat.lt_succ_self m, z⟩, φ1, μ1, ρ, w1, he.later L1, wpS_bind h1 ?_ ?_ ?_ ?_ ?_⟩
      · exact fun φ5 μ5 H5 ρ5 σ5 L5 w5 r5 h5 => ⟨φ5, μ5, ρ5, w5, r5, h5⟩
      · exact fun φ5 μ5 H5 d5 v5 L5 w5 r5 h5 => h5 φ5 H5 v5 .refl w5 r5
      · exact fun φ5 μ5 H5 ρ5 σ5 L5 w5 r5 h5 => h5 φ5 H5 σ5 .refl w5 r5
      · exact fun φ5 μ5 H5 ρ5 σ5 L5 w5 r5 h5 => ⟨φ5, μ5, ρ5, w5, r5, h5⟩
      · exact fun φ5 μ5 H5 ρ5 σ5 e5 k5 d5 L5 w5 r5 x5 h5 => h5 φ5 H5 σ5 k5 d5 .refl w5 r5 x5
theorem vs_while {t : Expr} {body : List Stmt} {ft : Env → M Bool} {s : Env → M Flow} (ht : VT X c W t ft) (hb : VB X c W body s) (hp : ∀ tc tb, PT X t tc → PSs X body tb → PS X (.While t body [] pos) (tWhile tc tb)) : VS X c W (.While t body [] pos) (whileS ft s) := by
  refine ⟨PS.weak (hp _ _ ht.pt hb.ps) fun D σ H h => ?_⟩
  obtain ⟨φ, μ, ρ, w, he, h⟩ := h
  have h1 : ∃ n, wpS c (whileN ft s n ρ) φ μ H D W := by
    by_cases q : ∃ n, whileN ft s n ρ μ ≠ .stuck
    · refine ⟨q.choose, ?_⟩
      have e : whileS ft s ρ μ = whileN ft s q.choose ρ μ := by unfold whileS; rw [dif_pos q]
      unfold wpS at h ⊢
      rw [e] at h
      exact h
    · have e : whileS ft s ρ μ = .stuck := by unfold whileS; rw [dif_neg q]
      unfold wpS at h
      rw [e] at h
      exact h.elim
  obtain ⟨n, h1⟩ := h1
  refine ⟨fun m σ H => ∃ φ μ ρ, WOk c φ μ H ∧ RepE c φ H ρ σ ∧ wpS c (whileN ft s m ρ) φ μ H D W, ⟨n, φ, μ, ρ, w, he, h1⟩, fun m σ H z => ?_⟩
  obtain ⟨φ, μ, ρ, w, he, h⟩ := z
  cases m with
  | zero => exact h.elim
  | succ m =>
    refine ⟨φ, μ, ρ, w, he, wp_mono (wpS_lift (R := RB) h he) fun b H1 z => ?_⟩
    obtain ⟨φ1, μ1, b', L1, w1, r1, h1⟩ := z
    obtain rfl : b = b' := r1
    cases b with
    | false => exact wpS_nx h1 w1 (he.later L1)
    | true =>
      refine ⟨fun σ H => ∃ φ μ ρ, WOk c φ μ H ∧ RepE c φ H ρ σ ∧ wpS c (whileN ft s m ρ) φ μ H D W, fun σ' H' z => ⟨m, Nat.lt_succ_self m, z⟩, φ1, μ1, ρ, w1, he.later L1, wpS_bind h1 ?_ ?_ ?_ ?_ ?_⟩
      · exact fun φ5 μ5 H5 ρ5 σ5 L5 w5 r5 h5 => ⟨φ5, μ5, ρ5, w5, r5, h5⟩
      · exact fun φ5 μ5 H5 d5 v5 L5 w5 r5 h5 => h5 φ5 H5 v5 .refl w5 r5
      · exact fun φ5 μ5 H5 ρ5 σ5 L5 w5 r5 h5 => h5 φ5 H5 σ5 .refl w5 r5
      · exact fun φ5 μ5 H5 ρ5 σ5 L5 w5 r5 h5 => ⟨φ5, μ5, ρ5, w5, r5, h5⟩
      · exact fun φ5 μ5 H5 ρ5 σ5 e5 k5 d5 L5 w5 r5 x5 h5 => h5 φ5 H5 σ5 k5 d5 .refl w5 r5 x5
/-! ### subscripts, slices -/
def atM (xs : List D) (i : Int) : M D := match atI xs i with
  | some d => pure d
  | none => stuck
def atS (z : Str) (i : Int) : M D := match atI z.cps.toList i with
  | some k => ask (small z.length) >>= fun _ => pure (.str ⟨#[k]⟩)
  | none => stuck
def dIx (x y : D) : M D := match y with
  | .int i => match x with
    | .tup xs => atM xs i
    | .str z => atS z i
    | .scr xs => atM xs i
    | x => readL x >>= fun xs => atM xs i
  | _ => stuck
theorem RepL.at {ds : List D} {vs : List V} {i : Int} {d : D} (r : RepL c φ H ds vs) (h : atI ds i = some d) : ∃ v, atI vs i = some v ∧ Rep c φ H d v := by
  unfold atI at h ⊢
  rw [← r.len]
  cases hx : ixN ds.length i with
  | none => rw [hx] at h; cases h
  | some j =>
    rw [hx] at h
    exact r.get h
theorem ve_ix {a b : Expr} {f g : Env → M D} (hK : X.K = c.K) (ha : VE X c W a f) (hb : VE X c W b g) (hs : PlainIx b) : VE X c W (.Subscript a b pos) (fun ρ => f ρ >>= fun x => g ρ >>= fun y => dIx x y) :=
  ⟨PE.weak (pe_ix ((ix_list.or ix_tup).or ix_str) ha.pe hb.pe hs) (two fun φ μ H x y vx vy Q E w r1 r2 h => by
    rw [hK]
    have at_ : ∀ {xs : List D} {vs : List V} {i : Int}, RepL c φ H xs vs → wpM c (Rep c) (atM xs i) φ μ H Q E → ∃ v, atI vs i = some v ∧ Q v H := fun {xs vs i} rl h => by
      unfold atM at h
      cases hx : atI xs i with
      | none => rw [hx] at h; exact wp_stuck h
      | some d =>
        rw [hx] at h
        obtain ⟨v, e, rv⟩ := rl.at hx
        exact ⟨v, e, wp_pure h w rv⟩
    have lists : ∀ i : Int, vy = .int i → wpM c (Rep c) (readL x >>= fun xs => atM xs i) φ μ H Q E → rIxL c.K vx vy H Q := fun i e h => by
      obtain ⟨xs, a, vs, rfl, hs, rl, h⟩ := wp_readL h w r1
      obtain ⟨v, e2, q⟩ := at_ rl h
      exact ⟨a, vs, i, v, rfl, e, .inl hs, e2, q⟩
    cases y with
    | int i =>
      have ey := rep_int r2
      cases x with
      | tup xs =>
        obtain ⟨a, vs, rfl, hs, rl⟩ := rep_tup r1
        obtain ⟨v, e2, q⟩ := at_ rl h
        exact .inl (.inr ⟨a, vs, i, v, rfl, ey, hs, e2, q⟩)
      | str z =>
        have h : wpM c (Rep c) (atS z i) φ μ H Q E := h
        unfold atS at h
        cases hx : atI z.cps.toList i with
        | none => rw [hx] at h; exact wp_stuck h
        | some k =>
          rw [hx] at h
          obtain ⟨hz, h⟩ := wp_ask h
          exact .inr ⟨z, i, k, rep_str r1, ey, of_decide_eq_true hz, hx, wp_pure h w of_str⟩
      | scr xs =>
        obtain ⟨a, vs, rfl, hs, rl⟩ := rep_scr r1
        obtain ⟨v, e2, q⟩ := at_ rl h
        exact .inl (.inl ⟨a, vs, i, v, rfl, ey, hs, e2, q⟩)
      | _ => exact .inl (.inl (lists i ey h))
    | _ => exact wp_stuck h)⟩
def cutL {α : Type} (xs : List α) (lo hi : Option Int) : List α := (xs.drop (HT.sIx xs.length 0 lo)).take (HT.sIx xs.length xs.length hi - HT.sIx xs.length 0 lo)
theorem RepL.cut {ds : List D} {vs : List V} (r : RepL c φ H ds vs) (lo hi : Option Int) : RepL c φ H (cutL ds lo hi) (cutV vs lo hi) := by
  unfold cutL cutV
  rw [r.len]
  exact (r.drop _).take _
def dSl (x : D) (lo hi : Option Int) : M D := match x with
  | .str z => ask (small z.length) >>= fun _ => pure (.str (cutS z lo hi))
  | .tup xs => pure (.tup (cutL xs lo hi))
  | x => readL x >>= fun xs => pure (.lst (cutL xs lo hi))
def RO : Phi → Hp → Option Int → Option Int → Prop := fun _ _ a b => b = a
def tOP (c : Cn) (W : WX) (f : Env → M (Option Int)) : TO := fun σ H Q => ∃ φ μ ρ, WOk c φ μ H ∧ RepE c φ H ρ σ ∧ wpM c RO (f ρ) φ μ H Q (wEx W σ)
structure VO (X : Cx) (c : Cn) (W : WX) (e : Option Expr) (f : Env → M (Option Int)) : Prop where
  po : PO X e (tOP c W f)
theorem PO.weak {X : Cx} {e : Option Expr} {t t' : TO} (h : PO X e t) (i : ∀ σ H Q, t' σ H Q → t σ H Q) : PO X e t' := ⟨fun pins s σ H Q I q => h.run pins s σ H Q I (i _ _ _ q)⟩
theorem vo_none : VO X c W none (fun _ => pure none) := ⟨PO.weak po_none fun σ H Q h => by
  obtain ⟨φ, μ, ρ, w, he, h⟩ := h
  exact wp_pure (b := none) h w rfl⟩
def asPart : D → M (Option Int)
  | .int i => pure (some i)
  | _ => stuck
theorem vo_some {e : Expr} {f : Env → M D} (h : VE X c W e f) : VO X c W (some e) (fun ρ => f ρ >>= asPart) := ⟨PO.weak (po_some h.pe) fun σ H Q h => by
  obtain ⟨φ, μ, ρ, w, he, h⟩ := h
  refine ⟨φ, μ, ρ, w, he, wp_mono (wp_bind h) fun x H1 z => ?_⟩
  obtain ⟨φ1, μ1, d, L, w1, r, h1⟩ := z
  cases d with
  | int i => exact ⟨i, rep_int r, wp_pure (b := some i) h1 w1 rfl⟩
  | _ => exact wp_stuck (β := Option Int) h1⟩
theorem ve_slice {a : Expr} {lo hi : Option Expr} {p2 : Pos} {f : Env → M D} {fl fh : Env → M (Option Int)} (hK : X.K = c.K) (ha : VE X c W a f) (hl : VO X c W lo fl) (hh : VO X c W hi fh) :
    VE X c W (.Subscript a (.Slice lo hi none p2) pos) (fun ρ => f ρ >>= fun x => fl ρ >>= fun l => fh ρ >>= fun h => dSl x l h) :=
  ⟨PE.weak (pe_slice ((sl_list.or sl_tupA).or sl_str) ha.pe hl.po hh.po) fun σ H Q h => by
    obtain ⟨φ, μ, ρ, w, he, h⟩ := h
    refine ⟨φ, μ, ρ, w, he, wp_mono (wp_bind h) fun x H1 z => ?_⟩
    obtain ⟨φ1, μ1, d, L1, w1, r, h1⟩ := z
    refine ⟨φ1, μ1, ρ, w1, he.later L1, wp_mono (wp_bind h1) fun l H2 z => ?_⟩
    obtain ⟨φ2, μ2, l', L2, w2, r2, h2⟩ := z
    obtain rfl : l = l' := r2
    refine ⟨φ2, μ2, ρ, w2, (he.later L1).later L2, wp_mono (wp_bind h2) fun u H3 z => ?_⟩
    obtain ⟨φ3, μ3, u', L3, w3, r3, h3⟩ := z
    obtain rfl : u = u' := r3
    have r := (r.later L2.toKeep).later L3.toKeep
    rw [hK]
    have lists : wpM c (Rep c) (readL d >>= fun xs => pure (.lst (cutL xs l u))) φ3 μ3 H3 Q (wEx W σ) → rSlL c.K x l u H3 Q := fun h => by
      obtain ⟨xs, a, vs, rfl, hs, rl, h⟩ := wp_readL h w3 r
      exact ⟨a, vs, rfl, .inl hs, fun p np => wp_pureL h (Later.laid w3 np) (w3.laid np) (lst_new w3 np (rl.cut l u))⟩
    cases d with
    | str z =>
      obtain ⟨hz, h3⟩ := wp_ask (k := fun _ => (pure (D.str (cutS z l u)) : M D)) h3
      exact .inr ⟨z, rep_str r, of_decide_eq_true hz, wp_pure h3 w3 of_str⟩
    | tup xs =>
      obtain ⟨a, vs, e0, hs, rl⟩ := rep_tup r
      refine .inl (.inr ⟨a, vs, e0, hs, fun e => ?_, fun _ p np => wp_pureL h3 (Later.laid w3 np) (w3.laid np) (tup_new w3 np (rl.cut l u))⟩)
      have e2 : cutL xs l u = xs := by
        unfold cutL
        rw [rl.len, e.1, e.2, List.drop_zero, Nat.sub_zero, ← rl.len, List.take_length]
      have h3 : wpM c (Rep c) (pure (.tup (cutL xs l u))) φ3 μ3 H3 Q (wEx W σ) := h3
      rw [e2] at h3
      rw [← e0]
      exact wp_pure h3 w3 r
    | _ => exact .inl (.inl (lists h3))⟩
/-! ### in -/
def flatD : D → Bool
  | .non | .bl _ | .int _ | .str _ => true
  | _ => false
def eqF : D → D → Bool
  | .non, .non => true
  | .bl a, .bl b => a == b
  | .bl a, .int b => (if a then 1 else 0) == b
  | .int a, .bl b => a == (if b then 1 else 0)
  | .int a, .int b => a == b
  | .str a, .str b => a == b
  | _, _ => false
theorem flat_of {d : D} {v : V} (r : Rep c φ H d v) (h : flatD d = true) : flatV v = true := by
  cases d <;> first | (exact absurd h Bool.false_ne_true) | (simp only [Rep] at r; subst r; rfl)
theorem eqF_of {d e : D} {v u : V} (r : Rep c φ H d v) (q : Rep c φ H e u) (h : flatD d = true) (k : flatD e = true) : eqV v u = eqF d e := by
  cases d <;> first | (exact absurd h (by decide)) | (exact absurd h Bool.false_ne_true) | skip
  all_goals (cases e <;> first | (exact absurd k Bool.false_ne_true) | (simp only [Rep] at r q; subst r; subst q; rfl))
theorem inF_of : ∀ {ds : List D} {vs : List V} {d : D} {v : V}, RepL c φ H ds vs → Rep c φ H d v → ds.all flatD = true → flatD d = true → vs.all flatV = true ∧ inV v vs = ds.any fun y => eqF y d
  | [], vs, d, v, r, q, h, k => by simp only [RepL] at r; subst r; exact ⟨rfl, rfl⟩
  | e :: ds, vs, d, v, r, q, h, k => by
    simp only [RepL] at r
    obtain ⟨u, rest, rfl, r1, r2⟩ := r
    rw [List.all_cons, Bool.and_eq_true] at h
    obtain ⟨h1, h2⟩ := inF_of r2 q h.2 k
    refine ⟨by rw [List.all_cons, Bool.and_eq_true]; exact ⟨flat_of r1 h.1, h1⟩, ?_⟩
    unfold inV at h2 ⊢
    rw [List.any_cons, List.any_cons, h2, eqF_of r1 q h.1 k]
def inB (x y : D) : M Bool := match x, y with
  | .str a, .str b => pure (!(Builtin.Str.occurrences b a 0 b.length 1).isEmpty)
  | x, .tup ys => ask (flatD x && ys.all flatD) >>= fun _ => pure (ys.any fun y => eqF y x)
  | x, y => readL y >>= fun ys => ask (flatD x && ys.all flatD) >>= fun _ => pure (ys.any fun y => eqF y x)
def dIn (x y : D) : M D := inB x y >>= fun b => pure (.bl b)
def dNin (x y : D) : M D := inB x y >>= fun b => pure (.bl (!b))
theorem wp_inB {x y : D} {vx vy : V} {k : Bool → M D} {Q : VK} {E : XW} (w : WOk c φ μ H) (r1 : Rep c φ H x vx) (r2 : Rep c φ H y vy) (h : wpM c (Rep c) (inB x y >>= k) φ μ H Q E) :
    ∃ b, wpM c (Rep c) (k b) φ μ H Q E ∧ ((∃ i j, vx = .str i ∧ vy = .str j ∧ b = !(Builtin.Str.occurrences j i 0 j.length 1).isEmpty) ∨ ∃ p xs, vy = .ref p ∧ (SqL c.K H p xs ∨ SqT c.K H p xs) ∧ flatV vx = true ∧ xs.all flatV = true ∧ b = inV vx xs) := by
  unfold inB at h
  split at h
  · rw [rep_str r1, rep_str r2]
    exact ⟨_, h, .inl ⟨_, _, rfl, rfl, rfl⟩⟩
  · rw [M.assoc] at h
    obtain ⟨hs, h⟩ := wp_ask h
    rw [Bool.and_eq_true] at hs
    obtain ⟨a, vs, rfl, hq, rl⟩ := rep_tup r2
    obtain ⟨h1, h2⟩ := inF_of rl r1 hs.2 hs.1
    exact ⟨_, h, .inr ⟨a, vs, rfl, .inr hq, flat_of r1 hs.1, h1, h2.symm⟩⟩
  · rw [M.assoc] at h
    obtain ⟨ys, a, vs, rfl, hq, rl, h⟩ := wp_readL h w r2
    rw [M.assoc] at h
    obtain ⟨hs, h⟩ := wp_ask h
    rw [Bool.and_eq_true] at hs
    obtain ⟨h1, h2⟩ := inF_of rl r1 hs.2 hs.1
    exact ⟨_, h, .inr ⟨a, vs, rfl, .inl (.inl hq), flat_of r1 hs.1, h1, h2.symm⟩⟩
theorem opv_in (hK : X.K = c.K) : OpV X c (compareOp .In) dIn := by
  refine .mk (op_in_str.or op_in_seq) fun φ μ H x y vx vy Q E w r1 r2 h => ?_
  rw [hK]
  obtain ⟨b, h, z⟩ := wp_inB w r1 r2 h
  have q := wp_pure h w of_bl
  rcases z with ⟨i, j, rfl, rfl, e⟩ | ⟨p, xs, rfl, h1, h2, h3, e⟩
  · exact .inl ⟨i, j, rfl, rfl, by rw [← e]; exact q⟩
  · exact .inr ⟨p, xs, rfl, h1, h2, h3, by rw [← e]; exact q⟩
theorem opv_nin (hK : X.K = c.K) : OpV X c (compareOp .NotIn) dNin := by
  refine .mk (op_notin_str.or op_notIn_seq) fun φ μ H x y vx vy Q E w r1 r2 h => ?_
  rw [hK]
  obtain ⟨b, h, z⟩ := wp_inB w r1 r2 h
  have q := wp_pure h w of_bl
  rcases z with ⟨i, j, rfl, rfl, e⟩ | ⟨p, xs, rfl, h1, h2, h3, e⟩
  · exact .inl ⟨i, j, rfl, rfl, by rw [← e]; exact q⟩
  · exact .inr ⟨p, xs, rfl, h1, h2, h3, by rw [← e]; exact q⟩
def negD (d : D) : M D := match d with
  | .int i => pure (.int (-i))
  | _ => stuck
theorem ve_neg {a : Expr} {f : Env → M D} (ha : VE X c W a f) : VE X c W (.UnaryOp .USub a pos) (fun ρ => f ρ >>= negD) :=
  ⟨PE.weak (pe_un un_neg ha.pe) fun σ H Q q => one (r := rU fun i => .int (-i)) (fun φ μ H x vx Q E w r h => by
    cases x with
    | int i => exact ⟨i, rep_int r, wp_pure h w of_int⟩
    | _ => exact wp_stuck h) σ H Q q⟩
end
end VL

namespace VL
open PySem PySem.Spec PyProof.Rows L2 LamX
section
variable {X : Cx} {c : Cn} {W : WX} {φ φ' : Phi} {H H' : Hp} {μ μ' : Mem} {ρ : Env} {σ : L2.St} {D0 : Ends} {pos : Pos} {e : Expr} {es : List Expr} {fl : Env → M (List D)}
/-! ### calls of built-ins -/
def CallV (X : Cx) (c : Cn) (f : Value) (g : List D → M D) : Prop :=
  ∃ r, CallR X f r ∧ ∀ φ μ H ds vs Q E, WOk c φ μ H → RepL c φ H ds vs → wpM c (Rep c) (g ds) φ μ H Q E → r vs H Q
theorem callt {g : List D → M D} {r : List V → Hp → VK → Prop} (hr : ∀ φ μ H ds vs Q E, WOk c φ μ H → RepL c φ H ds vs → wpM c (Rep c) (g ds) φ μ H Q E → r vs H Q) (σ : L2.St) (H : Hp) (Q : VK)
    (h : tV c W (fun ρ => fl ρ >>= g) σ H Q) : tL c W fl σ H (fun vs H1 => r vs H1 Q) := by
  obtain ⟨φ, μ, ρ, w, he, h⟩ := h
  refine ⟨φ, μ, ρ, w, he, wp_mono (wp_bind h) fun x H1 z => ?_⟩
  obtain ⟨φ1, μ1, d1, L1, w1, r1, h1⟩ := z
  exact hr φ1 μ1 H1 d1 x Q _ w1 r1 h1
theorem ve_callB {id : String} {x : Str} {p : Pos} {g : List D → M D} (hc : CallV X c (.builtin id) g) (hg : Gl X x) (hm : X.mg x = none) (hv : bootBuiltins x = some (.builtin id)) (ha : VL X c W (e :: es) fl)
    (hp : ∀ r t, CallR X (.builtin id) r → PA X (e :: es) t → PE X (.Call (.Name x p) (e :: es) [] pos) (fun σ H Q => t σ H fun xs H1 => r xs H1 Q)) : VE X c W (.Call (.Name x p) (e :: es) [] pos) (fun ρ => fl ρ >>= g) := by
  obtain ⟨r, h1, h2⟩ := hc
  exact ⟨PE.weak (hp _ _ h1 ha.pa) fun σ H Q q => callt h2 σ H Q q⟩
theorem ve_callT {id : String} {x : Str} {p : Pos} {g : List D → M D} (hc : CallV X c (.type id) g) (hg : Gl X x) (hm : X.mg x = none) (hv : bootBuiltins x = some (.type id)) (ha : VL X c W (e :: es) fl)
    (hp : ∀ r t, CallR X (.type id) r → PA X (e :: es) t → PE X (.Call (.Name x p) (e :: es) [] pos) (fun σ H Q => t σ H fun xs H1 => r xs H1 Q)) : VE X c W (.Call (.Name x p) (e :: es) [] pos) (fun ρ => fl ρ >>= g) := by
  obtain ⟨r, h1, h2⟩ := hc
  exact ⟨PE.weak (hp _ _ h1 ha.pa) fun σ H Q q => callt h2 σ H Q q⟩
def lenD : List D → M D
  | [.str z] => ask (small z.length) >>= fun _ => pure (.int z.length)
  | [.tup xs] => pure (.int xs.length)
  | [.scr xs] => pure (.int xs.length)
  | [x] => readL x >>= fun xs => pure (.int xs.length)
  | _ => stuck
theorem cv_len (hK : X.K = c.K) : CallV X c (.builtin "len") lenD := by
  refine ⟨_, call_len_seq.or call_len_str, fun φ μ H ds vs Q E w r h => ?_⟩
  rw [hK]
  unfold lenD at h
  split at h
  · obtain ⟨v, rfl, r0⟩ := repL1 r
    obtain ⟨hz, h⟩ := wp_ask h
    exact .inr ⟨_, by rw [rep_str r0], of_decide_eq_true hz, wp_pure h w of_int⟩
  · obtain ⟨v, rfl, r0⟩ := repL1 r
    obtain ⟨a, us, rfl, hs, rl⟩ := rep_tup r0
    exact .inl ⟨a, us, rfl, .inr hs, by rw [← rl.len]; exact wp_pure h w of_int⟩
  · obtain ⟨v, rfl, r0⟩ := repL1 r
    obtain ⟨a, us, rfl, hs, rl⟩ := rep_scr r0
    exact .inl ⟨a, us, rfl, .inl hs, by rw [← rl.len]; exact wp_pure h w of_int⟩
  · obtain ⟨v, rfl, r0⟩ := repL1 r
    obtain ⟨xs, a, us, rfl, hs, rl, h⟩ := wp_readL h w r0
    exact .inl ⟨a, us, rfl, .inl (.inl hs), by rw [← rl.len]; exact wp_pure h w of_int⟩
  · exact wp_stuck h
def absD : List D → M D
  | [.int i] => pure (.int (if i < 0 then -i else i))
  | _ => stuck
theorem cv_abs : CallV X c (.builtin "abs") absD := by
  refine ⟨_, call_abs, fun φ μ H ds vs Q E w r h => ?_⟩
  unfold absD at h
  split at h
  · obtain ⟨v, rfl, r0⟩ := repL1 r
    exact ⟨_, by rw [rep_int r0], wp_pure h w of_int⟩
  · exact wp_stuck h
def max2D : List D → M D
  | [.int i, .int j] => pure (.int (if j > i then j else i))
  | _ => stuck
def min2D : List D → M D
  | [.int i, .int j] => pure (.int (if j < i then j else i))
  | _ => stuck
theorem cv_max2 (hc : X.calm = true) : CallV X c (.builtin "max") max2D := by
  refine ⟨_, call_max2 hc, fun φ μ H ds vs Q E w r h => ?_⟩
  unfold max2D at h
  split at h
  · obtain ⟨v, u, rfl, r0, r1⟩ := repL2 r
    exact ⟨_, _, by rw [rep_int r0, rep_int r1], wp_pure h w of_int⟩
  · exact wp_stuck h
theorem cv_min2 (hc : X.calm = true) : CallV X c (.builtin "min") min2D := by
  refine ⟨_, call_min2 hc, fun φ μ H ds vs Q E w r h => ?_⟩
  unfold min2D at h
  split at h
  · obtain ⟨v, u, rfl, r0, r1⟩ := repL2 r
    exact ⟨_, _, by rw [rep_int r0, rep_int r1], wp_pure h w of_int⟩
  · exact wp_stuck h
def intD : List D → M D
  | [.int i] => pure (.int i)
  | [.bl k] => pure (.int (if k then 1 else 0))
  | _ => stuck
theorem cv_int : CallV X c (.type "int") intD := by
  refine ⟨_, call_int1, fun φ μ H ds vs Q E w r h => ?_⟩
  unfold intD at h
  split at h
  · obtain ⟨v, rfl, r0⟩ := repL1 r
    exact .inl ⟨_, by rw [rep_int r0], wp_pure h w of_int⟩
  · obtain ⟨v, rfl, r0⟩ := repL1 r
    exact .inr ⟨_, by rw [rep_bl r0], wp_pure h w of_int⟩
  · exact wp_stuck h
def strD : List D → M D
  | [.int i] => ask (decide (i.natAbs.log2 < 1920)) >>= fun _ => pure (.str (toString i))
  | _ => stuck
theorem cv_str : CallV X c (.type "str") strD := by
  refine ⟨_, call_str_int, fun φ μ H ds vs Q E w r h => ?_⟩
  unfold strD at h
  split at h
  · obtain ⟨v, rfl, r0⟩ := repL1 r
    obtain ⟨hz, h⟩ := wp_ask h
    exact ⟨_, by rw [rep_int r0], of_decide_eq_true hz, wp_pure h w of_str⟩
  · exact wp_stuck h
def tupleD : List D → M D
  | [.tup xs] => pure (.tup xs)
  | [x] => readL x >>= fun xs => pure (.tup xs)
  | _ => stuck
theorem cv_tuple (hK : X.K = c.K) : CallV X c (.type "tuple") tupleD := by
  refine ⟨_, call_tuple_of, fun φ μ H ds vs Q E w r h => ?_⟩
  rw [hK]
  unfold tupleD at h
  split at h
  · obtain ⟨v, rfl, r0⟩ := repL1 r
    have r1 := r0
    obtain ⟨a, us, rfl, hs, rl⟩ := rep_tup r0
    exact ⟨a, us, rfl, .inr ⟨hs, wp_pure h w r1⟩⟩
  · obtain ⟨v, rfl, r0⟩ := repL1 r
    obtain ⟨xs, a, us, rfl, hs, rl, h⟩ := wp_readL h w r0
    exact ⟨a, us, rfl, .inl ⟨.inl hs, fun p np => wp_pureL h (Later.laid w np) (w.laid np) (tup_new w np rl)⟩⟩
  · exact wp_stuck h
def listD : List D → M D
  | [.tup xs] => pure (.lst xs)
  | [x] => readL x >>= fun xs => pure (.lst xs)
  | _ => stuck
theorem cv_list (hK : X.K = c.K) : CallV X c (.type "list") listD := by
  refine ⟨_, call_list_of, fun φ μ H ds vs Q E w r h => ?_⟩
  rw [hK]
  unfold listD at h
  split at h
  · obtain ⟨v, rfl, r0⟩ := repL1 r
    obtain ⟨a, us, rfl, hs, rl⟩ := rep_tup r0
    exact ⟨a, us, rfl, .inr hs, fun p np => wp_pureL h (Later.laid w np) (w.laid np) (lst_new w np rl)⟩
  · obtain ⟨v, rfl, r0⟩ := repL1 r
    obtain ⟨xs, a, us, rfl, hs, rl, h⟩ := wp_readL h w r0
    exact ⟨a, us, rfl, .inl (.inl hs), fun p np => wp_pureL h (Later.laid w np) (w.laid np) (lst_new w np rl)⟩
  · exact wp_stuck h
def boolsOf : List D → Option (List Bool)
  | [] => some []
  | .bl b :: r => (boolsOf r).map (b :: ·)
  | _ => none
theorem bools_of : ∀ {ds : List D} {vs : List V} {bs : List Bool}, RepL c φ H ds vs → boolsOf ds = some bs → vs = bs.map V.bl
  | [], vs, bs, r, e => by simp only [RepL] at r; cases e; exact r
  | d :: ds, vs, bs, r, e => by
    simp only [RepL] at r
    obtain ⟨v, rest, rfl, r1, r2⟩ := r
    cases d with
    | bl b =>
      simp only [boolsOf, Option.map_eq_some_iff] at e
      obtain ⟨bs', e, rfl⟩ := e
      rw [rep_bl r1, bools_of r2 e]
      rfl
    | _ => simp [boolsOf] at e
def allD (p : List Bool → Bool) : List D → M D
  | [x] => readL x >>= fun xs => match boolsOf xs with
    | some bs => pure (.bl (p bs))
    | none => stuck
  | _ => stuck
theorem cv_all (hK : X.K = c.K) (hc : X.calm = true) : CallV X c (.builtin "all") (allD fun bs => bs.all id) := by
  refine ⟨_, cr_all hc, fun φ μ H ds vs Q E w r h => ?_⟩
  rw [hK]
  unfold allD at h
  split at h
  · obtain ⟨v, rfl, r0⟩ := repL1 r
    obtain ⟨xs, a, us, rfl, hs, rl, h⟩ := wp_readL h w r0
    split at h
    · rename_i bs hb
      exact ⟨a, bs, rfl, by rw [← bools_of rl hb]; exact .inl hs, wp_pure h w of_bl⟩
    · exact wp_stuck h
  · exact wp_stuck h
theorem cv_any (hK : X.K = c.K) (hc : X.calm = true) : CallV X c (.builtin "any") (allD fun bs => bs.any id) := by
  refine ⟨_, cr_any hc, fun φ μ H ds vs Q E w r h => ?_⟩
  rw [hK]
  unfold allD at h
  split at h
  · obtain ⟨v, rfl, r0⟩ := repL1 r
    obtain ⟨xs, a, us, rfl, hs, rl, h⟩ := wp_readL h w r0
    split at h
    · rename_i bs hb
      exact ⟨a, bs, rfl, by rw [← bools_of rl hb]; exact .inl hs, wp_pure h w of_bl⟩
    · exact wp_stuck h
  · exact wp_stuck h
/-! ### isinstance, a built-in class -/
def tyName : D → Option String
  | .non => some "NoneType"
  | .bl _ => some "bool"
  | .int _ => some "int"
  | .str _ => some "str"
  | .tup _ => some "tuple"
  | .lst _ => some "list"
  | .dct _ _ => some "dict"
  | _ => none
theorem tyx_of {d : D} {v : V} {n : String} (r : Rep c φ H d v) (h : tyName d = some n) : TyX c.K H v (.type n) := by
  cases d with
  | non => cases h; rw [rep_non r]; exact .base .non
  | bl b => cases h; rw [rep_bl r]; exact .base (.bl b)
  | int i => cases h; rw [rep_int r]; exact .base (.int i)
  | str z => cases h; rw [rep_str r]; exact .base (.str z)
  | tup xs =>
    cases h
    obtain ⟨a, vs, rfl, hs, rl⟩ := rep_tup r
    rcases hs with (h | ⟨o, h⟩) | ⟨o, its, n, h1, h2, _⟩
    · exact .base (.tup h)
    · exact .fTuple h
    · exact .kTuple h1 h2
  | lst xs =>
    cases h
    obtain ⟨a, vs, rfl, hs, rl⟩ := rep_lst r
    rcases hs with h | ⟨o, h⟩
    · exact .base (.lst h)
    · exact .base (.frz h)
  | dct ks xs =>
    cases h
    simp only [Rep] at r
    obtain ⟨a, vs, rfl, hs, _⟩ := r
    rcases hs with h | ⟨o, h⟩
    · exact .base (.dK h)
    · exact .fDict h
  | _ => cases h
def isiD : List D → M D
  | [.ptr k, .ty T] => readL (.ptr k) >>= fun _ => match kitB "list" T with
    | some b => pure (.bl b)
    | none => stuck
  | [x, .ty T] => match tyName x with
    | some n => match kitB n T with
      | some b => pure (.bl b)
      | none => stuck
    | none => stuck
  | _ => stuck
theorem cv_isi (hK : X.K = c.K) : CallV X c (.builtin "isinstance") isiD := by
  refine ⟨_, call_isi, fun φ μ H ds vs Q E w r h => ?_⟩
  rw [hK]
  unfold isiD at h
  split at h
  · obtain ⟨v, u, rfl, r0, r1⟩ := repL2 r
    obtain ⟨xs, a, us, rfl, hs, rl, h⟩ := wp_readL h w r0
    simp only [Rep] at r1
    subst r1
    split at h
    · rename_i b hb
      refine ⟨_, _, .type "list", _, b, rfl, .ty _, ?_, kit_ty hb, wp_pure h w of_bl⟩
      rcases hs with h | ⟨o, h⟩
      · exact .base (.lst h)
      · exact .base (.frz h)
    · exact wp_stuck h
  · obtain ⟨v, u, rfl, r0, r1⟩ := repL2 r
    simp only [Rep] at r1
    subst r1
    split at h
    · rename_i n hn
      split at h
      · rename_i b hb
        exact ⟨_, _, .type n, _, b, rfl, .ty _, tyx_of r0 hn, kit_ty hb, wp_pure h w of_bl⟩
      · exact wp_stuck h
    · exact wp_stuck h
  · exact wp_stuck h
/-! ### defs -/
/-- a def's promise: m tells what it gives -/
def spD (c : Cn) (n : Nat) (m : List D → M D) : Sp := fun vs H Q E => vs.length = n ∧ ∃ φ μ ds, WOk c φ μ H ∧ RepL c φ H ds vs ∧ wpM c (Rep c) (m ds) φ μ H Q E
def runF (n : Nat) (s : Env → M Flow) (ds : List D) : M D := fun μ => match s (ds.map some ++ List.replicate (n - ds.length) none) μ with
  | .ok (.rt d) μ' => .ok d μ'
  | .ok (.nx _) μ' => .ok .non μ'
  | .ok (.xc _ e) μ' => .exn e μ'
  | _ => .stuck
theorem repE_start (h0 : c.ini = none) : ∀ {ds : List D} {vs : List V} (n : Nat), RepL c φ H ds vs → RepE c φ H (ds.map some ++ List.replicate (n - ds.length) none) (vs.map some ++ List.replicate (n - vs.length) none) := fun {ds vs} n r => by
  have hl := r.len
  refine ⟨by simp [hl], fun _ => by simp [hl], fun i d _ e => ?_, fun I e => by rw [h0] at e; cases e⟩
  by_cases hi : i < ds.length
  · rw [List.getElem?_append_left (by simpa using hi), List.getElem?_map] at e
    cases hd : ds[i]? with
    | none => rw [hd] at e; cases e
    | some d' =>
      rw [hd] at e
      simp only [Option.map_some, Option.some.injEq] at e
      subst e
      obtain ⟨v, h1, h2⟩ := r.get hd
      exact ⟨v, by rw [List.getElem?_append_left (by simpa [← hl] using hi), List.getElem?_map, h1]; rfl, h2⟩
  · rw [List.getElem?_append_right (by simpa using Nat.le_of_not_lt hi)] at e
    have := List.mem_of_getElem? e
    rw [List.mem_replicate] at this
    cases this.2
theorem fnv_ok {P : Program} {w : World} {K : PySem.W.Frag} {mg : Str → Option Value} {base : Heap} {x qual : Str} {st : Stmt} {f : Addr} {fd : FuncData} {N ps : List Str} {k : Nat} (F : Fun K x qual st f fd) (h0 : c.ini = none) (S : FnScope N ps (defScope st)) {s : Env → M Flow}
    (hb : ∀ (cdv : Value) (A : Around) (outer : List PySem.Env) (s0 : Shared) (H : Hp) (E : XK), Room k (A.deeper (envOfC qual (defScope st) s0.heap.objs.size f cdv)) →
      VB (cxOf (L2.CX P w) P w K mg base N qual (defScope st) f cdv A outer s0 H E) c (fun cls d _ H => E cls d H) (defBody st) s) : FnOk P w K mg base (L2.CX P w) (k + 1) f fd ps (spD c ps.length (runF N.length s)) := by
  refine F.okX S (fun vs H Q E h => h.1) fun cdv A outer s0 H vs Q E hr h => ⟨_, (hb cdv A outer s0 H E hr).ps, ?_⟩
  obtain ⟨hl, φ, μ, ds, w, r, h⟩ := h
  refine ⟨φ, μ, _, w, repE_start h0 N.length r, ?_⟩
  unfold wpM runF at h
  unfold wpS
  cases hm : s (ds.map some ++ List.replicate (N.length - ds.length) none) μ with
  | ok a μ1 =>
    rw [hm] at h
    cases a with
    | nx ρ => exact fun φ1 H1 σ1 L1 w1 r1 => h φ1 H1 .non (L1.to h0) w1 of_non
    | rt d => exact fun φ1 H1 v L1 w1 r1 => h φ1 H1 v (L1.to h0) w1 r1
    | bk ρ => exact h.elim
    | ct ρ => exact h.elim
    | xc ρ e => exact fun φ1 H1 σ1 k1 d1 L1 w1 _ x1 => h φ1 H1 k1 d1 (L1.to h0) w1 x1
  | exn _ _ => rw [hm] at h; exact h
  | stuck => rw [hm] at h; exact h
def callM (n : Nat) (m : List D → M D) (ds : List D) : M D := ask (ds.length == n) >>= fun _ => m ds
theorem ve_call {k n : Nat} {f : Addr} {fd : FuncData} {ps : List Str} {x : Str} {p : Pos} {m : List D → M D} (F : FnOk X.prog X.w X.K X.mg X.base (L2.CX X.prog X.w) k f fd ps (spD c n m)) (hr : Room k X.A) (hg : Gl X x) (hm : X.mg x = some (.ref f)) (hk : PySem.W.keepIn X.K (.ref f) = true) (hb : Binds X.K fd ps []) (tk : Takes X W)
    (ha : VL X c W (e :: es) fl) (hp : ∀ t, PA X (e :: es) t → PE X (.Call (.Name x p) (e :: es) [] pos) (tCallS (spD c n m) (WE W) t)) : VE X c W (.Call (.Name x p) (e :: es) [] pos) (fun ρ => fl ρ >>= callM n m) :=
  ⟨PE.weak (hp _ ha.pa) fun σ H Q h => by
    obtain ⟨φ, μ, ρ, w, he, h⟩ := h
    refine ⟨φ, μ, ρ, w, he, wp_mono (wp_bind h) fun vs H1 z => ?_⟩
    obtain ⟨φ1, μ1, ds, L1, w1, r1, h1⟩ := z
    obtain ⟨hn, h1⟩ := wp_ask h1
    exact ⟨by rw [← r1.len]; exact eq_of_beq hn, φ1, μ1, ds, w1, r1, h1⟩⟩
end
end VL

/-! ### own __eq__, __ne__, __contains__, __len__, __str__, __iter__ of slotted instances; isinstance of any value -/
namespace OwA
open PySem PySem.Spec PyProof.Rows L2 SlX
/-- a value's type: a slotted instance or another value -/
inductive TyA (K : PySem.W.Frag) (H : Hp) : V → Value → Prop where
  | sl {a C dx : Addr} {vs : List (Option V)} (hs : Slt H a C dx vs) (hc : SCls K C) (hi : SIsi K C) : TyA K H (.ref a) (.ref C)
  | ty {x : V} {t : Value} (h : TyX K H x t) : TyA K H x t
section
variable {X : Cx} {CX : CXT} {pins : List (Addr × Obj)} {σ : L2.St} {H : Hp} {s : Shared} {a C dx p g : Addr} {vs : List (Option V)} {f : Str} {n : Nat} {sp spI spL : Sp} {E : XK} {v : V} {u : Value}
theorem tya_kit {x : V} {u t : Value} (I : Inv X pins σ H s) (rx : RelV x u) (ty : TyA X.K H x t) : ∃ P : Heap → Prop, PySem.W.KitX X.K u t P ∧ P s.heap ∧ u ≠ .builtin "__main__.__loader__#opaque" := by
  cases ty with
  | sl hs hc hi =>
    cases rx
    obtain ⟨sl, od, _, J, _⟩ := slt_inst I hs
    exact ⟨_, OwX.kitx_slt hc.ic (hc.get _) hi.ca hi.cn hi.ct hi.cm, J, fun z => nomatch z⟩
  | ty h => exact kit_of I rx h
theorem kit_self {K : PySem.W.Frag} {t : Value} : PySem.W.kitOne K t t = some true := by
  unfold PySem.W.kitOne
  rw [if_pos (beq_self_eq_true t)]
theorem kit_own {K : PySem.W.Frag} {C : Addr} {t : Value} {b : Bool} (ic : PySem.W.isClsIn K C = true) (ty : PySem.W.typeIn K (.ref C) = some (.type "type")) (h : PySem.W.subIn K t (.ref C) = some b) (ne : (t == Value.ref C) = false) : PySem.W.kitOne K t (.ref C) = some b := by
  unfold PySem.W.kitOne
  rw [if_neg (by rw [ne]; exact Bool.false_ne_true)]
  show (if ((PySem.W.clsIn K C).isSome && PySem.W.typeIn K (.ref C) == some (.type "type")) = true then PySem.W.subIn K t (.ref C) else none) = some b
  rw [if_pos (by rw [ty, show (PySem.W.clsIn K C).isSome = true from ic]; rfl), h]
/-- isinstance(x, c), any x -/
def rIsA (K : PySem.W.Frag) : List V → Hp → VK → Prop := fun xs H Q => ∃ (x c : V) (t u : Value) (b : Bool), xs = [x, c] ∧ ClsV c u ∧ TyA K H x t ∧ PySem.W.kitOne K t u = some b ∧ Q (.bl b) H
theorem call_isA : CallR X (.builtin "isinstance") (rIsA X.K) := by
  intro pins s σ H xs us Q I r h
  obtain ⟨x, c, t, u, b, rfl, k, ty, e, q⟩ := h
  obtain ⟨u1, u2, rfl, r1, r2⟩ := vals2 r
  have e2 := k.eq r2
  subst e2
  obtain ⟨P, Z, p, hx⟩ := tya_kit I r1 ty
  exact PySem.W.kia_one Z I.kIn p e hx fun tk => ⟨.bl b, H, I.tok tk, rfl, q⟩
/-- x == y by x's own def -/
def rEqA (K : PySem.W.Frag) (C : Addr) (sp : Sp) (E : XK) : R2 := fun x y H Q => ∃ a dx vs t, x = .ref a ∧ Slt H a C dx vs ∧ TyA K H y t ∧ PySem.W.notFirst K C t = true ∧ sp [x, y] H Q E
theorem op_eqA (hs : PySem.W.findIn X.K (.ref C) "__eq__" = some (some (.ref g))) (hf : PySem.W.isFn X.K (.ref g) = true) (F : FnR X.prog X.w X.K X.mg X.base CX n g sp)
    (hr : Room n X.A) (hx : Passes CX X E) : OpR X (compareOp .Eq) (rEqA X.K C sp E) := by
  intro pins s σ H x y v u Q I rx ry h
  obtain ⟨a, dx, vs, t, rfl, ha, ty, hn, q⟩ := h
  cases (show v = Value.ref a from rx)
  obtain ⟨sl, od, _, J, _⟩ := slt_inst I ha
  obtain ⟨P, Z, hp, _⟩ := tya_kit I ry ty
  obtain ⟨m, hF⟩ := I.fr
  show wpAny _ _ (richCompare .Eq (.ref a) u) _ _ _
  refine PySem.W.cmp_K (op := .Eq) (tb := t) hr.units0 hF I.ok.mod.kin J (Z.ty _ _ I.kIn hp) hn hs hf ?_
  refine wpAny_mono (wpAny_call (run_fnR (us := [.ref a, u]) (vs := [.ref a, y]) F hr hx I (.cons rfl (.cons ry .nil)) q)) (fun w s' z => ?_) fun _ _ x => x
  obtain ⟨z', H', I', rz, qz⟩ := z
  exact cmpback rz ⟨z', H', I', rz, qz⟩
theorem ifBound_B {prog : Program} {w : World} {A : Around} {EE : Value → Shared → Prop} {name : Str} {id : String} {ox : Obj} {od : Option Obj} {x C : Addr} {K : PySem.W.Frag} {args : List Value} {Q : Option Value → Shared → Prop} (X : K.In s.heap) (I : PySem.W.InstAt s.heap x ox C od) (hs : PySem.W.findIn K (.ref C) name = some (some (.builtin id)))
    (hb : ∀ self, bindSpecial (.builtin id) self = pure (.builtin id, [self])) (h : wpAny (model prog w) A (call (.builtin id) (.ref x :: args)) (fun v => Q (some v)) EE s) : wpAny (model prog w) A (callSpecialIfBound? (.ref x) name args) Q EE s := by
  simp only [callSpecialIfBound?, bindSpecialIfBound?]
  refine wpAny_holding (wpAny_bind (wpAny_bind (wpAny_bind (I.type.here ((PySem.W.looks_findIn X hs).here ?_)))))
  simp only [hb]
  refine wpAny_bind (wpAny_askSetting (wpAny_ite ?_))
  have fin : wpAny (model prog w) A (call (.builtin id) ([.ref x] ++ args) >>= fun v => pure (some v)) Q EE s := wpAny_bind (wpAny_mono h (fun v s' h' => wpAny_pure h') fun _ _ h' => h')
  split
  · exact wpAny_bind (wpAny_pure (wpAny_pure fin))
  · exact wpAny_tryCatch (wpAny_bind (wpAny_pure (wpAny_pure fin)))
/-- x != y by x's own __eq__ -/
def rNeA (K : PySem.W.Frag) (C : Addr) (sp : Sp) (E : XK) : R2 := fun x y H Q => ∃ a dx vs t, x = .ref a ∧ Slt H a C dx vs ∧ TyA K H y t ∧ PySem.W.notFirst K C t = true ∧ sp [x, y] H (fun z H' => ∃ b, z = .bl b ∧ Q (.bl (!b)) H') E
theorem op_neA (hs : PySem.W.findIn X.K (.ref C) "__eq__" = some (some (.ref g))) (hf : PySem.W.isFn X.K (.ref g) = true) (hne : PySem.W.findIn X.K (.ref C) "__ne__" = some (some (.builtin "object.__ne__"))) (hm : PySem.W.mroIn X.K C (.type "object") = some true)
    (F : FnR X.prog X.w X.K X.mg X.base CX n g sp) (hr : Room (n + 1) X.A) (hx : Passes CX X E) : OpR X (compareOp .NotEq) (rNeA X.K C sp E) := by
  intro pins s σ H x y v u Q I rx ry h
  obtain ⟨a, dx, vs, t, rfl, ha, ty, hn, q⟩ := h
  cases (show v = Value.ref a from rx)
  obtain ⟨sl, od, _, J, _⟩ := slt_inst I ha
  obtain ⟨P, Z, hp, _⟩ := tya_kit I ry ty
  have hr1 : Room n X.A.in1 := hr.in1
  have body : wpAny (model X.prog X.w) X.A (tryCompare (.ref a) "__ne__" u) (fun r s' => ∃ v, r = some v ∧ EP X pins σ Q v s') X.xe s := by
    unfold tryCompare
    refine wpAny_bind (ifBound_B (name := "__ne__") I.kIn J hne PySem.F.cmp_object.ne.bind ?_)
    refine wpAny_call (codeAny_call_builtin PySem.F.cmp_object.ne.plain PySem.F.cmpEntry_ne (PySem.W.check_slot (i := "object.__ne__") (owner := "object") (n := "__ne__") (by decide +kernel) (by decide +kernel) (J.type.andThen (PySem.W.looks_mroIn I.kIn hm)) (PySem.F.cmpArgs_ne _ _) ?_))
    unfold Builtin.«object.__ne__»
    refine wpAny_bind (wpAny_pure ?_)
    refine wpAny_bind (m := cRoomFor _ _) (wpAny_cRoomFor hr1.units0 ?_)
    refine wpAny_bind (m := callSpecialIfBound? (.ref a) (Str.ofString "__eq__") [u]) (PySem.W.ifBound_K I.kIn J hs hf ?_)
    refine wpAny_mono (wpAny_call (run_at (us := [.ref a, u]) (ws := [.ref a, y]) F hr1 I.env0.in1 hx I (.cons rfl (.cons ry .nil)) q)) (fun w s' z => ?_) fun _ _ x => x
    obtain ⟨z', H', I', rz, b, eb, qz⟩ := z
    subst eb
    cases rz
    refine wpAny_bind (wpAny_truthy_bool ?_)
    exact wpAny_pure (wpAny_pure ⟨_, rfl, .bl (!b), H', I', rfl, qz⟩)
  show wpAny _ _ (richCompare .NotEq (.ref a) u) _ _ _
  unfold richCompare
  simp only [oneThing_ref]
  refine wpAny_holding (wpAny_bind (wpAny_cRoomFor hr.units0 ?_))
  refine wpAny_bind (J.type.here (wpAny_bind ((Z.ty _ _ I.kIn hp).here ?_)))
  split
  · rename_i qq
    have e : PySem.W.subIn X.K t (.ref C) = some false := by
      rcases Bool.or_eq_true_iff.mp hn with e | e
      · rw [beq_iff_eq.mp e] at qq; simp at qq
      · exact beq_iff_eq.mp e
    refine wpAny_bind ((PySem.W.looks_subIn I.kIn e).here ?_)
    simp only [Bool.false_eq_true, if_false]
    refine wpAny_bind (wpAny_mono body (fun r s' z => ?_) fun _ _ e => e)
    obtain ⟨v, rfl, hq⟩ := z
    exact wpAny_pure hq
  · refine wpAny_bind (wpAny_pure ?_)
    simp only [Bool.false_eq_true, if_false]
    refine wpAny_bind (wpAny_mono body (fun r s' z => ?_) fun _ _ e => e)
    obtain ⟨v, rfl, hq⟩ := z
    exact wpAny_pure hq
/-- y in x, by x's own def, that answers a bool -/
def rInA (C : Addr) (sp : Sp) (E : XK) : R2 := fun y x H Q => ∃ a dx vs, x = .ref a ∧ Slt H a C dx vs ∧ sp [x, y] H (fun z H' => ∃ b, z = .bl b ∧ Q (.bl b) H') E
def rNinA (C : Addr) (sp : Sp) (E : XK) : R2 := fun y x H Q => ∃ a dx vs, x = .ref a ∧ Slt H a C dx vs ∧ sp [x, y] H (fun z H' => ∃ b, z = .bl b ∧ Q (.bl (!b)) H') E
theorem op_inA (hs : PySem.W.findIn X.K (.ref C) "__contains__" = some (some (.ref g))) (hf : PySem.W.isFn X.K (.ref g) = true) (F : FnR X.prog X.w X.K X.mg X.base CX n g sp) (hr : Room n X.A) (hx : Passes CX X E) : OpR X (compareOp .In) (rInA C sp E) := by
  intro pins s σ H y x u v Q I ry rx h
  obtain ⟨a, dx, vs, rfl, ha, q⟩ := h
  cases (show v = Value.ref a from rx)
  obtain ⟨sl, od, _, J, _⟩ := slt_inst I ha
  obtain ⟨m, hF⟩ := I.fr
  refine PySem.W.in_K hF I.ok.mod.kin J hs hf (wpAny_mono (wpAny_call (run_fnR (us := [.ref a, u]) (vs := [.ref a, y]) F hr hx I (.cons rfl (.cons ry .nil)) q)) (fun w s' z => ?_) fun _ _ x => x)
  obtain ⟨z', H', I', rz, b, eb, qz⟩ := z
  subst eb
  cases rz
  exact wpAny_truthy_bool ⟨.bl b, H', I', rfl, qz⟩
theorem op_ninA (hs : PySem.W.findIn X.K (.ref C) "__contains__" = some (some (.ref g))) (hf : PySem.W.isFn X.K (.ref g) = true) (F : FnR X.prog X.w X.K X.mg X.base CX n g sp) (hr : Room n X.A) (hx : Passes CX X E) : OpR X (compareOp .NotIn) (rNinA C sp E) := by
  intro pins s σ H y x u v Q I ry rx h
  obtain ⟨a, dx, vs, rfl, ha, q⟩ := h
  cases (show v = Value.ref a from rx)
  obtain ⟨sl, od, _, J, _⟩ := slt_inst I ha
  obtain ⟨m, hF⟩ := I.fr
  refine PySem.W.notIn_K hF I.ok.mod.kin J hs hf (wpAny_mono (wpAny_call (run_fnR (us := [.ref a, u]) (vs := [.ref a, y]) F hr hx I (.cons rfl (.cons ry .nil)) q)) (fun w s' z => ?_) fun _ _ x => x)
  obtain ⟨z', H', I', rz, b, eb, qz⟩ := z
  subst eb
  cases rz
  exact wpAny_truthy_bool ⟨.bl (!b), H', I', rfl, qz⟩
/-- len(x) by x's own def -/
def rLenA (C : Addr) (sp : Sp) (E : XK) : List V → Hp → VK → Prop := fun xs H Q => ∃ a dx vs, xs = [.ref a] ∧ Slt H a C dx vs ∧ sp [.ref a] H (fun z H' => ∃ k : Int, z = .int k ∧ (0 ≤ k ∧ k < 2 ^ 63) ∧ Q (.int k) H') E
/-- a callee that raises nothing, wherever it is asked -/
theorem run_at0 {A : Around} {Q : VK} {us : List Value} {ws : List V} {EE : Value → Shared → Prop} (F : FnR X.prog X.w X.K X.mg X.base CX n g sp) (hr : Room n A) (e0 : Env0 X.prog X.w X.K X.mg X.base A X.stack s H) (hx : ∀ (H : Hp) (s : Shared) (e : Value) (s' : Shared), CX X.stack H s E e s' → False) (I : Inv X pins σ H s) (r : Vals ws us) (h : sp ws H Q E) :
    codeAny (model X.prog X.w) A (.call (.ref g) ⟨us, []⟩) (fun r s' => match r with | .ok (.ret v) => EP X pins σ Q v s' | .ok _ => False | .error e => EE e s') s := by
  refine codeAny_mono (F A X.stack s H us ws Q E hr e0 r h) fun r s' hq => ?_
  cases r with
  | error e => exact (hx _ _ _ _ hq).elim
  | ok fl =>
    cases fl with
    | ret u => exact I.after hq
    | next => exact False.elim hq
    | brk => exact False.elim hq
    | cont => exact False.elim hq
theorem len_at {A : Around} {EE : Value → Shared → Prop} {Q : Value → Shared → Prop} {QQ : Int → Hp → Prop} (hs : PySem.W.findIn X.K (.ref C) "__len__" = some (some (.ref g))) (hf : PySem.W.isFn X.K (.ref g) = true) (F : FnR X.prog X.w X.K X.mg X.base CX n g sp) (hr : Room (n + 1) A) (e0 : Env0 X.prog X.w X.K X.mg X.base A X.stack s H) (hx : ∀ (H : Hp) (s : Shared) (e : Value) (s' : Shared), CX X.stack H s E e s' → False)
    (I : Inv X pins σ H s) (ha : Slt H a C dx vs) (h : sp [.ref a] H (fun z H' => ∃ k : Int, z = .int k ∧ (0 ≤ k ∧ k < 2 ^ 63) ∧ QQ k H') E) (q : ∀ (k : Int) (t : Tok) (H' : Hp) (s' : Shared), Inv X pins σ H' s' → 0 ≤ k → k < 2 ^ 63 → QQ k H' → Q (.int k t) s') :
    wpAny (model X.prog X.w) A (call (.builtin "len") [.ref a]) Q EE s := by
  obtain ⟨sl, od, _, J, _⟩ := slt_inst I ha
  obtain ⟨m, hF⟩ := I.fr
  refine PySem.W.len_K hF I.ok.mod.kin J hs hf (wpAny_mono (wpAny_call (run_at0 (us := [.ref a]) (ws := [.ref a]) F hr.in1 e0.in1 hx I (.cons rfl .nil) h)) (fun w s' z => ?_) fun _ _ x => x)
  obtain ⟨z', H', I', rz, k, ek, hk, qz⟩ := z
  subst ek
  obtain ⟨t, et⟩ := (show ∃ t, w = Value.int k t from rz)
  subst et
  exact ⟨hk, q k s'.toks H' _ (I'.tok _) hk.1 hk.2 qz⟩
theorem call_lenA (hs : PySem.W.findIn X.K (.ref C) "__len__" = some (some (.ref g))) (hf : PySem.W.isFn X.K (.ref g) = true) (F : FnR X.prog X.w X.K X.mg X.base CX n g sp) (hr : Room (n + 1) X.A) (hx : ∀ (H : Hp) (s : Shared) (e : Value) (s' : Shared), CX X.stack H s E e s' → False) : CallR X (.builtin "len") (rLenA C sp E) := by
  intro pins s σ H xs us Q I r h
  obtain ⟨a, dx, vs, rfl, ha, q⟩ := h
  obtain ⟨u, rfl, ru⟩ := r.one
  cases ru
  exact len_at (QQ := fun k H' => Q (.int k) H') hs hf F hr I.env0 hx I ha q fun k t H' s' I' h0 h1 qz => ⟨.int k, H', I', ⟨t, rfl⟩, qz⟩
/-- str(x) by x's own def -/
def rStrA (C : Addr) (sp : Sp) (E : XK) : List V → Hp → VK → Prop := fun xs H Q => ∃ a dx vs, xs = [.ref a] ∧ Slt H a C dx vs ∧ sp [.ref a] H (fun z H' => ∃ k : Str, z = .str k ∧ Q (.str k) H') E
theorem call_strA (hs : PySem.W.findIn X.K (.ref C) "__str__" = some (some (.ref g))) (hf : PySem.W.isFn X.K (.ref g) = true) (F : FnR X.prog X.w X.K X.mg X.base CX n g sp) (hr : Room (n + 2) X.A) (hx : Passes CX X E) : CallR X (.type "str") (rStrA C sp E) := by
  intro pins s σ H xs us Q I r h
  obtain ⟨a, dx, vs, rfl, ha, q⟩ := h
  obtain ⟨u, rfl, ru⟩ := r.one
  cases ru
  obtain ⟨sl, od, _, J, _⟩ := slt_inst I ha
  have hr2 : Room n X.A.in1.in1 := (show Room (n + 1) X.A.in1 from hr.in1).in1
  refine PySem.W.kso_call hr2.units0 I.kIn J hs hf (wpAny_mono (wpAny_call (run_at (us := [.ref a]) (ws := [.ref a]) F hr2 I.env0.in1.in1 hx I (.cons rfl .nil) q)) (fun w s' z => ?_) fun _ _ x => x)
  obtain ⟨z', H', I', rz, k, ek, qz⟩ := z
  subst ek
  obtain ⟨t, et⟩ := (show ∃ t, w = Value.str k t from rz)
  subst et
  exact ⟨.str k, H', I', ⟨t, rfl⟩, qz⟩
end
/-! ### list(x): x's own __iter__ gives an iterator over a list -/
theorem pyNext_end {prog : Program} {w : World} {A : Around} {EE : Value → Shared → Prop} {s : Shared} {it l : Addr} {i : Nat} {items : Array Value} {Q : Option Value → Shared → Prop} (hh : A.handled = none) (ho : s.heap.get? it = some (GNX.itObj l i)) (hl : s.heap.IsList l items) (hx : items[i]? = none)
    (hQ : ∀ h1 h', h1.get? it = some (GNX.itEnd i) → Heap.SameBut it s.heap h1 → (∀ b o, h1.get? b = some o → h'.get? b = some o) → Q none { s with heap := h' }) : wpAny (model prog w) A (pyNext (.ref it)) Q EE s := by
  have hT : s.TypeIs (.ref it) "list_iterator" := ⟨_, ho, rfl⟩
  unfold pyNext
  refine wpAny_bind (wpAny_attempt (wpAny_callSpecial?_slot (name := Str.ofString "__next__") hT slot_listiter_next
    (wpAny_call_entry slot_listiter_next hT entry_listiter_next ?_ (args_listiter_next _))))
  refine wpAny_mono (GNX.next_end (A := A) (Q := fun _ _ => False) (E := fun e s' => ∃ h1 h' vs ea, e = .ref ea ∧ s' = { s with heap := h' } ∧ h1.get? it = some (GNX.itEnd i) ∧ Heap.SameBut it s.heap h1 ∧ (∀ b o, h1.get? b = some o → h'.get? b = some o) ∧ h'.get? ea = some { cls := .type "StopIteration", data := .fields vs }) hh ho hl hx fun h1 h' e vs a b c _ d _ => ⟨h1, h', vs, e, rfl, rfl, a, b, c, d⟩) (fun fin s' hf => ?_) (fun e s' he => ?_)
  · obtain ⟨_, _, z⟩ := hf
    exact z.elim
  · obtain ⟨h1, h', vs, ea, rfl, rfl, a, b, c, d⟩ := he
    refine wpAny_bind (wpAny_isInstance (T := "StopIteration") (b := true) ⟨_, d, rfl⟩ isSubtype_stop ?_)
    exact wpAny_pure (hQ h1 h' a b c)
theorem pyNext_item {prog : Program} {w : World} {A : Around} {EE : Value → Shared → Prop} {s : Shared} {it l : Addr} {i : Nat} {items : Array Value} {x : Value} {Q : Option Value → Shared → Prop} (ho : s.heap.get? it = some (GNX.itObj l i)) (hl : s.heap.IsList l items) (hx : items[i]? = some x)
    (hQ : ∀ h', h'.get? it = some (GNX.itObj l (i + 1)) → Heap.SameBut it s.heap h' → Q (some x) { s with heap := h' }) : wpAny (model prog w) A (pyNext (.ref it)) Q EE s := by
  have hT : s.TypeIs (.ref it) "list_iterator" := ⟨_, ho, rfl⟩
  unfold pyNext
  refine wpAny_bind (wpAny_attempt (wpAny_callSpecial?_slot (name := Str.ofString "__next__") hT slot_listiter_next
    (wpAny_call_entry slot_listiter_next hT entry_listiter_next ?_ (args_listiter_next _))))
  refine wpAny_mono (GNX.next_item (Q := fun v s' => v = x ∧ ∃ h', s' = { s with heap := h' } ∧ h'.get? it = some (GNX.itObj l (i + 1)) ∧ Heap.SameBut it s.heap h') ho hl hx fun h' a b => ⟨rfl, h', rfl, a, b⟩) (fun fin s' hf => ?_) fun _ _ z => z
  obtain ⟨v, rfl, rfl, h', rfl, a, b⟩ := hf
  exact ⟨_, rfl, wpAny_pure (hQ h' a b)⟩
section
variable {X : Cx} {CX : CXT} {pins : List (Addr × Obj)} {σ : L2.St} {H : Hp} {s : Shared} {a C dx p fi fl it l q : Addr} {vs : List (Option V)} {n : Nat} {spI spL : Sp} {E : XK} {A1 : Around}
/-- the walk over the rest of the list at l -/
theorem ext_loop {zs : List V} {Rs : Result → Shared → Prop} (hh : A1.in1.handled = none) (hlen : zs.length < sizeLine) (ne : l ≠ q) (nq : it ≠ q) (nl : l ≠ it) (H0 : Hp)
    (hdone : ∀ (H : Hp) (s : Shared), Inv X pins σ H s → (∀ b, b ≠ q → b ≠ it → H b = H0 b) → H q = some (.lst zs) → Rs (.ok (.ret .none)) s) :
    ∀ (m i : Nat) (H : Hp) (s : Shared), m + i = zs.length → Inv X pins σ H s → (∀ b, b ≠ q → b ≠ it → H b = H0 b) → H q = some (.lst (zs.take i)) → H it = some (ItO l it i) → SqL X.K H l zs → codeAny (model X.prog X.w) A1 (.builtin "list.extend.loop" ⟨[.ref q, .ref it, .none], []⟩) Rs s := by
  intro m
  induction m with
  | zero =>
    intro i H s hm I hb hq hi hl
    have e : i = zs.length := by omega
    subst e
    refine codeAny_builtin PySem.F.entry_extend_loop ?_
    rw [Around.under_plainId PySem.F.plain_extend_loop _]
    show wpAny _ A1.in1 (pyNext (.ref it) >>= _) _ _ s
    obtain ⟨its, rv, pl, hz⟩ := I.list hl
    refine wpAny_bind (pyNext_end hh (itO_get I hi) pl.isList (by rw [List.getElem?_toArray]; exact rv.none_of (List.getElem?_eq_none (Nat.le_refl _))) fun h1 h' e1 sb k => ?_)
    have mu : Mut (H it) := by rw [hi]; exact True.intro
    have I2 : Inv X pins σ (upd H it (ItE it zs.length)) { s with heap := h1 } := I.write (x := it) (e := it) (t' := s.toks) mu (.inl rfl) (fun b o nb z => (sb.2 b nb).trans z) ⟨_, e1⟩ (itE_ok e1)
    have I3 : Inv X pins σ (upd H it (ItE it zs.length)) { s with heap := h' } := I2.kept (t' := s.toks) k
    refine wpAny_pure (hdone _ _ I3 (fun b h1 h2 => by rw [upd_ne h2]; exact hb b h1 h2) ?_)
    rw [upd_ne (Ne.symm nq), hq, List.take_length]
  | succ m ih =>
    intro i H s hm I hb hq hi hl
    have hlt : i < zs.length := by omega
    refine codeAny_builtin PySem.F.entry_extend_loop ?_
    rw [Around.under_plainId PySem.F.plain_extend_loop _]
    show wpAny _ A1.in1 (pyNext (.ref it) >>= _) _ _ s
    obtain ⟨its, rv, pl, hz⟩ := I.list hl
    obtain ⟨u, hu, ru⟩ := rv.get (List.getElem?_eq_getElem hlt)
    refine wpAny_bind (pyNext_item (itO_get I hi) pl.isList (x := u) (by simpa using hu) fun h' e1 sb => ?_)
    have mu : Mut (H it) := by rw [hi]; exact True.intro
    have I2 : Inv X pins σ (upd H it (ItO l it (i + 1))) { s with heap := h' } := I.write (x := it) (e := it) (t' := s.toks) mu (.inl rfl) (fun b o nb z => (sb.2 b nb).trans z) ⟨_, e1⟩ (itO_ok e1)
    have hq2 : upd H it (ItO l it (i + 1)) q = some (.lst (zs.take i)) := by rw [upd_ne (Ne.symm nq)]; exact hq
    show wpAny _ A1.in1 (updateSeq q (·.push u) >>= _) _ _ _
    obtain ⟨z, its2, k, r2, hl2, e2⟩ := I2.lstM hq2
    have hz2 : its2.length = (zs.take i).length := r2.length.symm
    rw [List.length_take] at hz2
    refine wpAny_bind (wpAny_updateSeq e2 rfl (wpAny_pure ⟨plainId_quiet PySem.F.plain_extend_loop _, ?_⟩) (by rw [List.size_toArray]; omega) (by show (its2.toArray.push u).size ≤ sizeLine + 1; rw [Array.size_push, List.size_toArray]; omega))
    have et : zs.take i ++ [zs[i]] = zs.take (i + 1) := by rw [List.take_add_one, List.getElem?_eq_getElem hlt]; rfl
    have I3 := I2.lset (f := (·.push u)) (its' := its2 ++ [u]) (t' := s.toks) hq2 e2 (by simp) (r2.append (.cons ru .nil)) (by rw [List.length_append, List.length_singleton, List.length_take]; omega)
    rw [et] at I3
    refine ih (i + 1) _ _ (by omega) I3 (fun b h1 h2 => by rw [upd_ne h1, upd_ne h2]; exact hb b h1 h2) upd_same (by rw [upd_ne nq, upd_same]) ?_
    have hl3 : SqL X.K (upd (upd H it (ItO l it (i + 1))) q (.lst (zs.take (i + 1)))) l zs := by
      rcases hl with (hl | ⟨o, hl⟩) | hl
      · exact .inl (.inl (by rw [upd_ne ne, upd_ne nl]; exact hl))
      · exact .inl (.inr ⟨o, by rw [upd_ne ne, upd_ne nl]; exact hl⟩)
      · exact .inr hl
    exact hl3
/-- list(x) -/
def rListA (K : PySem.W.Frag) (C : Addr) (spI spL : Sp) (E : XK) : List V → Hp → VK → Prop := fun xs H Q => ∃ a dx vs, xs = [.ref a] ∧ Slt H a C dx vs ∧ ∀ q, H q = none → spI [.ref a] (upd H q (.lst [])) (fun v H1 => ∃ it l zs, v = .ref it ∧ H1 it = some (ItO l it 0) ∧ SqL K H1 l zs ∧ H1 q = some (.lst []) ∧ Slt H1 a C dx vs ∧ l ≠ q ∧ l ≠ it ∧ zs.length < sizeLine ∧
  spL [.ref a] H1 (fun k H2 => ∃ n : Int, k = .int n ∧ (0 ≤ n ∧ n < 2 ^ 63) ∧ n ≤ 1000 ∧ H2 = H1 ∧ ∀ H3, (∀ b, b ≠ q → b ≠ it → H3 b = H1 b) → H3 q = some (.lst zs) → Q (.ref q) H3) E) E
theorem call_listA (hi : PySem.W.findIn X.K (.ref C) "__iter__" = some (some (.ref fi))) (hif : PySem.W.isFn X.K (.ref fi) = true) (hL : PySem.W.findIn X.K (.ref C) "__len__" = some (some (.ref fl))) (hLf : PySem.W.isFn X.K (.ref fl) = true)
    (FI : FnR X.prog X.w X.K X.mg X.base CX n fi spI) (FL : FnR X.prog X.w X.K X.mg X.base CX n fl spL) (hr : Room (n + 3) X.A) (hx : ∀ (H : Hp) (s : Shared) (e : Value) (s' : Shared), CX X.stack H s E e s' → False) : CallR X (.type "list") (rListA X.K C spI spL E) := by
  intro pins s σ H xs us Q I rv h
  obtain ⟨a, dx, vs, rfl, ha, hq⟩ := h
  obtain ⟨u, rfl, ru⟩ := rv.one
  cases ru
  have hr1 : Room (n + 2) X.A.in1 := hr.in1
  have hr2 : Room (n + 1) X.A.in1.in1 := hr1.in1
  refine callType_codes (Q₁ := fun obj s₁ => obj = .ref s.heap.objs.size ∧ s₁ = { s with heap := s.heap.push { cls := .type "list", data := .seq #[] } }) PySem.F.called_list (PySem.F.typeCall_list_1 _) PySem.F.entry_list_init
    (code_list_new _ ⟨rfl, rfl⟩) fun obj s₁ h₁ => ?_
  obtain ⟨rfl, rfl⟩ := h₁
  have hS : (s.heap.push { cls := .type "list", data := .seq #[] }).get? s.heap.objs.size = some { cls := .type "list", data := .seq #[] } := Heap.get?_push_size _ rfl
  refine ⟨⟨_, hS, rfl⟩, PySem.F.args_list_init_2 _ _, ?_⟩
  have fr : H s.heap.objs.size = none := I.hok.fresh (Nat.le_refl _)
  have hq := hq _ fr
  have I1 : Inv X pins σ (upd H s.heap.objs.size (.lst [])) { s with heap := s.heap.push { cls := .type "list", data := .seq #[] } } := I.lnew (its := []) (t' := s.toks) .nil (Nat.zero_le _)
  show wpAny _ _ (do let old ← Builtin.List.listItems (.ref s.heap.objs.size); Builtin.List.listUpdate (.ref s.heap.objs.size) (fun _ => #[]); letGo old.toList.reverse; Builtin.List.listExtendWith (.ref s.heap.objs.size) (.ref a) .none) _ _ _
  refine wpAny_bind ?_
  unfold Builtin.List.listItems
  refine wpAny_bind (wpAny_seqItems hS rfl (wpAny_pure ?_))
  show wpAny _ _ (updateSeq s.heap.objs.size (fun _ => #[]) >>= fun _ => letGo (#[] : Array Value).toList.reverse >>= fun _ => Builtin.List.listExtendWith (.ref s.heap.objs.size) (.ref a) .none) _ _ _
  refine wpAny_bind (wpAny_updateSeq hS rfl ?_)
  have I2 := I1.lset (f := fun _ => #[]) (its := []) (its' := []) (ys := []) (t' := s.toks) upd_same hS rfl .nil (Nat.zero_le _)
  rw [upd_upd] at I2
  refine wpAny_bind (wpAny_letGo ?_)
  have ha2 : Slt (upd H s.heap.objs.size (.lst [])) a C dx vs := by
    rcases ha with ⟨h1, h2⟩ | ⟨h1, h2⟩
    · exact .inl ⟨by rw [upd_ne (ne_of_none h1 fr)]; exact h1, h2⟩
    · exact .inr ⟨by rw [upd_ne (ne_of_none h1 fr)]; exact h1, by rw [upd_ne (ne_of_none h2 fr)]; exact h2⟩
  have hne : s.heap.objs.size ≠ a := by
    rcases ha with ⟨h1, h2⟩ | ⟨h1, h2⟩
    · exact Ne.symm (ne_of_none h1 fr)
    · exact Ne.symm (ne_of_none h1 fr)
  generalize s.heap.objs.size = q at *
  obtain ⟨sl, od, _, J, _⟩ := slt_inst I2 ha2
  obtain ⟨m0, hF⟩ := I2.fr
  unfold Builtin.List.listExtendWith
  refine wpAny_bind (J.type.here ?_)
  have h1 : Builtin.List.listSameRef (.ref q) (.ref a) = false := by simp [Builtin.List.listSameRef, hne]
  have h2 : (Value.ref C == Value.type "list") = false := rfl
  have h3 : (Value.ref C == Value.type "tuple") = false := rfl
  simp only [h1, h2, h3, Bool.or_false, Bool.false_eq_true, if_false]
  refine wpAny_bind (PySem.W.owit_iter hF I2.ok.mod.kin J hi hif ?_)
  refine wpAny_mono (wpAny_call (run_at0 (us := [.ref a]) (ws := [.ref a]) FI (hr2.mono (Nat.le_succ _)) I2.env0.in1.in1 hx I2 (.cons rfl .nil) hq)) (fun w s' z => ?_) fun _ _ x => x
  obtain ⟨v, H1, I3, rv3, it, l, zs, ev, hit, hl, hq1, ha3, ne1, ne2, hlen, hsp⟩ := z
  subst ev
  cases rv3
  unfold PySem.W.OwitIt
  have ho := itO_get I3 hit
  have hT : s'.TypeIs (.ref it) "list_iterator" := ⟨_, ho, rfl⟩
  refine wpAny_specialOf (name := Str.ofString "__next__") hT slot_listiter_next.lookup ?_
  show wpAny _ _ (holding [.ref it] (Builtin.List.listLengthHint (.ref a)) >>= _) _ _ _
  have nq : it ≠ q := ne_of hit hq1 (fun z => by unfold ItO at z; cases z)
  obtain ⟨sl3, od3, _, J3, _⟩ := slt_inst I3 ha3
  refine wpAny_bind (wpAny_holding ?_)
  unfold Builtin.List.listLengthHint
  refine wpAny_bind (wpAny_bind (J3.type.here ((PySem.W.looks_findIn I3.kIn hL).here ?_)))
  refine PySem.W.KFB.if_not rfl ?_
  refine PySem.W.KFB.if_so rfl ?_
  refine wpAny_bind (wpAny_rule ?_)
  refine wpAny_bind (wpAny_attempt ?_)
  refine len_at (H := H1) (QQ := fun n H2 => n ≤ 1000 ∧ H2 = H1 ∧ ∀ H3, (∀ b, b ≠ q → b ≠ it → H3 b = H1 b) → H3 q = some (.lst zs) → Q (.ref q) H3) hL hLf FL hr2 I3.env0.in1.in1 hx I3 ha3 hsp fun k t H2 s2 I4 k0 k1 hk => ?_
  obtain ⟨k2, rfl, hfin⟩ := hk
  have hsmall : Builtin.List.listTooLong k.toNat = false := decide_eq_false (by rw [sizeLine_eq]; omega)
  refine wpAny_bind (wpAny_of_eq (a := some k) rfl ?_)
  dsimp only
  rw [hsmall]
  refine PySem.W.KFB.if_not rfl ?_
  have loop := ext_loop (Rs := wants (fun r s₂ => r = .none ∧ EP X pins σ Q (.ref q) s₂) X.xe) (A1 := X.A.in1) hr2.hd hlen ne1 nq ne2 H2 (fun H s I hb hq => ⟨rfl, .ref q, H, I, rfl, hfin H hb hq⟩) zs.length 0
  refine wpAny_pure ?_
  refine wpAny_ite_split (fun _ => ?_) (fun _ => wpAny_pure ⟨plainId_quiet PySem.F.plain_extend_loop _, loop H2 s2 (by omega) I4 (fun _ _ _ => rfl) hq1 hit hl⟩)
  obtain ⟨z, its, k5, r3, hl3, e3⟩ := I4.lstM hq1
  cases r3
  refine wpAny_bind (wpAny_rule ?_)
  refine wpAny_bind ?_
  show wpAny _ _ (updateSeq q (·.push .none) >>= fun _ => updateSeq q (·.pop)) _ _ _
  refine wpAny_bind (wpAny_updateSeq e3 rfl ?_)
  have I5 := I4.lset (f := (·.push Value.none)) (its' := [Value.none]) (ys := [.non]) (t' := s2.toks) hq1 e3 (by simp) (.cons rfl .nil) (by rw [List.length_singleton, sizeLine_eq]; decide)
  obtain ⟨z4, its4, k4, r4, hl4, e4⟩ := I5.lstM upd_same
  obtain ⟨u4, rfl, ru4⟩ := r4.one
  refine wpAny_updateSeq e4 rfl ?_ (by show 1 ≤ sizeLine; rw [sizeLine_eq]; decide) (by show 0 ≤ sizeLine + 1; exact Nat.zero_le _)
  have I6 := I5.lset (f := (·.pop)) (its := [u4]) (its' := []) (ys := []) (t' := s2.toks) upd_same e4 (by rfl) .nil (Nat.zero_le _)
  rw [upd_upd] at I6
  have hH : upd H2 q (.lst []) = H2 := by
    funext b
    by_cases hb : b = q
    · rw [hb, upd_same, hq1]
    · rw [upd_ne hb]
  rw [hH] at I6
  exact wpAny_pure ⟨plainId_quiet PySem.F.plain_extend_loop _, loop H2 _ (by omega) I6 (fun _ _ _ => rfl) hq1 hit hl⟩
end
end OwA

namespace VL
open PySem PySem.Spec PyProof.Rows L2 LamX
section
variable {X : Cx} {c : Cn} {W : WX} {φ φ' : Phi} {H H' : Hp} {μ μ' : Mem} {ρ : Env} {σ : L2.St} {D0 : Ends} {pos : Pos} {e : Expr} {es : List Expr} {f g : Env → M D} {fl : Env → M (List D)}
/-! ### more statements -/
def set2 (ρ : Env) (i j : Nat) (ds : List D) : M Flow := match ds with
  | [a, b] => pure (.nx ((ρ.set i (some a)).set j (some b)))
  | _ => stuck
def set3 (ρ : Env) (i j l : Nat) (ds : List D) : M Flow := match ds with
  | [a, b, d] => pure (.nx (((ρ.set i (some a)).set j (some b)).set l (some d)))
  | _ => stuck
theorem repL3 {vs : List V} {d e b : D} (r : RepL c φ H [d, e, b] vs) : ∃ v u w, vs = [v, u, w] ∧ Rep c φ H d v ∧ Rep c φ H e u ∧ Rep c φ H b w := by
  simp only [RepL] at r
  obtain ⟨v, rest, rfl, r1, u, r2, rfl, r3, w, r4, rfl, r5, rfl⟩ := r
  exact ⟨v, u, w, rfl, r1, r3, r5⟩
theorem vs_par {st : Stmt} {i j : Nat} (hi : c.lo i ∧ (c.ini ≠ none → i ≠ 0)) (hj : c.lo j ∧ (c.ini ≠ none → j ≠ 0)) (ha : VL X c W es fl) (hp : ∀ ta, PA X es ta → PS X st (tPar i j ta)) : VS X c W st (fun ρ => liftS ρ (fl ρ) fun ds => set2 ρ i j ds) :=
  ⟨PS.weak (hp _ ha.pa) fun D σ H h => by
    obtain ⟨φ, μ, ρ, w, he, h⟩ := h
    refine ⟨φ, μ, ρ, w, he, wp_mono (wpS_lift (R := RepL c) h he) fun vs H1 z => ?_⟩
    obtain ⟨φ1, μ1, ds, L, w1, r, h1⟩ := z
    unfold set2 at h1
    split at h1
    · obtain ⟨v, u, rfl, r1, r2⟩ := repL2 r
      exact ⟨v, u, rfl, wpS_nx h1 w1 (((he.later L).set i hi.1 hi.2 r1).set j hj.1 hj.2 r2)⟩
    · exact h1.elim⟩
theorem vs_par3 {st : Stmt} {i j l : Nat} (hi : c.lo i ∧ (c.ini ≠ none → i ≠ 0)) (hj : c.lo j ∧ (c.ini ≠ none → j ≠ 0)) (hl : c.lo l ∧ (c.ini ≠ none → l ≠ 0)) (ha : VL X c W es fl) (hp : ∀ ta, PA X es ta → PS X st (tPar3 i j l ta)) : VS X c W st (fun ρ => liftS ρ (fl ρ) fun ds => set3 ρ i j l ds) :=
  ⟨PS.weak (hp _ ha.pa) fun D σ H h => by
    obtain ⟨φ, μ, ρ, w, he, h⟩ := h
    refine ⟨φ, μ, ρ, w, he, wp_mono (wpS_lift (R := RepL c) h he) fun vs H1 z => ?_⟩
    obtain ⟨φ1, μ1, ds, L, w1, r, h1⟩ := z
    unfold set3 at h1
    split at h1
    · obtain ⟨v, u, x, rfl, r1, r2, r3⟩ := repL3 r
      exact ⟨v, u, x, rfl, wpS_nx h1 w1 ((((he.later L).set i hi.1 hi.2 r1).set j hj.1 hj.2 r2).set l hl.1 hl.2 r3)⟩
    · exact h1.elim⟩
def IpV (X : Cx) (c : Cn) (op : Operator) (g : D → D → M D) : Prop :=
  ∃ r, PIp X op r ∧ ∀ φ μ H x y vx vy Q E, WOk c φ μ H → Rep c φ H x vx → Rep c φ H y vy → wpM c (Rep c) (g x y) φ μ H Q E → r vx vy H Q
theorem ipv_add : IpV X c .Add (intOp0 fun i j => .int (i + j)) := ⟨_, ip_add, fun φ μ H x y vx vy Q E w r1 r2 h => by
  unfold intOp0 at h
  split at h
  · rw [rep_int r1, rep_int r2]
    exact ⟨_, _, rfl, rfl, wp_pure h w of_int⟩
  · exact wp_stuck h⟩
theorem ipv_sub : IpV X c .Sub (intOp0 fun i j => .int (i - j)) := ⟨_, ip_sub, fun φ μ H x y vx vy Q E w r1 r2 h => by
  unfold intOp0 at h
  split at h
  · rw [rep_int r1, rep_int r2]
    exact ⟨_, _, rfl, rfl, wp_pure h w of_int⟩
  · exact wp_stuck h⟩
theorem ipv_of {op : Operator} {k : D → D → M D} (h : OpV X c (inplaceOp op) k) : IpV X c op k := by
  obtain ⟨r, h1, h2⟩ := h
  exact ⟨r, h1, h2⟩
theorem ipv_mul : IpV X c .Mult (intOp (fun i j => decide ((-(2 ^ 64) < i ∧ i < 2 ^ 64) ∨ (-(2 ^ 64) < j ∧ j < 2 ^ 64))) fun i j => .int (i * j)) := ipv_of (opv_int iop_mul (fun i j h => @of_decide_eq_true ((-(2 ^ 64) < i ∧ i < 2 ^ 64) ∨ (-(2 ^ 64) < j ∧ j < 2 ^ 64)) _ h) fun _ _ _ _ => of_int)
theorem vs_aug {st : Stmt} {op : Operator} {k : D → D → M D} {i : Nat} (hi : c.lo i ∧ (c.ini ≠ none → i ≠ 0)) (h : VE X c W e f) (ho : IpV X c op k) (hp : ∀ te ti, PE X e te → PIp X op ti → PS X st (tAug i te ti)) :
    VS X c W st (fun ρ => liftS ρ (rd i ρ >>= fun x => f ρ >>= fun y => k x y) fun d => pure (.nx (ρ.set i (some d)))) := by
  obtain ⟨ti, p1, p2⟩ := ho
  refine ⟨PS.weak (hp _ _ h.pe p1) fun D σ H h => ?_⟩
  obtain ⟨φ, μ, ρ, w, he, h⟩ := h
  have h : wpS c (liftS ρ (rd i ρ >>= fun x => f ρ >>= fun y => k x y) fun d => pure (.nx (ρ.set i (some d)))) φ μ H D W := h
  match hi' : ρ[i]? with
  | some (some d) =>
    have e2 : rd i ρ = pure d := by unfold rd; rw [hi']
    rw [e2] at h
    have h : wpS c (liftS ρ (f ρ >>= fun y => k d y) fun d => pure (.nx (ρ.set i (some d)))) φ μ H D W := h
    obtain ⟨v, e1, r⟩ := he.at_ i d hi.1 hi'
    refine ⟨v, e1, φ, μ, ρ, w, he, wp_mono (wp_bind (wpS_lift (R := Rep c) h he)) fun y H1 z => ?_⟩
    obtain ⟨φ1, μ1, d1, L, w1, r1, h1⟩ := z
    refine p2 φ1 μ1 H1 d d1 v y _ _ w1 (r.later L.toKeep) r1 (wp_mono h1 fun z H2 q => ?_)
    obtain ⟨φ2, μ2, d2, L2, w2, r2, h2⟩ := q
    exact wpS_nx h2 w2 ((he.later L2).set i hi.1 hi.2 r2)
  | some none =>
    have e2 : rd i ρ = stuck := by unfold rd; rw [hi']
    rw [e2] at h
    exact h.elim
  | none =>
    have e2 : rd i ρ = stuck := by unfold rd; rw [hi']
    rw [e2] at h
    exact h.elim
/-! ### stars -/
def seqOf : D → M (List D)
  | .tup xs => pure xs
  | x => readL x
theorem vl_star {p : Pos} (hK : X.K = c.K) (ha : VE X c W e f) (hr : VL X c W es fl) (hs : starEach (.Starred e p :: es) X.env = (true, eval e X.env) :: starEach es X.env := by rfl) : VL X c W (.Starred e p :: es) (fun ρ => f ρ >>= fun x => seqOf x >>= fun xs => fl ρ >>= fun ys => pure (xs ++ ys)) :=
  ⟨PA.weak (StX.pa_star ha.pe hr.pa hs) fun σ H Q h => by
    obtain ⟨φ, μ, ρ, w, he, h⟩ := h
    refine ⟨φ, μ, ρ, w, he, wp_mono (wp_bind h) fun x H1 y => ?_⟩
    obtain ⟨φ1, μ1, d1, L1, w1, r1, h1⟩ := y
    rw [hK]
    have fin : ∀ (xs : List D) (vs : List V), RepL c φ1 H1 xs vs → wpM c (RepL c) (fl ρ >>= fun ys => pure (xs ++ ys)) φ1 μ1 H1 Q (wEx W σ) → tL c W fl σ H1 (fun ys H2 => Q (vs ++ ys) H2) := fun xs vs rl h => by
      refine ⟨φ1, μ1, ρ, w1, he.later L1, wp_mono (wp_bind h) fun ys H2 y => ?_⟩
      obtain ⟨φ2, μ2, d2, L2, w2, r2, h2⟩ := y
      exact wp_pure h2 w2 ((rl.later L2.toKeep).app r2)
    have lists : wpM c (RepL c) (readL d1 >>= fun xs => fl ρ >>= fun ys => pure (xs ++ ys)) φ1 μ1 H1 Q (wEx W σ) → ∃ p xs, x = V.ref p ∧ (SqT c.K H1 p xs ∨ SqL c.K H1 p xs) ∧ tL c W fl σ H1 (fun ys H2 => Q (xs ++ ys) H2) := fun h => by
      obtain ⟨xs, a, vs, rfl, hs, rl, h⟩ := wp_readL h w1 r1
      exact ⟨a, vs, rfl, .inr (.inl hs), fin xs vs rl h⟩
    cases d1 with
    | tup xs =>
      obtain ⟨a, vs, rfl, hs, rl⟩ := rep_tup r1
      exact ⟨a, vs, rfl, .inl hs, fin xs vs rl h1⟩
    | _ => exact lists h1⟩
/-! ### chains -/
theorem chainR {a b d : Expr} {h : Env → M D} {k k' : D → D → M D} {r r' : R2} (hr : ∀ φ μ H x y vx vy Q E, WOk c φ μ H → Rep c φ H x vx → Rep c φ H y vy → wpM c (Rep c) (k x y) φ μ H Q E → r vx vy H Q)
    (hr' : ∀ φ μ H x y vx vy Q E, WOk c φ μ H → Rep c φ H x vx → Rep c φ H y vy → wpM c (Rep c) (k' x y) φ μ H Q E → r' vx vy H Q) (σ : L2.St) (H : Hp) (Q : VK)
    (h0 : tV c W (fun ρ => f ρ >>= fun x => g ρ >>= fun y => andD (k x y) (h ρ >>= fun z => k' y z)) σ H Q) : tChain r r' (tV c W f) (tV c W g) (tV c W h) σ H Q := by
  obtain ⟨φ, μ, ρ, w, he, h0⟩ := h0
  refine ⟨φ, μ, ρ, w, he, wp_mono (wp_bind h0) fun x H1 z => ?_⟩
  obtain ⟨φ1, μ1, d1, L1, w1, r1, h1⟩ := z
  refine ⟨φ1, μ1, ρ, w1, he.later L1, wp_mono (wp_bind h1) fun y H2 z => ?_⟩
  obtain ⟨φ2, μ2, d2, L2, w2, r2, h2⟩ := z
  refine hr φ2 μ2 H2 d1 d2 x y _ _ w2 (r1.later L2.toKeep) r2 (wp_mono (wp_bind h2) fun z H3 q => ?_)
  obtain ⟨φ3, μ3, d3, L3, w3, r3, h3⟩ := q
  cases d3 with
  | bl b =>
    cases b with
    | false => exact ⟨false, rep_bl r3, by rw [if_neg Bool.false_ne_true]; exact wp_pure h3 w3 of_bl⟩
    | true =>
      refine ⟨true, rep_bl r3, ?_⟩
      rw [if_pos rfl]
      refine ⟨φ3, μ3, ρ, w3, ((he.later L1).later L2).later L3, wp_mono (wp_bind h3) fun u H4 q => ?_⟩
      obtain ⟨φ4, μ4, d4, L4, w4, r4, h4⟩ := q
      exact hr' φ4 μ4 H4 d2 d4 y u _ _ w4 ((r2.later L3.toKeep).later L4.toKeep) r4 h4
  | _ => exact wp_stuck h3
theorem ve_chain {a b d : Expr} {h : Env → M D} {op op' : CmpOp} {k k' : D → D → M D} (ho : OpV X c (compareOp op) k) (ho' : OpV X c (compareOp op') k') (ha : VE X c W a f) (hb : VE X c W b g) (hd : VE X c W d h)
    (hp : ∀ r r' ta tb tc, OpR X (compareOp op) r → OpR X (compareOp op') r' → PE X a ta → PE X b tb → PE X d tc → PE X (.Compare a [op, op'] [b, d] pos) (tChain r r' ta tb tc)) :
    VE X c W (.Compare a [op, op'] [b, d] pos) (fun ρ => f ρ >>= fun x => g ρ >>= fun y => andD (k x y) (h ρ >>= fun z => k' y z)) := by
  obtain ⟨r, h1, h2⟩ := ho
  obtain ⟨r', h1', h2'⟩ := ho'
  exact ⟨PE.weak (hp _ _ _ _ _ h1 h1' ha.pe hb.pe hd.pe) fun σ H Q q => chainR (a := a) (b := b) (d := d) h2 h2' σ H Q q⟩
theorem vt_chain {a b d : Expr} {h : Env → M D} {op op' : CmpOp} {k k' : D → D → M D} (ho : OpV X c (compareOp op) k) (ho' : OpV X c (compareOp op') k') (ha : VE X c W a f) (hb : VE X c W b g) (hd : VE X c W d h)
    (hp : ∀ r r' ta tb tc, OpR X (compareOp op) r → OpR X (compareOp op') r' → PE X a ta → PE X b tb → PE X d tc → PT X (.Compare a [op, op'] [b, d] pos) (tTest (tChain r r' ta tb tc))) :
    VT X c W (.Compare a [op, op'] [b, d] pos) (fun ρ => (f ρ >>= fun x => g ρ >>= fun y => andD (k x y) (h ρ >>= fun z => k' y z)) >>= asB) := by
  obtain ⟨r, h1, h2⟩ := ho
  obtain ⟨r', h1', h2'⟩ := ho'
  exact ⟨PT.weak (hp _ _ _ _ _ h1 h1' ha.pe hb.pe hd.pe) fun σ H Q q => chainR (a := a) (b := b) (d := d) (W := W) (f := f) (g := g) (h := h) h2 h2' σ H _ (tT_of σ H Q q)⟩
end
end VL

namespace VL
open PySem PySem.Spec PyProof.Rows L2 LamX
section
variable {X : Cx} {c : Cn} {W : WX} {φ φ' : Phi} {H H' : Hp} {μ μ' : Mem} {ρ : Env} {σ : L2.St} {D0 : Ends} {pos : Pos} {e : Expr} {es : List Expr} {f g : Env → M D} {fl : Env → M (List D)}
theorem pass_no : Passes (L2.CX X.prog X.w) X (fun _ _ _ => False) := fun _ _ _ _ _ _ _ c => by
  obtain ⟨_, _, _, _, _, _, _, _, _, _, _, _, h⟩ := c
  exact h.elim
theorem pass_no2 : ∀ (H : Hp) (s : Shared) (e : Value) (s' : Shared), L2.CX X.prog X.w X.stack H s (fun _ _ _ => False) e s' → False := fun _ _ _ _ c => by
  obtain ⟨_, _, _, _, _, _, _, _, _, _, _, _, h⟩ := c
  exact h
/-! ### fields -/
/-- where a field stands, by the class -/
inductive SlT (K : PySem.W.Frag) (cl : String → Addr) (f : Str) : List (String × Nat) → Prop
  | nil : SlT K cl f []
  | cons {C : String} {i : Nat} {p : Addr} {r : List (String × Nat)} (hc : SlX.SCls K (cl C)) (hs : SlX.Slot1 K (cl C) f p i) (t : SlT K cl f r) : SlT K cl f ((C, i) :: r)
theorem SlT.get {K : PySem.W.Frag} {cl : String → Addr} {f : Str} : ∀ {t : List (String × Nat)} {C : String} {i : Nat}, SlT K cl f t → t.lookup C = some i → SlX.SCls K (cl C) ∧ ∃ p, SlX.Slot1 K (cl C) f p i
  | _, _, _, .nil, h => by cases h
  | _, C, i, .cons (C := C') hc hs t, h => by
    rw [List.lookup_cons] at h
    split at h
    · rename_i e
      cases h
      rw [eq_of_beq e]
      exact ⟨hc, _, hs⟩
    · exact t.get h
def attrM (t : List (String × Nat)) (d : D) : M D := match d with
  | .ins C fs => match t.lookup C with
    | some i => match fs[i]? with
      | some x => pure x
      | none => stuck
    | none => stuck
  | _ => stuck
theorem ve_attr {a : Str} {t : List (String × Nat)} (hK : X.K = c.K) (hT : SlT c.K c.cl a t) (h : VE X c W e f) (hb : attributeBase e a X.env (eval e X.env) = eval e X.env := by rfl) : VE X c W (.Attribute e a pos) (fun ρ => f ρ >>= attrM t) :=
  ⟨PE.weak (SlX.pe_sl h.pe hb) fun σ H Q q => by
    refine one (r := fun x H1 Q => ∃ a' C dx p vs i v, x = .ref a' ∧ SlX.Slt H1 a' C dx vs ∧ SlX.SCls X.K C ∧ SlX.Slot1 X.K C a p i ∧ vs[i]? = some (some v) ∧ Q v H1) (fun φ μ H x vx Q E w r h => ?_) σ H Q q
    rw [hK]
    unfold attrM at h
    split at h
    · rename_i C fs
      split at h
      · rename_i i hi
        split at h
        · rename_i d hd
          obtain ⟨h1, p, h2⟩ := hT.get hi
          simp only [Rep] at r
          obtain ⟨a', dx, vs, ws, rfl, hs, hdx, n, m, ew, rl⟩ := r
          obtain ⟨v, hv, rv⟩ := rl.get hd
          exact ⟨a', c.cl C, dx, p, ws, i, v, rfl, hs, h1, h2, ew _ _ hv, wp_pure h w rv⟩
        · exact wp_stuck h
      · exact wp_stuck h
    · exact wp_stuck h⟩
/-! ### methods, properties -/
/-- an instance of C -/
def isI (C : String) (d : D) : M Unit := match d with
  | .ins C' _ => ask (C' == C)
  | _ => stuck
theorem wp_isI {α β : Type} {R : Phi → Hp → α → β → Prop} {C : String} {d : D} {v : V} {k : Unit → M α} {Q : β → Hp → Prop} {E : XW} (h : wpM c R (isI C d >>= k) φ μ H Q E) (r : Rep c φ H d v) :
    (∃ a dx vs, v = .ref a ∧ SlX.Slt H a (c.cl C) dx vs) ∧ wpM c R (k ()) φ μ H Q E := by
  unfold isI at h
  split at h
  · obtain ⟨hC, h⟩ := wp_ask h
    simp only [Rep] at r
    obtain ⟨a', dx, vs, ws, rfl, hs, _⟩ := r
    rw [eq_of_beq hC] at hs
    exact ⟨⟨a', dx, ws, rfl, hs⟩, h⟩
  · exact wp_stuck (α := α) (R := R) h
theorem ve_prop {k : Nat} {C : String} {a : Str} {p g : Addr} {fd : FuncData} {ps : List Str} {m : List D → M D} (hK : X.K = c.K) (h : VE X c W e f) (hc : SlX.SCls X.K (c.cl C)) (at_ : PySem.W.findIn X.K (.ref (c.cl C)) a = some (some (.ref p))) (get : PySem.W.specialIn X.K (.ref p) "__get__" = some (some (.builtin "property.__get__")))
    (tk : PySem.W.takesIn X.K (.ref p) = some true) (rc : ∃ rest, PySem.W.recIn X.K p "property" = some (.ref g :: rest)) (F : FnOk X.prog X.w X.K X.mg X.base (L2.CX X.prog X.w) k g fd ps (spD c 1 m)) (hb : Binds X.K fd ps []) (hr : Room (k + 1) X.A)
    (hbs : attributeBase e a X.env (eval e X.env) = eval e X.env := by rfl) : VE X c W (.Attribute e a pos) (fun ρ => f ρ >>= fun x => isI C x >>= fun _ => noX (m [x])) :=
  ⟨PE.weak (SlX.pe_propSl h.pe hc at_ get tk rc (F.raw hb .nil) hr pass_no2 hbs) fun σ H Q q => by
    refine one (r := fun x H1 Q => ∃ a dx vs, x = .ref a ∧ SlX.Slt H1 a (c.cl C) dx vs ∧ spD c 1 m ([.ref a] ++ []) H1 Q (fun _ _ _ => False)) (fun φ μ H x vx Q E w r h => ?_) σ H Q q
    obtain ⟨⟨a', dx, vs, rfl, hs⟩, h⟩ := wp_isI h r
    exact ⟨a', dx, vs, rfl, hs, rfl, φ, μ, [x], w, RepL.one r, wp_noX h⟩⟩
theorem run_fnRS {pins : List (Addr × Obj)} {s : Shared} {k : Nat} {f : Addr} {sp : Sp} {E : XK} {Q : VK} {us : List Value} {vs : List V} (F : FnR X.prog X.w X.K X.mg X.base (L2.CX X.prog X.w) k f sp) (hr : Room k X.A) (hx : PassesAt (L2.CX X.prog X.w) X σ E) (I : Inv X pins σ H s) (r : Vals vs us) (h : sp vs H Q E) :
    codeAny (model X.prog X.w) X.A (.call (.ref f) ⟨us, []⟩) (fun r s' => match r with | .ok (.ret v) => EP X pins σ Q v s' | .ok _ => False | .error e => X.xe e s') s := by
  refine codeAny_mono (F X.A X.stack s H us vs Q E hr I.env0 r h) fun r s' hq => ?_
  cases r with
  | error e => exact hx pins H s e s' I hq
  | ok fl =>
    cases fl with
    | ret u => exact I.after hq
    | next => exact False.elim hq
    | brk => exact False.elim hq
    | cont => exact False.elim hq
def tMethS (C : Addr) (sp : Sp) (E : L2.St → XK) (ta : TE) (t : TA) : TE := fun σ H Q => ta σ H fun x H1 => ∃ a dx vs, x = .ref a ∧ SlX.Slt H1 a C dx vs ∧ t σ H1 fun ws H2 => sp (x :: ws) H2 Q (E σ)
theorem pe_methS {k : Nat} {o : Expr} {m : Str} {apos : Pos} {ta : TE} {t : TA} {C g : Addr} {sp : Sp} {pl : Sem Bool} (he : PE X o ta) (c : SlX.SCls X.K C) (hm : Meth X.K C m g) (F : FnR X.prog X.w X.K X.mg X.base (L2.CX X.prog X.w) k g sp) (hr : Room k X.A) (tk : Takes X W) (ha : PA X (e :: es) t)
    (hst : starEach (e :: es) X.env = (false, eval e X.env) :: starEach es X.env := by rfl) (hpl : (backTo pos (starEach es X.env)).any (·.1) = false := by rfl)
    (ht : eval (.Call (.Attribute o m apos) (e :: es) [] pos) X.env = (do
      let ov ← eval o X.env
      standAt apos.atName
      let (f, first) ← holding [ov] (getMethod ov m pl)
      callWith pos f first (backTo pos (starEach (e :: es) X.env)) (backToKw pos (keywordEach [] X.env))) := by rfl) :
    PE X (.Call (.Attribute o m apos) (e :: es) [] pos) (tMethS C sp (WE W) ta t) := by
  refine ⟨fun pins s σ H Q I h => ?_⟩
  refine PySem.W.methodCall_KW (pl := pl) (thn (he.run pins s σ H _ I h) fun u s1 ⟨x, H1, I1, rx, a, dx, vs, ex, hsl, q⟩ => ?_) ht
  subst ex
  obtain rfl : u = Value.ref a := rx
  refine SlX.getmethsl_ok I1 hsl c hm ?_
  refine PySem.W.callWith_K (first := [.ref a]) (h₀ := X.base) I.ok.mod.kin hm.kp (thn (ha.run pos pins s1 σ H1 _ I1 q) fun us s2 ⟨ws, H2, I2, r, q2⟩ => ⟨I2.kIn, ?_⟩) hst hpl
  exact wpAny_call (run_fnRS (us := .ref a :: us) (vs := .ref a :: ws) F hr (passAt tk σ) I2 (.cons rfl r) q2)
theorem ve_meth {k n : Nat} {C : String} {o : Expr} {m : Str} {apos : Pos} {g : Addr} {fd : FuncData} {ps : List Str} {mm : List D → M D} (h : VE X c W o f) (hc : SlX.SCls X.K (c.cl C)) (hm : Meth X.K (c.cl C) m g) (F : FnOk X.prog X.w X.K X.mg X.base (L2.CX X.prog X.w) k g fd ps (spD c n mm)) (hb : Binds X.K fd ps []) (hr : Room k X.A) (tk : Takes X W) (ha : VL X c W (e :: es) fl)
    (hp : ∀ ta t, PE X o ta → PA X (e :: es) t → PE X (.Call (.Attribute o m apos) (e :: es) [] pos) (tMethS (c.cl C) (fun vs H Q E => spD c n mm (vs ++ []) H Q E) (WE W) ta t)) :
    VE X c W (.Call (.Attribute o m apos) (e :: es) [] pos) (fun ρ => f ρ >>= fun x => isI C x >>= fun _ => fl ρ >>= fun ds => callM n mm (x :: ds)) :=
  ⟨PE.weak (hp _ _ h.pe ha.pa) fun σ H Q h => by
    obtain ⟨φ, μ, ρ, w, he, h⟩ := h
    refine ⟨φ, μ, ρ, w, he, wp_mono (wp_bind h) fun x H1 z => ?_⟩
    obtain ⟨φ1, μ1, d, L1, w1, r1, h1⟩ := z
    obtain ⟨⟨a', dx, vs, rfl, hs⟩, h1⟩ := wp_isI h1 r1
    refine ⟨a', dx, vs, rfl, hs, φ1, μ1, ρ, w1, he.later L1, wp_mono (wp_bind h1) fun ws H2 z => ?_⟩
    obtain ⟨φ2, μ2, ds, L2, w2, r2, h2⟩ := z
    obtain ⟨hn, h2⟩ := wp_ask h2
    have rl : RepL c φ2 H2 (d :: ds) (.ref a' :: ws) := by simp only [RepL]; exact ⟨_, _, rfl, r1.later L2.toKeep, r2⟩
    refine ⟨by rw [List.append_nil, ← rl.len]; exact eq_of_beq hn, φ2, μ2, d :: ds, w2, by rw [List.append_nil]; exact rl, h2⟩⟩
theorem ve_meth0 {k n : Nat} {C : String} {o : Expr} {m : Str} {apos : Pos} {g : Addr} {fd : FuncData} {ps : List Str} {mm : List D → M D} (h : VE X c W o f) (hc : SlX.SCls X.K (c.cl C)) (hm : Meth X.K (c.cl C) m g) (F : FnOk X.prog X.w X.K X.mg X.base (L2.CX X.prog X.w) k g fd ps (spD c 1 mm)) (hb : Binds X.K fd ps []) (hr : Room k X.A)
    (hp : ∀ ta, PE X o ta → PE X (.Call (.Attribute o m apos) [] [] pos) (SlX.tMethSl (c.cl C) (fun vs H Q E => spD c 1 mm (vs ++ []) H Q E) (fun _ _ _ => False) ta tNil)) :
    VE X c W (.Call (.Attribute o m apos) [] [] pos) (fun ρ => f ρ >>= fun x => isI C x >>= fun _ => noX (mm [x])) :=
  ⟨PE.weak (hp _ h.pe) fun σ H Q q => by
    refine one (r := fun x H1 Q => ∃ a dx vs, x = .ref a ∧ SlX.Slt H1 a (c.cl C) dx vs ∧ tNil σ H1 fun ws H2 => spD c 1 mm ((x :: ws) ++ []) H2 Q (fun _ _ _ => False)) (fun φ μ H x vx Q E w r h => ?_) σ H Q q
    obtain ⟨⟨a', dx, vs, rfl, hs⟩, h⟩ := wp_isI h r
    exact ⟨a', dx, vs, rfl, hs, rfl, φ, μ, [x], w, RepL.one r, wp_noX h⟩⟩
end
end VL

namespace VL
open PySem PySem.Spec PyProof.Rows L2 LamX
/-! ### __init__ -/
abbrev Cn.at (c : Cn) (I : IniC) : Cn := { c with ini := some I }
section
variable {X : Cx} {c : Cn} {I : IniC} {W : WX} {φ φ' : Phi} {H H' : Hp} {μ μ' : Mem} {ρ : Env} {σ : L2.St} {D0 : Ends} {pos : Pos} {e : Expr} {es : List Expr} {f g : Env → M D} {fl : Env → M (List D)}
mutual
theorem Rep.at_ : ∀ (d : D) (v : V), Rep (c.at I) φ H d v ↔ Rep c φ H d v
  | .non, _ => by simp only [Rep]
  | .bl _, _ => by simp only [Rep]
  | .int _, _ => by simp only [Rep]
  | .str _, _ => by simp only [Rep]
  | .ty _, _ => by simp only [Rep]
  | .cls _, _ => by simp only [Rep]
  | .fn _, _ => by simp only [Rep]
  | .ptr _, _ => by simp only [Rep]
  | .tup ds, v => by simp only [Rep, RepL.at_ ds]
  | .lst ds, v => by simp only [Rep, RepL.at_ ds]
  | .scr ds, v => by simp only [Rep, RepL.at_ ds]
  | .dct ks ds, v => by simp only [Rep, RepL.at_ ds]
  | .ins C fs, v => by simp only [Rep, RepL.at_ fs]
theorem RepL.at_ : ∀ (ds : List D) (vs : List V), RepL (c.at I) φ H ds vs ↔ RepL c φ H ds vs
  | [], _ => by simp only [RepL]
  | d :: ds, vs => by simp only [RepL, Rep.at_ d, RepL.at_ ds]
end
theorem CellOk.at_ {e : Addr × Addr} {x : Cell} : CellOk (c.at I) φ H e x ↔ CellOk c φ H e x := by
  cases x with
  | lst ds => simp only [CellOk, RepL.at_]
  | dct ks ds => simp only [CellOk, RepL.at_]
theorem WOk.at_ : WOk (c.at I) φ μ H ↔ WOk c φ μ H := by
  constructor
  · exact fun w => ⟨w.len, fun k e h => by obtain ⟨x, h1, h2⟩ := w.cell k e h; exact ⟨x, h1, CellOk.at_.mp h2⟩, w.hid, w.inj, w.tabs⟩
  · exact fun w => ⟨w.len, fun k e h => by obtain ⟨x, h1, h2⟩ := w.cell k e h; exact ⟨x, h1, CellOk.at_.mpr h2⟩, w.hid, w.inj, w.tabs⟩
theorem RepX.at_ {x : Exn} {k : Value} {d : Option Addr} : RepX (c.at I) φ H x k d ↔ RepX c φ H x k d := by
  unfold RepX
  obtain ⟨n, a⟩ := x
  cases a with
  | none => rfl
  | some a => simp only [Rep.at_]
/-- what an __init__ leaves: its fields -/
def runI (n k : Nat) (s : Env → M Flow) (ds : List D) : M (List D) := fun μ => match s (none :: ds.map some ++ List.replicate (n - (ds.length + 1)) none ++ List.replicate k none) μ with
  | .ok (.nx ρ) μ' => match (ρ.drop n).mapM id with
    | some fs => .ok fs μ'
    | none => .stuck
  | .ok (.xc _ e) μ' => .exn e μ'
  | _ => .stuck
def wpI (c : Cn) (C : String) (x dx : Addr) (m : M (List D)) (φ : Phi) (μ : Mem) (H : Hp) (Q : VK) (E : XW) : Prop := match m μ with
  | .ok fs μ' => ∀ φ' H', LaterS (c.at ⟨x, dx, C, 0⟩) φ H φ' H' → WOk c φ' μ' H' → (∃ ws vs, SlX.Slt H' x (c.cl C) dx ws ∧ (∀ (i : Nat) (v : V), vs[i]? = some v → ws[i]? = some (some v)) ∧ RepL c φ' H' fs vs) → Q .non H'
  | .exn e μ' => ∀ φ' H' k d, LaterS (c.at ⟨x, dx, C, 0⟩) φ H φ' H' → WOk c φ' μ' H' → RepX c φ' H' e k d → E k d H'
  | .stuck => False
def spI (c : Cn) (C : String) (n : Nat) (m : List D → M (List D)) : Sp := fun vs H Q E => vs.length = n ∧ ∃ x dx us φ μ ds, vs = .ref x :: us ∧ dx ≠ x ∧ H x = some (.ins (c.cl C) dx []) ∧ H dx = some (.own x) ∧ x ∈ φ.hid ∧ dx ∈ φ.hid ∧ WOk c φ μ H ∧ RepL c φ H ds us ∧ wpI c C x dx (m ds) φ μ H Q E
theorem fields_of {ws : List (Option V)} : ∀ {fs : List D}, (∀ (j : Nat) (d : D), fs[j]? = some d → ∃ v, ws[j]? = some (some v) ∧ Rep c φ H d v) → ∃ vs, (∀ (i : Nat) (v : V), vs[i]? = some v → ws[i]? = some (some v)) ∧ RepL c φ H fs vs := by
  intro fs
  induction fs generalizing ws with
  | nil => exact fun _ => ⟨[], fun i v h => by simp at h, by simp only [RepL]⟩
  | cons d fs ih =>
    intro h
    obtain ⟨v, h1, h2⟩ := h 0 d rfl
    cases ws with
    | nil => simp at h1
    | cons o ws =>
      simp at h1
      subst h1
      obtain ⟨vs, h3, h4⟩ := ih (ws := ws) fun j d' e => by simpa using h (j + 1) d' (by simpa using e)
      refine ⟨v :: vs, fun i u q => ?_, by simp only [RepL]; exact ⟨v, vs, rfl, h2, h4⟩⟩
      cases i with
      | zero => simpa using q
      | succ i => simpa using h3 i u (by simpa using q)
theorem mapM_id : ∀ {xs : List (Option D)} {fs : List D}, xs.mapM id = some fs → ∀ (j : Nat) (d : D), fs[j]? = some d → xs[j]? = some (some d)
  | [], fs, h, j, d, e => by
    simp only [List.mapM_nil] at h
    cases h
    simp at e
  | o :: xs, fs, h, j, d, e => by
    cases o with
    | none => simp [List.mapM_cons] at h
    | some a =>
      simp only [List.mapM_cons, id, Option.bind_eq_bind, Option.bind_some, Option.bind_eq_some_iff] at h
      obtain ⟨r, h1, h2⟩ := h
      cases h2
      cases j with
      | zero => simp at e; subst e; rfl
      | succ j => simpa using mapM_id h1 j d (by simpa using e)
theorem fni_ok {P : Program} {w : World} {K : PySem.W.Frag} {mg : Str → Option Value} {base : Heap} {x qual : Str} {st : Stmt} {f : Addr} {fd : FuncData} {N ps : List Str} {k nf : Nat} {C : String} (F : Fun K x qual st f fd) (hn : ps.length ≤ N.length) (S : FnScope N ps (defScope st)) {s : Env → M Flow}
    (hb : ∀ (a dx : Addr) (cdv : Value) (A : Around) (outer : List PySem.Env) (s0 : Shared) (H : Hp) (E : XK), Room k (A.deeper (envOfC qual (defScope st) s0.heap.objs.size f cdv)) →
      VB (cxOf (L2.CX P w) P w K mg base N qual (defScope st) f cdv A outer s0 H E) (c.at ⟨a, dx, C, N.length⟩) (fun cls d _ H => E cls d H) (defBody st) s) : FnOk P w K mg base (L2.CX P w) (k + 1) f fd ps (spI c C ps.length (runI N.length nf s)) := by
  refine F.okX S (fun vs H Q E h => h.1) fun cdv A outer s0 H vs Q E hr h => ?_
  obtain ⟨hl, a, dx, us, φ, μ, ds, rfl, ne, h1, h2, hx, hd, w, r, h⟩ := h
  refine ⟨_, (hb a dx cdv A outer s0 H E hr).ps, ?_⟩
  have hlen := r.len
  have hlu : us.length + 1 = ps.length := by simpa using hl
  refine ⟨φ, μ, none :: ds.map some ++ List.replicate (N.length - (ds.length + 1)) none ++ List.replicate nf none, WOk.at_.mpr w, ?_, ?_⟩
  · have hσ : (L2.start N (.ref a :: us)).length = N.length := by unfold L2.start; simp; omega
    refine ⟨?_, (fun z => by cases z), fun i d q e => ?_, fun I e => ?_⟩
    · rw [hσ]; simp; omega
    · have hi : i < N.length := q ⟨a, dx, C, N.length⟩ rfl
      cases i with
      | zero => simp at e
      | succ i =>
        have hi2 : i < ds.length := by
          by_cases z : i < ds.length
          · exact z
          · have : (none :: List.map some ds ++ List.replicate (N.length - (ds.length + 1)) none ++ List.replicate nf none : List (Option D))[i + 1]? = some none := by
              rw [List.append_assoc, List.cons_append, List.getElem?_cons_succ, List.getElem?_append_right (by simpa using Nat.le_of_not_lt z), List.replicate_append_replicate, List.getElem?_replicate]
              rw [if_pos (by simp; omega)]
            rw [this] at e
            cases e
        rw [List.append_assoc, List.cons_append, List.getElem?_cons_succ, List.getElem?_append_left (by simpa using hi2), List.getElem?_map] at e
        cases hd' : ds[i]? with
        | none => rw [hd'] at e; cases e
        | some d' =>
          rw [hd'] at e
          simp only [Option.map_some, Option.some.injEq] at e
          subst e
          obtain ⟨v, q1, q2⟩ := r.get hd'
          refine ⟨v, ?_, (Rep.at_ _ _).mpr q2⟩
          unfold L2.start
          rw [List.map_cons, List.cons_append, List.getElem?_cons_succ, List.getElem?_append_left (by simpa [← hlen] using hi2), List.getElem?_map, q1]
          rfl
    · cases e
      refine ⟨hσ, by unfold L2.start; rfl, hx, hd, ne, [], .inl ⟨h1, rfl⟩, fun j d e => ?_⟩
      have : (none :: List.map some ds ++ List.replicate (N.length - (ds.length + 1)) none ++ List.replicate nf none : List (Option D))[N.length + j]? = some (some d) := e
      rw [List.getElem?_append_right (by simp; omega)] at this
      have := List.mem_of_getElem? this
      rw [List.mem_replicate] at this
      cases this.2
  · unfold wpI runI at h
    unfold wpS
    cases hm : s (none :: ds.map some ++ List.replicate (N.length - (ds.length + 1)) none ++ List.replicate nf none) μ with
    | ok fl μ1 =>
      rw [hm] at h
      cases fl with
      | nx ρ =>
        intro φ1 H1 σ1 L1 w1 r1
        simp only at h
        cases hf : (ρ.drop N.length).mapM id with
        | none => rw [hf] at h; exact h.elim
        | some fs =>
          rw [hf] at h
          have hI := r1.ini _ rfl
          obtain ⟨ws, hs, hfs⟩ := hI.fs
          have hfl : ∀ (j : Nat) (d : D), fs[j]? = some d → ∃ v, ws[j]? = some (some v) ∧ Rep c φ1 H1 d v := fun j d e => by
            have q := mapM_id hf j d e
            rw [List.getElem?_drop] at q
            obtain ⟨v, q1, q2⟩ := hfs j d q
            exact ⟨v, q1, (Rep.at_ _ _).mp q2⟩
          obtain ⟨vs, q1, q2⟩ := fields_of hfl
          exact h φ1 H1 ⟨L1.toKeep, L1.len, L1.hid, fun b hb q => L1.hk b hb fun I e => by cases e; exact q ⟨a, dx, C, 0⟩ rfl⟩ (WOk.at_.mp w1) ⟨ws, vs, hs, q1, q2⟩
      | rt d => exact h.elim
      | bk ρ => exact h.elim
      | ct ρ => exact h.elim
      | xc ρ x => exact fun φ1 H1 σ1 k1 d1 L1 w1 _ x1 => h φ1 H1 k1 d1 ⟨L1.toKeep, L1.len, L1.hid, fun b hb q => L1.hk b hb fun I e => by cases e; exact q ⟨a, dx, C, 0⟩ rfl⟩ (WOk.at_.mp w1) (RepX.at_.mp x1)
    | exn _ _ => rw [hm] at h; exact h
    | stuck => rw [hm] at h; exact h
/-- self.a = e -/
theorem vs_self {a self : Str} {j : Nat} {p : Addr} {p2 p3 : Pos} (hI : c.ini = some I) (hK : X.K = c.K) (hc : SlX.SCls c.K (c.cl I.C)) (hs : SlX.Slot1 c.K (c.cl I.C) a p j) (h : VE X c W e f) (hp : ∀ tv, PE X e tv → PS X (.Assign [.Attribute (.Name self p2) a p3] e pos) (SlX.sSl X.K (tVar 0) tv a)) :
    VS X c W (.Assign [.Attribute (.Name self p2) a p3] e pos) (fun ρ => liftS ρ (f ρ) fun d => pure (.nx (ρ.set (I.n + j) (some d)))) :=
  ⟨PS.weak (hp _ h.pe) fun D σ H h => by
    obtain ⟨φ, μ, ρ, w, he, h⟩ := h
    refine ⟨φ, μ, ρ, w, he, wp_mono (wpS_lift (R := Rep c) h he) fun y H1 z => ?_⟩
    obtain ⟨φ1, μ1, d, L, w1, r, h1⟩ := z
    have he1 := he.later L
    have hi := he1.ini I hI
    obtain ⟨vs, hsl, hfs⟩ := hi.fs
    refine ⟨_, hi.self, I.x, c.cl I.C, I.dx, p, vs, j, rfl, hsl, by rw [hK]; exact hc, by rw [hK]; exact hs, ?_⟩
    have ox : own φ1 I.x := .inr hi.hx
    have od : own φ1 I.dx := .inr hi.hd
    have same : ∀ b, ¬ own φ1 b → SlX.slH H1 I.x (c.cl I.C) I.dx (SlX.putS j y vs) b = H1 b := fun b nb => SlX.slH_ne (fun z => nb (z ▸ ox)) (fun z => nb (z ▸ od))
    have K : Keep φ1 H1 φ1 (SlX.slH H1 I.x (c.cl I.C) I.dx (SlX.putS j y vs)) := ⟨fun _ _ q => q, fun b o nb q _ => by rw [same b nb]; exact q, fun b ps nb q => ⟨#[], by rw [same b nb, q]; simp⟩, fun b z nb => absurd z nb⟩
    have LS : LaterS c φ1 H1 φ1 (SlX.slH H1 I.x (c.cl I.C) I.dx (SlX.putS j y vs)) := ⟨K, Nat.le_refl _, rfl, fun b hb q => SlX.slH_ne (q I hI).1 (q I hI).2⟩
    have there : ∀ b, H1 b ≠ none → SlX.slH H1 I.x (c.cl I.C) I.dx (SlX.putS j y vs) b ≠ none := fun b hb => by
      by_cases z : b = I.x
      · rw [z]; unfold SlX.slH; rw [upd_same]; simp
      · by_cases z2 : b = I.dx
        · rw [z2]; unfold SlX.slH; rw [upd_ne hi.ne, upd_same]; simp
        · rw [SlX.slH_ne z z2]; exact hb
    have W2 : WOk c φ1 μ1 (SlX.slH H1 I.x (c.cl I.C) I.dx (SlX.putS j y vs)) := by
      refine ⟨w1.len, fun k e q => ?_, fun b hb => ⟨there b (w1.hid b hb).1, (w1.hid b hb).2⟩, w1.inj, w1.tabs.keep (fun b o nb q => by rw [same b nb]; exact q) fun b z nb => absurd z nb⟩
      obtain ⟨x, q1, q2⟩ := w1.cell k e q
      have nx := (w1.hid _ hi.hx).2
      have nd := (w1.hid _ hi.hd).2
      exact ⟨x, q1, q2.later K (SlX.slH_ne (fun z => nx ⟨k, e, q, .inl z.symm⟩) (fun z => nd ⟨k, e, q, .inl z.symm⟩)) (SlX.slH_ne (fun z => nx ⟨k, e, q, .inr z.symm⟩) (fun z => nd ⟨k, e, q, .inr z.symm⟩))⟩
    refine h1 φ1 _ σ LS W2 ⟨by rw [List.length_set]; exact he1.len, (fun z => by rw [hI] at z; cases z), fun i d' q e => ?_, fun I' e' => ?_⟩
    · have := q I hI
      rw [List.getElem?_set_ne (by omega)] at e
      obtain ⟨v, q1, q2⟩ := he1.at_ i d' q e
      exact ⟨v, q1, q2.later K⟩
    · rw [hI] at e'
      cases e'
      refine ⟨hi.len, hi.self, hi.hx, hi.hd, hi.ne, SlX.putS j y vs, SlX.slH_slt hi.ne, fun j' d' e => ?_⟩
      by_cases z : j' = j
      · subst z
        by_cases hl : I.n + j' < ρ.length
        · rw [List.getElem?_set_self hl] at e
          cases e
          exact ⟨y, SlX.putS_get .., r.later K⟩
        · rw [List.getElem?_eq_none (by rw [List.length_set]; omega)] at e
          cases e
      · rw [List.getElem?_set_ne (by omega)] at e
        obtain ⟨v, q1, q2⟩ := hfs j' d' e
        exact ⟨v, (SlX.putS_ne z).mpr q1, q2.later K⟩⟩
/-- C(..) -/
def newM (C : String) (n : Nat) (m : List D → M (List D)) (ds : List D) : M D := ask (ds.length + 1 == n) >>= fun _ => m ds >>= fun fs => pure (.ins C fs)
theorem make_read {C : String} {n : Nat} {m : List D → M (List D)} {ds : List D} {vs : List V} {Q : VK} {E : XW} (w : WOk c φ μ H) (r : RepL c φ H ds vs) (h : wpM c (Rep c) (newM C n m ds) φ μ H Q E) :
    ∀ x dx, H x = none → H dx = none → dx ≠ x → spI c C n m (.ref x :: vs) (upd (upd H dx (.own x)) x (.ins (c.cl C) dx [])) (fun v H2 => v = .non ∧ Q (.ref x) H2) E := by
  intro x dx nx nd ne
  obtain ⟨hn, h⟩ := wp_ask h
  have hn : ds.length + 1 = n := eq_of_beq hn
  have L1 := Later.laid (o := .own x) w nd
  have w1 := w.laid (o := .own x) nd
  have nx1 : upd H dx (.own x) x = none := by rw [upd_ne (Ne.symm ne)]; exact nx
  have L2' := Later.laid (o := .ins (c.cl C) dx []) w1 nx1
  have w2 := w1.laid (o := .ins (c.cl C) dx []) nx1
  have L := L1.trans L2'
  generalize hH : upd (upd H dx (.own x)) x (.ins (c.cl C) dx []) = H2 at *
  have hx2 : H2 x = some (.ins (c.cl C) dx []) := by rw [← hH]; exact upd_same
  have hd2 : H2 dx = some (.own x) := by rw [← hH, upd_ne ne]; exact upd_same
  have nox := w.new nx
  have nod := w.new nd
  have mem : ∀ b, own ((φ.add x).add dx) b ↔ own φ b ∨ b = x ∨ b = dx := fun b => by rw [own_add, own_add, or_assoc]
  have K0 : Keep φ H ((φ.add x).add dx) H2 := ⟨L.pre, L.kp, L.tb, fun b z nb => by
    rcases (mem b).mp z with z | z | z
    · exact absurd z nb
    · rw [z]; exact nx
    · rw [z]; exact nd⟩
  have wI : WOk c ((φ.add x).add dx) μ H2 := by
    refine ⟨w.len, fun k e q => ?_, fun b hb => ?_, w.inj, w.tabs.keep (fun b o nb q => ?_) K0.fr⟩
    · obtain ⟨y, q1, q2⟩ := w.cell k e q
      have t := q2.there
      refine ⟨y, q1, q2.later K0 ?_ ?_⟩
      · rw [← hH, upd_ne fun z => t.1 (by rw [z]; exact nx), upd_ne fun z => t.1 (by rw [z]; exact nd)]
      · rw [← hH, upd_ne fun z => t.2 (by rw [z]; exact nx), upd_ne fun z => t.2 (by rw [z]; exact nd)]
    · rcases List.mem_cons.mp hb with z | hb
      · rw [z, hd2]; exact ⟨by simp, fun q => nod (.inl q)⟩
      rcases List.mem_cons.mp hb with z | hb
      · rw [z, hx2]; exact ⟨by simp, fun q => nox (.inl q)⟩
      · exact ⟨(w2.hid b hb).1, (w.hid b hb).2⟩
    · rw [← hH, upd_ne (ne_of_none q nx), upd_ne (ne_of_none q nd)]; exact q
  refine ⟨by rw [List.length_cons, ← r.len]; exact hn, x, dx, vs, (φ.add x).add dx, μ, ds, rfl, ne, hx2, hd2, List.mem_cons_of_mem _ List.mem_cons_self, List.mem_cons_self, wI, r.later K0, ?_⟩
  have e1 : (m ds >>= fun fs => (pure (D.ins C fs) : M D)) μ = M.bind (m ds) (fun fs => M.pure (D.ins C fs)) μ := rfl
  unfold wpM at h
  rw [e1] at h
  unfold M.bind M.pure at h
  -- from the inner frame to the outer one
  have out : ∀ φ' H', LaterS (c.at ⟨x, dx, C, 0⟩) ((φ.add x).add dx) H2 φ' H' → ∃ φ3, φ' = (φ3.add x).add dx ∧ Later φ H φ3 H' := fun φ' H' LL => by
    obtain ⟨st, hid⟩ := φ'
    have eh : hid = dx :: x :: φ.hid := LL.hid
    subst eh
    refine ⟨⟨st, φ.hid⟩, rfl, ?_⟩
    have K1 : Keep φ H ⟨st, dx :: x :: φ.hid⟩ H' := K0.trans LL.toKeep
    refine ⟨⟨K1.pre, K1.kp, K1.tb, fun b z nb => K1.fr b ?_ nb⟩, LL.len, rfl, fun b hb => ?_⟩
    · rcases z with z | z
      · exact .inl z
      · exact .inr (List.mem_cons_of_mem _ (List.mem_cons_of_mem _ z))
    · have nbx : b ≠ x := fun z => (w.hid b hb).1 (by rw [z]; exact nx)
      have nbd : b ≠ dx := fun z => (w.hid b hb).1 (by rw [z]; exact nd)
      rw [LL.hk b (List.mem_cons_of_mem _ (List.mem_cons_of_mem _ hb)) fun I e => by cases e; exact ⟨nbx, nbd⟩, ← hH, upd_ne nbx, upd_ne nbd]
  unfold wpI
  cases hm : m ds μ with
  | ok fs μ' =>
    rw [hm] at h
    intro φ' H' LL w' ⟨ws, us, hs, hw, rl⟩
    obtain ⟨φ3, rfl, L3⟩ := out φ' H' LL
    refine ⟨rfl, h φ3 H' (.ref x) L3 w'.less.less ?_⟩
    have hdx : H' dx ≠ none := (w'.hid dx List.mem_cons_self).1
    have n1 : ¬ own φ3 x := fun z => z.elim (w'.hid x (List.mem_cons_of_mem _ List.mem_cons_self)).2 fun z => nox (.inr (by rw [← L3.hid]; exact z))
    have n2 : ¬ own φ3 dx := fun z => z.elim (w'.hid dx List.mem_cons_self).2 fun z => nod (.inr (by rw [← L3.hid]; exact z))
    simp only [Rep]
    exact ⟨x, dx, us, ws, rfl, hs, hdx, n1, n2, hw, rl.less.less⟩
  | exn x' μ' =>
    rw [hm] at h
    intro φ' H' k d LL w' rx
    obtain ⟨φ3, rfl, L3⟩ := out φ' H' LL
    refine h φ3 H' k d L3 w'.less.less ?_
    obtain ⟨r1, r2⟩ := rx
    refine ⟨r1, ?_⟩
    cases ha : x'.arg with
    | none => rw [ha] at r2; exact r2
    | some a =>
      rw [ha] at r2
      obtain ⟨dx', v, q1, q2, q3, q4⟩ := r2
      exact ⟨dx', v, q1, q2, fun z => q3 ((own_add).mpr (.inl (own_add.mpr (.inl z)))), q4.less.less⟩
  | stuck => rw [hm] at h; exact h
theorem run_makeS {k : Nat} {C fa : Addr} {fd : FuncData} {ps : List Str} {sp : Sp} {pins : List (Addr × Obj)} {s : Shared} {Q : VK} {us : List Value} {vs dvs : List V} {ds : List Value} {E : XK} (M : Mk X.K C fa) (F : FnOk X.prog X.w X.K X.mg X.base (L2.CX X.prog X.w) k fa fd ps sp) (hr : Room (k + 1) X.A) (hb : Binds X.K fd ps ds) (hd : Vals dvs ds)
    (hx : PassesAt (L2.CX X.prog X.w) X σ E) (I : Inv X pins σ H s) (r : Vals vs us)
    (h : ∀ x dx, H x = none → H dx = none → dx ≠ x → sp (.ref x :: (vs ++ dvs)) (upd (upd H dx (.own x)) x (.ins C dx [])) (fun v H2 => v = .non ∧ Q (.ref x) H2) E) :
    wpAny (model X.prog X.w) X.A (call (.ref C) us) (EP X pins σ Q) X.xe s := by
  have hq := h (s.heap.objs.size + 1) s.heap.objs.size (I.hok.fresh (Nat.le_succ _)) (I.hok.fresh (Nat.le_refl _)) (Nat.ne_of_lt (Nat.lt_succ_self _))
  have I2 := Inv.made (C := C) I
  have r2 : Vals (V.ref (s.heap.objs.size + 1) :: (vs ++ dvs)) (Value.ref (s.heap.objs.size + 1) :: (us ++ ds)) := .cons rfl (r.append hd)
  have hl : (Value.ref (s.heap.objs.size + 1) :: us ++ ds).length = ps.length := by
    have e := r2.length
    rw [F.len _ _ _ _ hq] at e
    exact e.symm
  refine wpAny_call (make_map (f := fa) I.kIn M.makes M.init (beq_iff_eq.mp M.fn) (codeAny_mono (F.run _ X.stack _ _ ⟨Value.ref (s.heap.objs.size + 1) :: us, []⟩ (Value.ref (s.heap.objs.size + 1) :: (us ++ ds)) _ _ E (hr.make C us [])
    (I2.env0.make C us []) (hb _ (Value.ref (s.heap.objs.size + 1) :: us) I2.kIn hl) r2 hq) fun r s' hq' => ?_))
  cases r with
  | error e => exact hx pins _ _ e s' I2 hq'
  | ok fl =>
    cases fl with
    | ret u =>
      obtain ⟨v, H', I3, rv, ev, q3⟩ := I2.after hq'
      subst ev
      exact ⟨rv, ⟨V.ref (s.heap.objs.size + 1), H', I3, rfl, q3⟩⟩
    | next => exact False.elim hq'
    | brk => exact False.elim hq'
    | cont => exact False.elim hq'
/-- C(e, ..); dds: the defaults that fill up -/
theorem ve_make {k n : Nat} {C : String} {x : Str} {fa : Addr} {fd : FuncData} {ps : List Str} {ds : List Value} {dvs : List V} {dds : List D} {p : Pos} {m : List D → M (List D)} (M0 : Mk X.K (c.cl C) fa) (F : FnOk X.prog X.w X.K X.mg X.base (L2.CX X.prog X.w) k fa fd ps (spI c C n m)) (hr : Room (k + 1) X.A) (hg : Gl X x) (hm : X.mg x = some (.ref (c.cl C))) (hb : Binds X.K fd ps ds) (hd : Vals dvs ds)
    (hdd : ∀ φ H, RepL c φ H dds dvs) (tk : Takes X W) (ha : VL X c W (e :: es) fl) (hdb : (x == ("__debug__" : Str)) = false := by decide) (he : starEach (e :: es) X.env = (false, eval e X.env) :: starEach es X.env := by rfl) (hpl : (backTo pos (starEach es X.env)).any (·.1) = false := by rfl) :
    VE X c W (.Call (.Name x p) (e :: es) [] pos) (fun ρ => fl ρ >>= fun ds => newM C n m (ds ++ dds)) := by
  refine ⟨⟨fun pins s σ H Q I h => ?_⟩⟩
  obtain ⟨φ, μ, ρ, w, hE, h⟩ := h
  refine wpAny_Call_Name_kw (ld_glob I hg hm ?_ hdb)
  refine PySem.W.callWith_K (h₀ := X.base) I.ok.mod.kin M0.kp (thn (ha.pa.run pos pins s σ H _ I ⟨φ, μ, ρ, w, hE, wp_bind h⟩) fun us s1 ⟨vs, H1, I1, r, q⟩ => ⟨I1.kIn, ?_⟩) he hpl
  obtain ⟨φ1, μ1, ds', L1, w1, r1, h1⟩ := q
  exact run_makeS M0 F hr hb hd (passAt tk σ) I1 r (make_read w1 (r1.app (hdd φ1 H1)) h1)
theorem ve_make0 {k n : Nat} {C : String} {x : Str} {fa : Addr} {fd : FuncData} {ps : List Str} {ds : List Value} {dvs : List V} {dds : List D} {p : Pos} {m : List D → M (List D)} (M0 : Mk X.K (c.cl C) fa) (F : FnOk X.prog X.w X.K X.mg X.base (L2.CX X.prog X.w) k fa fd ps (spI c C n m)) (hr : Room (k + 1) X.A) (hg : Gl X x) (hm : X.mg x = some (.ref (c.cl C))) (hb : Binds X.K fd ps ds) (hd : Vals dvs ds)
    (hdd : ∀ φ H, RepL c φ H dds dvs) (tk : Takes X W) (hdb : (x == ("__debug__" : Str)) = false := by decide) :
    VE X c W (.Call (.Name x p) [] [] pos) (fun _ => newM C n m dds) := by
  refine ⟨⟨fun pins s σ H Q I h => ?_⟩⟩
  obtain ⟨φ, μ, ρ, w, hE, h⟩ := h
  refine wpAny_Call_Name_kw (ld_glob I hg hm ?_ hdb)
  exact PySem.W.callWith_K0 I.kIn M0.kp (run_makeS (us := []) (vs := []) M0 F hr hb hd (passAt tk σ) I .nil (make_read w (hdd φ H) h))
end
end VL

namespace VL
open PySem PySem.Spec PyProof.Rows L2 LamX
/-! ### lists that change: made -/
section
variable {X : Cx} {c : Cn} {W : WX} {φ φ' : Phi} {H H' : Hp} {μ μ' : Mem} {e : Expr} {es : List Expr} {f g : Env → M D} {fl : Env → M (List D)} {pos : Pos}
def newL (r : List D) : M D := fun μ => .ok (.ptr μ.length) (μ ++ [.lst r])
def Phi.push (φ : Phi) (p : Addr) : Phi := { φ with st := φ.st ++ [some (p, p)] }
theorem own_push {p b : Addr} : own (φ.push p) b ↔ own φ b ∨ b = p := by
  constructor
  · rintro (⟨k, e, h, z⟩ | h)
    · by_cases hk : k < φ.st.length
      · have h : (φ.st ++ [some (p, p)])[k]? = some (some e) := h
        rw [List.getElem?_append_left hk] at h
        exact .inl (.inl ⟨k, e, h, z⟩)
      · have h : (φ.st ++ [some (p, p)])[k]? = some (some e) := h
        rw [List.getElem?_append_right (Nat.le_of_not_lt hk)] at h
        cases hj : k - φ.st.length with
        | zero => rw [hj] at h; cases h; exact .inr (z.elim id id)
        | succ j => rw [hj] at h; simp at h
    · exact .inl (.inr h)
  · rintro ((⟨k, e, h, z⟩ | h) | rfl)
    · refine .inl ⟨k, e, ?_, z⟩
      show (φ.st ++ [some (p, p)])[k]? = some (some e)
      rw [List.getElem?_append_left]
      · exact h
      · exact (List.getElem?_eq_some_iff.mp h).1
    · exact .inr h
    · refine .inl ⟨φ.st.length, (b, b), ?_, .inl rfl⟩
      show (φ.st ++ [some (b, b)])[φ.st.length]? = _
      simp
theorem push_at {p : Addr} : (φ.push p).st[φ.st.length]? = some (some (p, p)) := by
  show (φ.st ++ [some (p, p)])[φ.st.length]? = _
  simp
theorem push_pre {p : Addr} {k : Nat} {e : Addr × Addr} (h : φ.st[k]? = some (some e)) : (φ.push p).st[k]? = some (some e) := by
  show (φ.st ++ [some (p, p)])[k]? = some (some e)
  rw [List.getElem?_append_left (List.getElem?_eq_some_iff.mp h).1]
  exact h
/-- a list comes to the store: what was hidden or free -/
theorem WOk.push {p : Addr} {x : Cell} {φ0 : Phi} {H0 : Hp} (w : WOk c φ0 μ H0) (es : φ0.st = φ.st) (eh : ∀ b ∈ φ.hid, b ∈ φ0.hid) (np : p ∉ φ.hid) (nt : ∀ (k : Nat) (e : Addr × Addr), φ.st[k]? = some (some e) → e.1 ≠ p ∧ e.2 ≠ p) (eo : ∀ b, own (φ.push p) b → own φ0 b ∨ b = p ∧ H0 p = none)
    (e : ∀ b, b ≠ p → H' b = H0 b) (K : Keep φ0 H0 (φ.push p) H') (hx : CellOk c (φ.push p) H' (p, p) x) : WOk c (φ.push p) (μ ++ [x]) H' where
  len := by
    show (φ.st ++ [some (p, p)]).length = _
    rw [List.length_append, List.length_append, ← es, w.len]; rfl
  cell := fun k e' h => by
    by_cases hk : k < φ.st.length
    · have h : (φ.st ++ [some (p, p)])[k]? = some (some e') := h
      rw [List.getElem?_append_left hk] at h
      obtain ⟨x, h1, h2⟩ := w.cell k e' (by rw [es]; exact h)
      have n := nt k e' h
      exact ⟨x, by rw [List.getElem?_append_left (by rw [← w.len, es]; exact hk)]; exact h1, h2.later K (e _ n.1) (e _ n.2)⟩
    · have h : (φ.st ++ [some (p, p)])[k]? = some (some e') := h
      rw [List.getElem?_append_right (Nat.le_of_not_lt hk)] at h
      cases hj : k - φ.st.length with
      | zero =>
        rw [hj] at h; cases h
        have : k = μ.length := by rw [← w.len, es]; omega
        subst this
        exact ⟨x, by simp, hx⟩
      | succ j => rw [hj] at h; simp at h
  hid := fun b hb => by
    have q := w.hid b (eh b hb)
    have nb : b ≠ p := fun z => np (z ▸ hb)
    refine ⟨by rw [e b nb]; exact q.1, ?_⟩
    rintro ⟨k, e', h, z⟩
    by_cases hk : k < φ.st.length
    · have h : (φ.st ++ [some (p, p)])[k]? = some (some e') := h
      rw [List.getElem?_append_left hk] at h
      exact q.2 ⟨k, e', by rw [es]; exact h, z⟩
    · have h : (φ.st ++ [some (p, p)])[k]? = some (some e') := h
      rw [List.getElem?_append_right (Nat.le_of_not_lt hk)] at h
      cases hj : k - φ.st.length with
      | zero => rw [hj] at h; cases h; exact nb (z.elim id id)
      | succ j => rw [hj] at h; simp at h
  inj := fun i j a b hi hj hij => by
    have cs : ∀ {k : Nat} {e' : Addr × Addr}, (φ.push p).st[k]? = some (some e') → φ.st[k]? = some (some e') ∨ (k = φ.st.length ∧ e' = (p, p)) := fun {k e'} h => by
      have h : (φ.st ++ [some (p, p)])[k]? = some (some e') := h
      by_cases hk : k < φ.st.length
      · rw [List.getElem?_append_left hk] at h
        exact .inl h
      · rw [List.getElem?_append_right (Nat.le_of_not_lt hk)] at h
        cases hj : k - φ.st.length with
        | zero => rw [hj] at h; cases h; exact .inr ⟨by omega, rfl⟩
        | succ j => rw [hj] at h; simp at h
    rcases cs hi with h1 | ⟨h1, rfl⟩ <;> rcases cs hj with h2 | ⟨h2, rfl⟩
    · exact w.inj i j a b (by rw [es]; exact h1) (by rw [es]; exact h2) hij
    · have := nt i a h1
      exact ⟨this.1, this.1, this.2, this.2⟩
    · have := nt j b h2
      exact ⟨Ne.symm this.1, Ne.symm this.2, Ne.symm this.1, Ne.symm this.2⟩
    · exact absurd (h1.trans h2.symm) hij
  tabs := w.tabs.keep (fun b o nb q => by
    by_cases z : b = p
    · subst z
      rcases eo b (own_push.mpr (.inr rfl)) with y | ⟨_, y⟩
      · exact absurd y nb
      · rw [q] at y; cases y
    · rw [e b z]; exact q) K.fr
theorem keep_push {p : Addr} {o : HO} (n : H p = none) : Later φ H φ H → Keep φ H (φ.push p) (upd H p o) := fun _ =>
  ⟨fun _ _ h => push_pre h, fun b u _ hb _ => by rw [upd_ne (ne_of_none hb n)]; exact hb, fun b ps _ hb => ⟨#[], by rw [upd_ne (ne_of_none hb n), hb]; simp⟩, fun b h nb => by
    rcases own_push.mp h with h | h
    · exact absurd h nb
    · rw [h]; exact n⟩
theorem later_push {p : Addr} {o : HO} (w : WOk c φ μ H) (n : H p = none) : Later φ H (φ.push p) (upd H p o) :=
  ⟨keep_push n .refl, by show _ ≤ (φ.st ++ [some (p, p)]).length; simp, rfl, fun b hb => upd_ne fun z => (w.hid b hb).1 (by rw [z]; exact n)⟩
theorem wok_push {p : Addr} {x : Cell} {o : HO} (w : WOk c φ μ H) (n : H p = none) (hx : CellOk c (φ.push p) (upd H p o) (p, p) x) : WOk c (φ.push p) (μ ++ [x]) (upd H p o) :=
  w.push rfl (fun _ h => h) (fun z => (w.hid p z).1 n) (fun k e h => by
    obtain ⟨x, _, q⟩ := w.cell k e h
    exact ⟨fun z => q.there.1 (by rw [z]; exact n), fun z => q.there.2 (by rw [z]; exact n)⟩) (fun b h => (own_push.mp h).imp id fun z => ⟨z, n⟩) (fun b h => upd_ne h) (keep_push n .refl) hx
theorem wp_newL {ds : List D} {vs : List V} {Q : VK} {E : XW} (h : wpM c (Rep c) (newL ds) φ μ H Q E) (w : WOk c φ μ H) (r : RepL c φ H ds vs) {p : Addr} (n : H p = none) : Q (.ref p) (upd H p (.lst vs)) := by
  refine h (φ.push p) _ (.ref p) (later_push w n) (wok_push w n ⟨rfl, vs, upd_same, r.later (keep_push n .refl)⟩) ?_
  simp only [Rep]
  exact ⟨(p, p), by rw [← w.len]; exact push_at, rfl⟩
theorem fin_new : FinL c newL := fun φ φ' μ' H H' A acc ws Q E L nA nh w' hA r' h' => by
  have K : Keep (φ'.add A) H' (φ'.push A) H' := ⟨fun _ _ h => push_pre h, fun _ _ _ h _ => h, fun b ps _ h => ⟨#[], by rw [h]; simp⟩, fun b h nb => absurd (own_add.mpr (own_push.mp h)) nb⟩
  have nS : ¬ ownS φ' A := (w'.hid A List.mem_cons_self).2
  have n2 : A ∉ φ'.hid := by rw [L.hid]; exact nh
  have W : WOk c (φ'.push A) (μ' ++ [.lst acc]) H' := by
    refine WOk.push (φ := φ') (φ0 := φ'.add A) w' rfl (fun b hb => List.mem_cons_of_mem _ hb) n2 (fun k e h => ⟨fun z => nS ⟨k, e, h, .inl z.symm⟩, fun z => nS ⟨k, e, h, .inr z.symm⟩⟩) (fun b h => .inl (own_add.mpr (own_push.mp h))) (fun _ _ => rfl) K ⟨rfl, ws, hA, r'.later K⟩
  have L2 : Later φ H (φ'.push A) H' := by
    refine ⟨⟨fun k e h => push_pre (L.pre k e h), L.kp, L.tb, fun b h nb => ?_⟩, ?_, L.hid, L.hk⟩
    · rcases own_push.mp h with h | h
      · exact L.fr b h nb
      · rw [h]; exact nA
    · exact Nat.le_trans L.len (by show _ ≤ (φ'.st ++ [some (A, A)]).length; simp)
  refine h' (φ'.push A) H' (.ref A) L2 W ?_
  simp only [Rep]
  exact ⟨(A, A), by rw [← w'.len]; exact push_at, rfl⟩
def mkNew (r : List D) : M D := ask (small r.length) >>= fun _ => newL r
/-- a list's display: a list of the store's -/
theorem ve_lstM (h : VL X c W es fl) : VE X c W (.List es pos) (fun ρ => fl ρ >>= mkNew) :=
  ⟨PE.weak (pe_lst h.pa) fun σ H Q h => by
    obtain ⟨φ, μ, ρ, w, he, h⟩ := h
    refine ⟨φ, μ, ρ, w, he, wp_mono (wp_bind h) fun xs H1 y => ?_⟩
    obtain ⟨φ1, μ1, ds, L1, w1, r1, h1⟩ := y
    obtain ⟨hs, h1⟩ := wp_ask h1
    have hs := of_decide_eq_true hs
    exact ⟨r1.len ▸ hs, fun p np => wp_newL h1 w1 r1 np⟩⟩
def listM : List D → M D
  | [d] => seqOf d >>= newL
  | _ => stuck
/-! ### lists that change: written -/
theorem put_later {k : Nat} {e : Addr × Addr} {o : HO} (w : WOk c φ μ H) (hk : φ.st[k]? = some (some e)) : Later φ H φ (upd H e.1 o) := by
  have oe : own φ e.1 := .inl ⟨k, e, hk, .inl rfl⟩
  have ne : ∀ b, ¬ own φ b → b ≠ e.1 := fun b nb z => nb (z ▸ oe)
  exact ⟨⟨fun _ _ h => h, fun b u nb hb _ => by rw [upd_ne (ne b nb)]; exact hb, fun b ps nb hb => ⟨#[], by rw [upd_ne (ne b nb), hb]; simp⟩, fun b h nb => absurd h nb⟩, Nat.le_refl _, rfl, fun b hb => upd_ne fun z => (w.hid b hb).2 (by rw [z]; exact ⟨k, e, hk, .inl rfl⟩)⟩
theorem put_ok {k : Nat} {e : Addr × Addr} {old y : Cell} {o : HO} (w : WOk c φ μ H) (hk : φ.st[k]? = some (some e)) (hμ : μ[k]? = some old) (hy : CellOk c φ (upd H e.1 o) e y) : WOk c φ (μ.set k y) (upd H e.1 o) := by
  have oe : own φ e.1 := .inl ⟨k, e, hk, .inl rfl⟩
  have ne : ∀ b, ¬ own φ b → b ≠ e.1 := fun b nb z => nb (z ▸ oe)
  have L : Later φ H φ (upd H e.1 o) := put_later w hk
  refine ⟨by rw [List.length_set]; exact w.len, fun i e' h => ?_, fun b hb => ?_, w.inj, w.tabs.keep (fun b o nb q => by rw [upd_ne (ne b nb)]; exact q) L.fr⟩
  · by_cases z : k = i
    · subst z
      rw [hk] at h
      cases h
      exact ⟨_, List.getElem?_set_self (List.getElem?_eq_some_iff.mp hμ).1, hy⟩
    · obtain ⟨x, h1, h2⟩ := w.cell i e' h
      have n := w.inj k i e e' hk h z
      exact ⟨x, by rw [List.getElem?_set_ne z]; exact h1, h2.later L.toKeep (upd_ne (Ne.symm n.1)) (upd_ne (Ne.symm n.2.1))⟩
  · have q := w.hid b hb
    refine ⟨?_, q.2⟩
    rw [upd_ne fun z => q.2 (by rw [z]; exact ⟨k, e, hk, .inl rfl⟩)]
    exact q.1
/-- f of the list that lies at d: the list it leaves, the answer -/
def modL {α : Type} (d : D) (f : List D → Option (List D × α)) : M α := match d with
  | .ptr k => fun μ => match μ[k]? with
    | some (.lst xs) => match f xs with
      | some (ys, a) => .ok a (μ.set k (.lst ys))
      | none => .stuck
    | _ => .stuck
  | _ => stuck
theorem wp_modL {α β γ : Type} {R : Phi → Hp → γ → β → Prop} {d : D} {v : V} {f : List D → Option (List D × α)} {k : α → M γ} {Q : β → Hp → Prop} {E : XW} (h : wpM c R (modL d f >>= k) φ μ H Q E) (w : WOk c φ μ H) (r : Rep c φ H d v) :
    ∃ l xs vs ys a, v = .ref l ∧ H l = some (.lst vs) ∧ RepL c φ H xs vs ∧ f xs = some (ys, a) ∧ ∀ ws, RepL c φ H ys ws → ∃ μ', Later φ H φ (upd H l (.lst ws)) ∧ WOk c φ μ' (upd H l (.lst ws)) ∧ wpM c R (k a) φ μ' (upd H l (.lst ws)) Q E := by
  cases d with
  | ptr i =>
    simp only [Rep] at r
    obtain ⟨e, hi, rfl⟩ := r
    obtain ⟨x, hx, hc⟩ := w.cell i e hi
    have e1 : (modL (.ptr i) f >>= k) μ = M.bind (modL (.ptr i) f) k μ := rfl
    unfold wpM at h
    rw [e1] at h
    unfold M.bind modL at h
    simp only [hx] at h
    cases x with
    | dct C fs => exact h.elim
    | lst xs =>
      simp only at h
      cases hf : f xs with
      | none => rw [hf] at h; exact h.elim
      | some p =>
        obtain ⟨ys, a⟩ := p
        rw [hf] at h
        simp only at h
        obtain ⟨hc1, vs, hv, rl⟩ := hc
        refine ⟨e.1, xs, vs, ys, a, rfl, hv, rl, hf, fun ws r => ?_⟩
        have L : Later φ H φ (upd H e.1 (.lst ws)) := put_later w hi
        have w' := put_ok (o := .lst ws) (y := .lst ys) w hi hx ⟨hc1, ws, upd_same, r.later L.toKeep⟩
        refine ⟨_, L, w', ?_⟩
        unfold wpM
        cases hk : k a (μ.set i (.lst ys)) with
        | ok b μ2 => rw [hk] at h; exact fun φ2 H2 b2 L2 w2 r2 => h φ2 H2 b2 (L.trans L2) w2 r2
        | exn b μ2 => rw [hk] at h; exact fun φ2 H2 k2 d2 L2 w2 r2 => h φ2 H2 k2 d2 (L.trans L2) w2 r2
        | stuck => rw [hk] at h; exact h
  | _ => exact wp_stuck (α := γ) (R := R) h
/-! ### methods of built-in types -/
def tyM (T : String) (d : D) : M Unit := match d with
  | .str _ => ask (T == "str")
  | d => readL d >>= fun _ => ask (T == "list")
theorem wp_tyM {β : Type} {α : Type} {R : Phi → Hp → α → β → Prop} {T : String} {d : D} {v : V} {k : Unit → M α} {Q : β → Hp → Prop} {E : XW} (hK : X.K = c.K) (h : wpM c R (tyM T d >>= k) φ μ H Q E) (w : WOk c φ μ H) (r : Rep c φ H d v) :
    tyV X.K T v H ∧ wpM c R (k ()) φ μ H Q E := by
  have lists : wpM c R ((readL d >>= fun _ => ask (T == "list")) >>= k) φ μ H Q E → tyV X.K T v H ∧ wpM c R (k ()) φ μ H Q E := fun h => by
    rw [M.assoc] at h
    obtain ⟨xs, a, vs, rfl, hs, rl, h⟩ := wp_readL h w r
    obtain ⟨ht, h⟩ := wp_ask h
    exact ⟨.inl ⟨eq_of_beq ht, vs, .inl hs⟩, h⟩
  cases d with
  | str z =>
    obtain ⟨ht, h⟩ := wp_ask h
    rw [rep_str r]
    exact ⟨eq_of_beq ht, h⟩
  | _ => exact lists h
def MtV (X : Cx) (c : Cn) (id : String) (g : D → List D → M D) : Prop :=
  ∃ r, MtR X id r ∧ ∀ φ μ H x xs vx vs Q E, WOk c φ μ H → Rep c φ H x vx → RepL c φ H xs vs → wpM c (Rep c) (g x xs) φ μ H Q E → r vx vs H Q
theorem ve_bm {a : Expr} {T id : String} {m : Str} {apos : Pos} {k : D → List D → M D} (hK : X.K = c.K) (pa : PlainAttrs T) (slot : Slot T m id) (hty : typeOf (.builtin id) = pure (.type "method_descriptor")) (hm : MtV X c id k) (h : VE X c W e f) (ha : VL X c W (a :: es) fl)
    (hp : ∀ r to ta, MtR X id r → PE X e to → PA X (a :: es) ta → PE X (.Call (.Attribute e m apos) (a :: es) [] pos) (tBM X.K T r to ta)) : VE X c W (.Call (.Attribute e m apos) (a :: es) [] pos) (fun ρ => f ρ >>= fun x => tyM T x >>= fun _ => fl ρ >>= fun xs => k x xs) := by
  obtain ⟨r, h1, h2⟩ := hm
  refine ⟨PE.weak (hp r _ _ h1 h.pe ha.pa) fun σ H Q h => ?_⟩
  obtain ⟨φ, μ, ρ, w, he, h⟩ := h
  refine ⟨φ, μ, ρ, w, he, wp_mono (wp_bind h) fun x H1 z => ?_⟩
  obtain ⟨φ1, μ1, d1, L1, w1, r1, h1⟩ := z
  obtain ⟨ty, h1⟩ := wp_tyM hK h1 w1 r1
  refine ⟨ty, φ1, μ1, ρ, w1, he.later L1, wp_mono (wp_bind h1) fun xs H3 z => ?_⟩
  obtain ⟨φ3, μ3, ds, L3, w3, r3, h3⟩ := z
  exact h2 _ _ _ _ _ _ _ _ _ w3 (r1.later L3.toKeep) r3 h3
theorem ve_bm0 {T id : String} {m : Str} {apos : Pos} {k : D → List D → M D} (hK : X.K = c.K) (pa : PlainAttrs T) (slot : Slot T m id) (hty : typeOf (.builtin id) = pure (.type "method_descriptor")) (hm : MtV X c id k) (h : VE X c W e f)
    (hp : ∀ r to, MtR X id r → PE X e to → PE X (.Call (.Attribute e m apos) [] [] pos) (tBM0 X.K T r to)) : VE X c W (.Call (.Attribute e m apos) [] [] pos) (fun ρ => f ρ >>= fun x => tyM T x >>= fun _ => k x []) := by
  obtain ⟨r, h1, h2⟩ := hm
  refine ⟨PE.weak (hp r _ h1 h.pe) fun σ H Q h => ?_⟩
  obtain ⟨φ, μ, ρ, w, he, h⟩ := h
  refine ⟨φ, μ, ρ, w, he, wp_mono (wp_bind h) fun x H1 z => ?_⟩
  obtain ⟨φ1, μ1, d1, L1, w1, r1, h1⟩ := z
  obtain ⟨ty, h1⟩ := wp_tyM hK h1 w1 r1
  exact ⟨ty, h2 _ _ _ _ _ _ _ _ _ w1 r1 (by simp only [RepL]) h1⟩
/-! #### of lists -/
def appM (x : D) (xs : List D) : M D := match xs with
  | [y] => modL x (fun l => if l.length < sizeLine then some (l ++ [y], ()) else none) >>= fun _ => pure .non
  | _ => stuck
theorem mv_append : MtV X c "list.append" appM := ⟨_, mt_append, fun φ μ H x xs vx vs Q E w r1 r2 h => by
  unfold appM at h
  split at h
  · obtain ⟨u, rfl, ru⟩ := repL1 r2
    obtain ⟨l, l0, ws, ys, a, rfl, hl, rl, hf, h⟩ := wp_modL h w r1
    split at hf
    · rename_i hz
      cases hf
      obtain ⟨μ', L, w', h⟩ := h (ws ++ [u]) (rl.app (RepL.one ru))
      exact ⟨l, ws, u, rfl, rfl, hl, by rw [← rl.len]; exact hz, wp_pure h w' of_non⟩
    · cases hf
  · exact wp_stuck h⟩
theorem RepL.dropLast {ds : List D} {vs : List V} (r : RepL c φ H ds vs) : RepL c φ H ds.dropLast vs.dropLast := by
  rw [List.dropLast_eq_take, List.dropLast_eq_take, r.len]
  exact r.take _
theorem RepL.eraseIdx {ds : List D} {vs : List V} (k : Nat) (r : RepL c φ H ds vs) : RepL c φ H (ds.eraseIdx k) (vs.eraseIdx k) := by
  rw [List.eraseIdx_eq_take_drop_succ, List.eraseIdx_eq_take_drop_succ]
  exact (r.take k).app (r.drop (k + 1))
def popA (i : Int) (l : List D) : Option (List D × D) := if -(2 ^ 63) ≤ i ∧ i < 2 ^ 63 then
    match seqIndex? i l.length with
    | some k => (match l[k]? with
      | some y => some (l.eraseIdx k, y)
      | none => none)
    | none => none
  else none
def popL (l : List D) : Option (List D × D) := match l[l.length - 1]? with
  | some y => some (l.dropLast, y)
  | none => none
def popM (x : D) (xs : List D) : M D := match xs with
  | [] => modL x popL
  | [.int i] => modL x (popA i)
  | _ => stuck
theorem M.pure_bind {α : Type} (m : M α) : (m >>= fun a => (pure a : M α)) = m := by
  funext μ
  show M.bind m (fun a => M.pure a) μ = m μ
  unfold M.bind M.pure
  cases m μ <;> rfl
theorem MtR.or {id : String} {r r' : V → List V → Hp → VK → Prop} (h : MtR X id r) (h' : MtR X id r') : MtR X id (fun x xs H Q => r x xs H Q ∨ r' x xs H Q) := fun pins s σ H x xs v us Q I rx rxs q => q.elim (h pins s σ H x xs v us Q I rx rxs) (h' pins s σ H x xs v us Q I rx rxs)
theorem mv_pop : MtV X c "list.pop" popM := ⟨_, MtR.or mt_pop mt_popAt, fun φ μ H x xs vx vs Q E w r1 r2 h => by
  unfold popM at h
  split at h
  · rw [← M.pure_bind (modL _ _)] at h
    obtain ⟨l, l0, ws, ys, a, rfl, hl, rl, hf, h⟩ := wp_modL h w r1
    simp only [RepL] at r2
    subst r2
    unfold popL at hf
    split at hf
    · rename_i y hy
      cases hf
      obtain ⟨μ', L, w', h⟩ := h ws.dropLast rl.dropLast
      obtain ⟨u, hu, ru⟩ := rl.get hy
      exact .inl ⟨l, ws, u, rfl, rfl, hl, by rw [← rl.len]; exact hu, wp_pure h w' (ru.later L.toKeep)⟩
    · cases hf
  · rename_i i
    rw [← M.pure_bind (modL _ _)] at h
    obtain ⟨l, l0, ws, ys, a, rfl, hl, rl, hf, h⟩ := wp_modL h w r1
    obtain ⟨u, rfl, ru⟩ := repL1 r2
    unfold popA at hf
    split at hf
    · rename_i hb
      split at hf
      · rename_i k hk
        split at hf
        · rename_i y hy
          cases hf
          obtain ⟨μ', L, w', h⟩ := h (ws.eraseIdx k) (rl.eraseIdx k)
          obtain ⟨u2, hu, ru2⟩ := rl.get hy
          exact .inr ⟨l, ws, i, k, u2, rfl, by rw [rep_int ru], hl, hb.1, hb.2, by rw [← rl.len]; exact hk, hu, wp_pure h w' (ru2.later L.toKeep)⟩
        · cases hf
      · cases hf
    · cases hf
  · exact wp_stuck h⟩
/-! ### x[i] = v -/
def gIx (f g : Env → M D) (d : D) (ρ : Env) : M Env := noX (f ρ) >>= fun x => noX (g ρ) >>= fun y => match y with
  | .int i => modL x (fun l => match ixN l.length i with | some j => some (l.set j d, ()) | none => none) >>= fun _ => pure ρ
  | _ => stuck
end
end VL

namespace VL
open PySem PySem.Spec PyProof.Rows L2 LamX
section
variable {X : Cx} {c : Cn} {I : IniC} {W : WX} {φ φ' : Phi} {H H' : Hp} {μ μ' : Mem} {e : Expr} {es : List Expr} {f g : Env → M D} {fl : Env → M (List D)} {pos : Pos}
theorem lo_none {i : Nat} (h : c.ini = none) : c.lo i := fun I e => by rw [h] at e; cases e
theorem lo_at {i : Nat} (h : i < I.n) : (c.at I).lo i := fun J e => by cases e; exact h
theorem vv (i : Nat) {x : Str} (hq : c.lo i) (hN : X.N[i]? = some x := by rfl) (hv : Vis X.env.scope x := by first | exact Or.inl rfl | exact Or.inr (Or.inl rfl) | exact Or.inr (Or.inr rfl)) (hd : (x == ("__debug__" : Str)) = false := by decide) (hcd : (x == ("__classdict__" : Str)) = false := by decide) : VE X c W (.Name x pos) (rd i) := ve_var hq hN hv hd hcd
theorem wpM_at {α β : Type} {R R' : Phi → Hp → α → β → Prop} (hR : ∀ φ H a b, R' φ H a b ↔ R φ H a b) {m : M α} {Q : β → Hp → Prop} {E : XW} (h : wpM (c.at I) R' m φ μ H Q E) : wpM c R m φ μ H Q E := by
  unfold wpM at h ⊢
  split at h
  · exact fun φ' H' b L w r => h φ' H' b L (WOk.at_.mpr w) ((hR _ _ _ _).mpr r)
  · exact fun φ' H' k d L w r => h φ' H' k d L (WOk.at_.mpr w) (RepX.at_.mpr r)
  · exact h
/-- a def's promise within an __init__ -/
theorem FnOk.at_ {P : Program} {w : World} {K : PySem.W.Frag} {mg : Str → Option Value} {base : Heap} {CX : CXT} {k n : Nat} {f : Addr} {fd : FuncData} {ps : List Str} {m : List D → M D} (F : FnOk P w K mg base CX k f fd ps (spD c n m)) : FnOk P w K mg base CX k f fd ps (spD (c.at I) n m) :=
  F.imp fun vs H Q E ⟨hl, φ, μ, ds, w, r, h⟩ => ⟨hl, φ, μ, ds, WOk.at_.mp w, (RepL.at_ _ _).mp r, wpM_at (fun _ _ _ _ => Rep.at_ _ _) h⟩
/-- a statement that is never reached -/
theorem vs_never {st : Stmt} : VS X c W st (fun _ => stuck) := ⟨PS.weak ps_never fun D σ H h => by
  obtain ⟨φ, μ, ρ, w, he, h⟩ := h
  exact h.elim⟩
theorem wpT_M {m : M Env} {R : L2.St → Hp → Prop} {E : XW} (h : wpT c m φ μ H R) : wpM c (RepE c) m φ μ H R E := by
  unfold wpT at h
  unfold wpM
  split at h
  · rename_i hm
    rw [hm]
    exact h
  · exact h.elim
theorem vg_ix {o i : Expr} (hK : X.K = c.K) (ho : VE X c W0 o f) (hi : VE X c W0 i g) (hp : ∀ to ti, PE X o to → PE X i ti → PG X (.Subscript o i pos) (gSub to ti rSetL)) : VG X c (.Subscript o i pos) [] (gIx f g) := by
  refine ⟨PG.weak (hp _ _ ho.pe hi.pe) fun v σ H R z => ?_⟩
  obtain ⟨φ, μ, ρ, d, w, he, r, h⟩ := z
  have h := wpT_M (E := wEx W0 σ) h
  refine ⟨φ, μ, ρ, w, he, wp_mono (wp_noXb (R := Rep c) h) fun x H1 z => ?_⟩
  obtain ⟨φ1, μ1, d1, L1, w1, r1, h1⟩ := z
  refine ⟨φ1, μ1, ρ, w1, he.later L1, wp_mono (wp_noXb (R := Rep c) h1) fun y H2 z => ?_⟩
  obtain ⟨φ2, μ2, d2, N2, w2, r2, h2⟩ := z
  cases d2 with
  | int i =>
    obtain ⟨l, xs, vs, ys, a, ex, hl, rl, hf, h⟩ := wp_modL h2 w2 (r1.later N2.toKeep)
    cases hj : ixN xs.length i with
    | none => simp only [hj] at hf; cases hf
    | some j =>
      simp only [hj] at hf
      cases hf
      have rv := (r.later L1.toKeep).later N2.toKeep
      obtain ⟨μ', L, w', h⟩ := h (vs.set j v) (rl.set j rv)
      exact ⟨l, vs, i, j, ex, rep_int r2, hl, by rw [← rl.len]; exact hj, wp_pure (b := σ) h w' (((he.later L1).later N2).later L) .refl⟩
  | _ => exact wp_stuck (α := Env) (β := L2.St) h2
end
end VL

/-! ### enumerate(tuple) walked -/
namespace VL
open PySem PySem.Spec PyProof.Rows L2
section
open AutoSeq1 (wpAny_loadPart')
theorem meets_enumerate_newT (l : Addr) (items : Array Value) (n : Nat) (dct : Option Addr) (sl : Array (Option Value)) :
    Meets (Builtin.«enumerate.__new__» ⟨[.type "enumerate", .ref l], []⟩) (fun _ R s => s.heap.get? l = some { cls := .type "tuple", dict := dct, data := .seq items n, slots := sl } ∧
      R (.ok (.ret (.ref (s.heap.push { cls := .type "tuple_iterator", data := .fields #[.ref l, .int 0 0] }).objs.size)))
        { s with heap := (s.heap.push { cls := .type "tuple_iterator", data := .fields #[.ref l, .int 0 0] }).push { cls := .type "enumerate", data := .fields #[.none, .bool false, .ref s.heap.objs.size, rawInt 0, .none, .none] } }) :=
  .of_wp fun prog w A R s h => by
    obtain ⟨hp, g, d, tk, os⟩ := s; obtain ⟨hl, h⟩ := h
    have hsub := sub_enumerate
    have hL : Heap.IsTuple (Shared.heap ⟨hp, g, d, tk, os⟩) l items := ⟨_, hl, rfl, n, rfl⟩
    wp_walk using wpAny_loadPart' hl
    refine wpAny_stack_any fun st => wpAny_pure ?_
    split
    · rename_i c _ _ _ _ _
      cases (c == Value.type "enumerate")
      · wp_walk using wpAny_loadPart' hl, wpAny_pyIter_tuple hL
        exact ⟨_, rfl, h⟩
      · wp_walk using wpAny_loadPart' hl, wpAny_pyIter_tuple hL
        exact ⟨_, rfl, h⟩
    · wp_walk using wpAny_loadPart' hl, wpAny_pyIter_tuple hL
      exact ⟨_, rfl, h⟩
end
theorem call_enumerate_tuple {prog : Program} {w : World} {A : Around} {E : Value → Shared → Prop} {s : Shared} {l : Addr} {items : Array Value} {Q : Value → Shared → Prop} (hL : s.heap.IsTuple l items)
    (h : ∀ h', IsEnum h' (s.heap.objs.size + 1) s.heap.objs.size 0 .none → h'.IsTupleIter s.heap.objs.size l 0 → h'.objs.size = s.heap.objs.size + 2 →
      (∀ b o, s.heap.get? b = some o → h'.get? b = some o) → Q (.ref (s.heap.objs.size + 1)) { s with heap := h' }) :
    wpAny (model prog w) A (call (.type "enumerate") [.ref l]) Q E s := by
  obtain ⟨⟨c, dct, dt, sl⟩, hl, hc, n, hd⟩ := hL
  replace hc : c = .type "tuple" := hc
  replace hd : dt = .seq items n := hd
  subst hc hd
  refine callType_new F.called_enumerate (by decide) (F.typeCall_enumerate_1 _) (F.newCall_enumerate_1 _) (fun obj => F.args_object_init_2 obj _) F.entry_enumerate_new
    (meets_enumerate_newT l items n dct sl) ⟨hl, ?_⟩
  have hz : (s.heap.push { cls := .type "tuple_iterator", data := .fields #[.ref l, .int 0 0] }).objs.size = s.heap.objs.size + 1 := Heap.size_push ..
  show _ ∧ _
  rw [hz]
  have he : IsEnum ((s.heap.push { cls := .type "tuple_iterator", data := .fields #[.ref l, .int 0 0] }).push
      { cls := .type "enumerate", data := .fields #[.none, .bool false, .ref s.heap.objs.size, rawInt 0, .none, .none] }) (s.heap.objs.size + 1) s.heap.objs.size 0 .none := by
    have := Heap.get?_push_size (s.heap.push { cls := .type "tuple_iterator", data := .fields #[.ref l, .int 0 0] })
      (o := { cls := .type "enumerate", data := .fields #[.none, .bool false, .ref s.heap.objs.size, rawInt 0, .none, .none] }) rfl
    rw [hz] at this; exact this
  refine ⟨⟨_, he, rfl⟩, h _ he ⟨_, Heap.get?_push_of_some _ (Heap.get?_push_size _ rfl), rfl, rfl⟩ (by rw [Heap.size_push, hz]) fun b o x => Heap.get?_push_of_some _ (Heap.get?_push_of_some _ x)⟩
/-- the tuple at a, each item in a new pair -/
def ItEt (K : PySem.W.Frag) (a : Addr) : It :=
  ⟨fun i H => ∃ (xs : List V) (x : V), SqT K H a xs ∧ xs[i]? = some x, fun i H v H' => ∃ T x, v = .ref T ∧ H T = none ∧ H' = upd H T (.tup [.int (i : Nat), x]) ∧ ∀ xs, SqT K H a xs → xs[i]? = some x, fun i H => ∃ xs : List V, SqT K H a xs ∧ xs.length ≤ i⟩
theorem turn_enumT {P : Program} {w : World} {K : PySem.W.Frag} {elts : List Expr} {kk : Nat} {tpos : Pos} (a e it : Addr) :
    Turn P w K (.Tuple elts kk tpos) (ItEt K a) [e, it] e (fun i h => (∃ old, IsEnum h e it ((i : Nat) : Int) old) ∧ h.IsTupleIter it a i ∧ e ≠ it) where
  mem := by simp
  obj := fun i h st b hb => by
    obtain ⟨⟨old, he⟩, ⟨o, ho, hc, hd⟩, _⟩ := st
    have e' : b = e ∨ b = it := by simpa using hb
    rcases e' with z | z
    · rw [z]; exact ⟨_, he, fun v q => nomatch q⟩
    · rw [z]; exact ⟨o, ho, fun v q => by rw [hd] at q; cases q⟩
  keep := fun i h h' st k => let ⟨⟨old, he⟩, hi, hne⟩ := st; ⟨⟨old, k e (by simp) _ he⟩, hi.at fun o q => k it (by simp) o q, hne⟩
  item := by
    intro X hP hw hK hc i pins s σ H E I hf st hg
    subst hP hw hK
    obtain ⟨⟨old, he⟩, hit, hne⟩ := st
    obtain ⟨xs, x, hq, hx⟩ := hg
    obtain ⟨its, rv, p, hz⟩ := I.tuple hq
    obtain ⟨u, hu, ru⟩ := rv.get hx
    have p' : s.heap.IsTuple a its.toArray := p
    have hel : e < s.heap.objs.size := Heap.lt_size he
    have hil : it < s.heap.objs.size := by obtain ⟨_, q, _⟩ := hit; exact Heap.lt_size q
    have hal : a < s.heap.objs.size := by obtain ⟨_, q, _⟩ := p'; exact Heap.lt_size q
    have hait : a ≠ it := fun z => by
      obtain ⟨o, h1, h2, _⟩ := hit
      obtain ⟨o', h1', h2', _⟩ := p'
      rw [z, h1] at h1'
      cases h1'
      rw [h2] at h2'
      exact absurd h2' (by decide)
    have hae : e ≠ a := fun z => by
      obtain ⟨o', h1', h2', _⟩ := p'
      have he' := he
      unfold IsEnum at he'
      rw [z, h1'] at he'
      cases he'
      exact absurd (show Value.type "enumerate" = Value.type "tuple" from h2') (by decide)
    have D : Draws X.prog X.w X.A.in1 it [it, a] its.toArray.size (fun i v => its.toArray[i]? = some v) (fun i h => h.IsTupleIter it a i ∧ h.IsTuple a its.toArray) := .tuple (A := X.A.in1) (I.ok.hd hc) it a hait its.toArray
    have hlt : i < its.toArray.size := by
      have := (List.getElem?_eq_some_iff.mp hu).1
      simpa using this
    refine wpAny_pyNext_enum_itemD D he ⟨hit, p'⟩ hlt hne (by simp only [List.mem_cons, List.not_mem_nil, or_false, not_or]; exact ⟨hne, hae⟩) fun u' h' tk hu' ho hst hT hsz hk => ?_
    have eu : u' = u := by
      have h1 : its.toArray[i]? = some u := by simpa using hu
      have h2 : its.toArray[i]? = some u' := hu'
      rw [h1] at h2
      cases h2
      rfl
    subst eu
    refine ⟨_, rfl, wpAny_letOwnedTupleGo_enum (s := { s with heap := h', toks := tk + 1 }) ho fun h'' he' sb => ?_⟩
    have hT2 : h''.get? s.heap.objs.size = some { cls := .type "tuple", data := .seq #[.int i tk, u'] } := (sb.2 _ (Nat.ne_of_gt hel)).trans hT
    have new : ObjOk X.prog X.w (upd H s.heap.objs.size (.tup [.int (i : Nat), x])) h'' s.heap.objs.size (.tup [.int (i : Nat), x]) :=
      ⟨by show 2 ≤ sizeLine; decide, [.int i tk, u'], .cons ⟨_, rfl⟩ (.cons ru .nil), ⟨_, hT2, rfl, _, rfl⟩⟩
    have I1 : Inv X pins σ (upd H s.heap.objs.size (.tup [.int (i : Nat), x])) { s with heap := h'', toks := tk + 1 } :=
      I.turnedNew (ch := [e, it]) (fun b ob hb q => (sb.2 b (fun z => hb (by simp [z]))).trans (hk b ob (fun z => hb (by simp [z])) (fun z => hb (by simp [z])) q)) hf (Nat.le_refl _) new
    refine ⟨.ref s.heap.objs.size, _, I1, rfl, ⟨_, x, rfl, I.hok.fresh (Nat.le_refl _), rfl, fun ys hy => by rw [I.tuple_inj hy hq]; exact hx⟩, ⟨⟨u', ?_⟩, hst.1.at fun o q => (sb.2 it (Ne.symm hne)).trans q, hne⟩, fun b hb => ?_⟩
    · have e1 : ((i + 1 : Nat) : Int) = (i : Int) + 1 := by omega
      rw [e1]; exact he'
    · have hb' : b < s.heap.objs.size := by
        have e' : b = e ∨ b = it := by simpa using hb
        rcases e' with z | z
        · rw [z]; exact hel
        · rw [z]; exact hil
      rw [upd_ne (Nat.ne_of_lt hb')]
      exact (hf b hb).1
  done := by
    intro X hP hw hK hc i pins s σ H E I hf st hg
    subst hP hw hK
    obtain ⟨⟨old, he⟩, hit, hne⟩ := st
    obtain ⟨xs, hq, hx⟩ := hg
    obtain ⟨its, rv, p, hz⟩ := I.tuple hq
    have p' : s.heap.IsTuple a its.toArray := p
    obtain ⟨f0, f1, f2, f3, f4, f5⟩ := hf it (by simp)
    have hl := rv.length
    have hT : s.TypeIs (.ref e) "enumerate" := ⟨_, he, rfl⟩
    unfold pyNext
    refine wpAny_bind (wpAny_attempt (wpAny_callSpecial?_slot (name := Str.ofString "__next__") hT F.slot_enumerate_next
      (wpAny_call_entry F.slot_enumerate_next hT F.entry_enumerate_next ?_ (F.args_enumerate_next_1 _))))
    show wpAny _ _ (field (.ref e) 2 >>= _) _ _ _
    refine wpAny_bind (wpAny_field he rfl (x := .ref it) rfl ?_)
    refine wpAny_bind (wpAny_nextOf_tuple_end (I.ok.hd hc) hit p' (by simp; omega) fun h' x he' hx' => ?_)
    obtain ⟨o, ho, hc'⟩ := hx'
    refine wpAny_bind (wpAny_isInstance (T := "StopIteration") (b := true) ⟨o, ho, hc'⟩ isSubtype_stop ?_)
    exact wpAny_pure ⟨rfl, I.turned (t' := s.toks) (fun b o hb q => he' b o hb q) f0 f1 f3 f4 f5⟩
  self := fun A i s Q E st h => let ⟨⟨_, he⟩, _⟩ := st; wpAny_pyIter_enum he h
def iEnumT (K : PySem.W.Frag) (ta : TA) : TI := fun σ H R => ta σ H fun vs H1 => ∃ a xs, vs = [.ref a] ∧ SqT K H1 a xs ∧ R (ItEt K a) H1
theorem pi_enumT {X : Cx} {e : Expr} {ta : TA} {p pos tpos : Pos} {elts : List Expr} {kk : Nat} (hg : Gl X "enumerate") (hm : X.mg "enumerate" = none) (ha : PA X [e] ta) (hs : starEach [e] X.env = [(false, eval e X.env)] := by rfl) :
    PI X (.Tuple elts kk tpos) (.Call (.Name "enumerate" p) [e] [] pos) (iEnumT X.K ta) := by
  refine ⟨fun pins s σ H R I h => ?_⟩
  refine Call_ (ld_blt I hg hm boot_enumerate (PyProof.Rows.callWith_type1 (thn (ha.run pos pins s σ H _ I h) fun us s1 ⟨vs, H1, I1, r1, q1⟩ => ?_) hs rfl))
  obtain ⟨a, xs, ex, hq, q⟩ := q1
  subst ex
  cases r1 with
  | cons r rr =>
    cases rr
    cases r
    obtain ⟨its, rv, p', hz⟩ := I1.tuple hq
    refine call_enumerate_tuple (show s1.heap.IsTuple a its.toArray from p') fun h' he hit hsz hk => wpAny_pyIter_enum he ?_
    have I2 : Inv X pins σ H1 { s1 with heap := h' } := I1.kept (t' := s1.toks) hk
    refine ⟨s1.heap.objs.size + 1, [s1.heap.objs.size + 1, s1.heap.objs.size], _, _, H1, rfl, I2, turn_enumT a (s1.heap.objs.size + 1) s1.heap.objs.size, ⟨⟨.none, he⟩, hit, Nat.succ_ne_self _⟩, fun b hb => ?_, q⟩
    have e' : b = s1.heap.objs.size + 1 ∨ b = s1.heap.objs.size := by simpa using hb
    have hle : s1.heap.objs.size ≤ b := by
      rcases e' with z | z
      · rw [z]; exact Nat.le_add_right _ _
      · rw [z]; exact Nat.le_refl _
    exact I1.fpOk hle (I1.hok.fresh hle)
theorem walk_enumT {K : PySem.W.Frag} {a : Addr} {xs : List V} : Walk (ItEt K a) xs.length (fun H => SqT K H a xs) (YPair (fun i => some (.int (i : Nat))) (fun i => xs[i]?)) := by
  refine ⟨fun i _ hi q => ⟨xs, xs[i], q, by simp [hi]⟩, fun _ q => ⟨xs, q, Nat.le_refl _⟩, fun i H v H' _ q y => ?_⟩
  obtain ⟨T, x, h1, h2, h3, h4⟩ := y
  exact ⟨T, .int (i : Nat), x, h1, h2, h3, rfl, h4 xs q⟩
end VL

namespace VL
open PySem PySem.Spec PyProof.Rows L2 LamX RZ
section
variable {X : Cx} {c : Cn} {W : WX} {φ φ' : Phi} {H H' : Hp} {μ μ' : Mem} {e : Expr} {es : List Expr} {f g : Env → M D} {fl : Env → M (List D)} {pos : Pos}
/-! ### enumerate, zip -/
structure Pl where
  items : List D
  chk : Mem → Prop
  tup : Bool
  [dec : DecidablePred chk]
instance (p : Pl) : DecidablePred p.chk := p.dec
def placeM : D → M Pl
  | .lst xs => pure ⟨xs, fun _ => True, false⟩
  | .tup xs => pure ⟨xs, fun _ => True, true⟩
  | .ptr k => fun μ => match μ[k]? with
    | some (.lst xs) => .ok ⟨xs, fun μ' => μ'[k]? = some (.lst xs), false⟩ μ
    | _ => .stuck
  | _ => stuck
def SqB (K : PySem.W.Frag) (b : Bool) (H : Hp) (a : Addr) (vs : List V) : Prop := if b then SqT K H a vs else SqL K H a vs
def PlOk (c : Cn) (φ : Phi) (H : Hp) (p : Pl) (a : Addr) : Prop := ∀ φ2 μ2 H2, Keep φ H φ2 H2 → WOk c φ2 μ2 H2 → p.chk μ2 → ∃ vs, SqB c.K p.tup H2 a vs ∧ RepL c φ2 H2 p.items vs
theorem PlOk.later {p : Pl} {a : Addr} (h : PlOk c φ H p a) (L : Keep φ H φ' H') : PlOk c φ' H' p a := fun φ2 μ2 H2 K => h φ2 μ2 H2 (L.trans K)
theorem wp_place {α β : Type} {R : Phi → Hp → α → β → Prop} {d : D} {v : V} {k : Pl → M α} {Q : β → Hp → Prop} {E : XW} (h : wpM c R (placeM d >>= k) φ μ H Q E) (w : WOk c φ μ H) (r : Rep c φ H d v) :
    ∃ p a, v = .ref a ∧ PlOk c φ H p a ∧ p.chk μ ∧ (p.tup = true ↔ ∃ xs, d = .tup xs) ∧ wpM c R (k p) φ μ H Q E := by
  cases d with
  | lst xs =>
    simp only [Rep] at r
    obtain ⟨a, vs, rfl, hs, n, rl⟩ := r
    exact ⟨⟨xs, fun _ => True, false⟩, a, rfl, fun φ2 μ2 H2 K w2 _ => ⟨vs, show SqL c.K H2 a vs from .inl (K.rd n hs (by intro ps z; cases z)).1, rl.later K⟩, trivial, by simp, h⟩
  | tup xs =>
    simp only [Rep] at r
    obtain ⟨a, vs, rfl, hs, rl⟩ := r
    exact ⟨⟨xs, fun _ => True, true⟩, a, rfl, fun φ2 μ2 H2 K w2 _ => ⟨vs, show SqT c.K H2 a vs from K.sqt hs, rl.later K⟩, trivial, by simp, h⟩
  | ptr k =>
    simp only [Rep] at r
    obtain ⟨e, hi, rfl⟩ := r
    obtain ⟨x, hx, hc⟩ := w.cell k e hi
    rename_i k'
    have e1 : (placeM (.ptr k) >>= k') μ = M.bind (placeM (.ptr k)) k' μ := rfl
    unfold wpM at h
    rw [e1] at h
    unfold M.bind placeM at h
    simp only [hx] at h
    cases x with
    | dct C fs => exact h.elim
    | lst xs =>
      refine ⟨⟨xs, fun μ' => μ'[k]? = some (.lst xs), false⟩, e.1, rfl, fun φ2 μ2 H2 K w2 hm => ?_, hx, by simp, h⟩
      obtain ⟨x, hx, hc⟩ := w2.cell k e (K.pre k e hi)
      rw [hm] at hx
      cases hx
      obtain ⟨_, us, h1, h2⟩ := hc
      exact ⟨us, show SqL c.K H2 e.1 us from .inl (.inl h1), h2⟩
  | _ => exact wp_stuck (α := α) (R := R) h
def pairD (a b : D) : D := .tup [a, b]
def enumD (xs : List D) : List D := List.zipWith pairD (rangeD 0 xs.length) xs
theorem rangeD_len (n : Nat) : (rangeD 0 n).length = n := by unfold rangeD; simp
theorem enumD_len (xs : List D) : (enumD xs).length = xs.length := by unfold enumD; rw [List.length_zipWith, rangeD_len]; omega
theorem enumD_get {xs : List D} {i : Nat} {d : D} (h : xs[i]? = some d) : (enumD xs)[i]? = some (pairD (.int (i : Int)) d) := by
  have hi : i < xs.length := (List.getElem?_eq_some_iff.mp h).1
  unfold enumD
  rw [List.getElem?_zipWith, h]
  unfold rangeD
  rw [List.getElem?_map, List.getElem?_range hi]
  simp
theorem pair_new {a b : D} {x y : V} {T : Addr} (w : WOk c φ μ H) (nT : H T = none) (r1 : Rep c φ H a x) (r2 : Rep c φ H b y) : Later φ H φ (upd H T (.tup [x, y])) ∧ WOk c φ μ (upd H T (.tup [x, y])) ∧ Rep c φ (upd H T (.tup [x, y])) (pairD a b) (.ref T) :=
  ⟨Later.laid w nT, w.laid nT, tup_new w nT (by simp only [RepL]; exact ⟨x, [y], rfl, r1, y, [], rfl, r2, rfl⟩)⟩
theorem it_enum {p : Pl} {a : Addr} (ht : p.tup = false) (h : PlOk c φ H p a) : ItOk c φ H (Ite c.K a) ⟨enumD p.items, p.chk⟩ := by
  refine ⟨fun H => ∃ vs, SqL c.K H a vs ∧ vs.length = p.items.length, fun i H v H' => ∃ T x, v = .ref T ∧ H T = none ∧ H' = upd H T (.tup [.int (i : Nat), x]) ∧ ∀ xs, SqL c.K H a xs → xs[i]? = some x, ⟨fun i H2 hi ⟨vs, h1, h2⟩ => ?_, fun H2 ⟨vs, h1, h2⟩ => ?_, fun i H v H' _ _ y => y⟩, fun φ2 μ2 H2 K w2 k => ?_, fun i H2 v H3 φ2 μ2 hi K w2 k y => ?_⟩
  · have hi : i < p.items.length := by rw [← enumD_len]; exact hi
    exact ⟨vs, vs[i]'(by rw [h2]; exact hi), h1, by simp [h2, hi]⟩
  · exact ⟨vs, h1, by rw [h2]; exact Nat.le_of_eq (enumD_len _).symm⟩
  · obtain ⟨vs, h1, h2⟩ := h φ2 μ2 H2 K w2 k
    unfold SqB at h1
    rw [ht] at h1
    exact ⟨vs, h1, h2.len.symm⟩
  · obtain ⟨vs, h1, h2⟩ := h φ2 μ2 H2 K w2 k
    unfold SqB at h1
    rw [ht] at h1
    obtain ⟨T, x, rfl, nT, rfl, hx⟩ := y
    have hi : i < p.items.length := by rw [← enumD_len]; exact hi
    obtain ⟨u, hu, ru⟩ := h2.get (List.getElem?_eq_getElem hi)
    rw [hx vs h1] at hu
    cases hu
    exact ⟨_, enumD_get (List.getElem?_eq_getElem hi), pair_new w2 nT of_int ru⟩
theorem it_enumT {p : Pl} {a : Addr} (ht : p.tup = true) (h : PlOk c φ H p a) : ItOk c φ H (ItEt c.K a) ⟨enumD p.items, p.chk⟩ := by
  refine ⟨fun H => ∃ vs, SqT c.K H a vs ∧ vs.length = p.items.length, fun i H v H' => ∃ T x, v = .ref T ∧ H T = none ∧ H' = upd H T (.tup [.int (i : Nat), x]) ∧ ∀ xs, SqT c.K H a xs → xs[i]? = some x, ⟨fun i H2 hi ⟨vs, h1, h2⟩ => ?_, fun H2 ⟨vs, h1, h2⟩ => ?_, fun i H v H' _ _ y => y⟩, fun φ2 μ2 H2 K w2 k => ?_, fun i H2 v H3 φ2 μ2 hi K w2 k y => ?_⟩
  · have hi : i < p.items.length := by rw [← enumD_len]; exact hi
    exact ⟨vs, vs[i]'(by rw [h2]; exact hi), h1, by simp [h2, hi]⟩
  · exact ⟨vs, h1, by rw [h2]; exact Nat.le_of_eq (enumD_len _).symm⟩
  · obtain ⟨vs, h1, h2⟩ := h φ2 μ2 H2 K w2 k
    unfold SqB at h1
    rw [ht] at h1
    exact ⟨vs, h1, h2.len.symm⟩
  · obtain ⟨vs, h1, h2⟩ := h φ2 μ2 H2 K w2 k
    unfold SqB at h1
    rw [ht] at h1
    obtain ⟨T, x, rfl, nT, rfl, hx⟩ := y
    have hi : i < p.items.length := by rw [← enumD_len]; exact hi
    obtain ⟨u, hu, ru⟩ := h2.get (List.getElem?_eq_getElem hi)
    rw [hx vs h1] at hu
    cases hu
    exact ⟨_, enumD_get (List.getElem?_eq_getElem hi), pair_new w2 nT of_int ru⟩
def enumM : List D → M ItD
  | [d] => placeM d >>= fun p => pure ⟨enumD p.items, p.chk⟩
  | _ => stuck
theorem vi_enum {a : Expr} {p tpos : Pos} {elts : List Expr} {kk : Nat} (hK : X.K = c.K) (hg : Gl X "enumerate") (hm : X.mg "enumerate" = none) (ha : VL X c W [a] fl) (hs : starEach [a] X.env = [(false, eval a X.env)] := by rfl) :
    VI X c W (.Tuple elts kk tpos) (.Call (.Name "enumerate" p) [a] [] pos) (fun ρ => fl ρ >>= enumM) := by
  refine ⟨⟨fun pins s σ H R I h => ?_⟩⟩
  obtain ⟨φ, μ, ρ, w, he, h⟩ := h
  replace h : wpM c (fun φ' H' it J => ItOk c φ' H' J it) (fl ρ >>= enumM) φ μ H (fun J H' => R J H') (wEx W σ) := h
  by_cases ht : ∃ xs μ1, fl ρ μ = .ok [.tup xs] μ1
  · refine (pi_enumT hg hm ha.pa hs).run pins s σ H R I ⟨φ, μ, ρ, w, he, ?_⟩
    obtain ⟨xs, μ1, hf⟩ := ht
    have e1 : (fl ρ >>= enumM) μ = enumM [.tup xs] μ1 := by
      show M.bind (fl ρ) enumM μ = _
      unfold M.bind
      rw [hf]
    unfold wpM at h ⊢
    rw [e1] at h
    rw [hf]
    intro φ1 H1 vs L w1 r
    obtain ⟨v, rfl, r0⟩ := repL1 r
    obtain ⟨p, a, rfl, hp, hk, ht, _⟩ := wp_place (R := fun _ _ _ _ => True) (k := fun p => (pure p : M Pl)) (E := fun _ _ _ => True) (Q := fun (_ : Unit) _ => True) (show wpM c _ (placeM (.tup xs) >>= fun p => (pure p : M Pl)) φ1 μ1 H1 _ _ from fun _ _ _ _ _ _ => trivial) w1 r0
    obtain ⟨vs, h1, h2⟩ := hp φ1 μ1 H1 Later.refl.toKeep w1 hk
    have ht2 := ht.mpr ⟨xs, rfl⟩
    unfold SqB at h1
    rw [ht2] at h1
    rw [hK]
    obtain ⟨a', us, e2, hs', rl⟩ := rep_tup r0
    cases e2
    exact ⟨a, vs, rfl, h1, h φ1 H1 (ItEt c.K a) L w1 (it_enumT (p := ⟨xs, fun _ => True, true⟩) rfl fun φ2 μ2 H2 K w2 _ => by
      have r0 := r0
      simp only [Rep] at r0
      obtain ⟨a', us, e2, hs', rl⟩ := r0
      cases e2
      exact ⟨us, K.sqt hs', rl.later K⟩)⟩
  · refine (pi_enum hg hm ha.pa hs).run pins s σ H R I ⟨φ, μ, ρ, w, he, ?_⟩
    cases hf : fl ρ μ with
    | ok ds μ1 =>
      have e1 : (fl ρ >>= enumM) μ = enumM ds μ1 := by
        show M.bind (fl ρ) enumM μ = _
        unfold M.bind
        rw [hf]
      unfold wpM at h ⊢
      rw [e1] at h
      rw [hf]
      intro φ1 H1 vs L w1 r
      have h : wpM c (fun φ' H' it J => ItOk c φ' H' J it) (enumM ds) φ1 μ1 H1 (fun J H' => R J H') (wEx W σ) := by
        unfold wpM
        cases hq : enumM ds μ1 with
        | ok b μ2 => rw [hq] at h; exact fun φ2 H2 b2 L2 w2 r2 => h φ2 H2 b2 (L.trans L2) w2 r2
        | exn b μ2 => rw [hq] at h; exact fun φ2 H2 k2 d2 L2 w2 r2 => h φ2 H2 k2 d2 (L.trans L2) w2 r2
        | stuck => rw [hq] at h; exact h
      unfold enumM at h
      split at h
      · rename_i d
        obtain ⟨v, rfl, r0⟩ := repL1 r
        obtain ⟨p, a, rfl, hp, hk, hpt, h⟩ := wp_place h w1 r0
        obtain ⟨vs, h1, h2⟩ := hp φ1 μ1 H1 Later.refl.toKeep w1 hk
        have ht2 : p.tup = false := by
          cases q : p.tup with
          | false => rfl
          | true =>
            obtain ⟨xs, rfl⟩ := hpt.mp q
            exact absurd ⟨xs, μ1, hf⟩ ht
        unfold SqB at h1
        rw [ht2] at h1
        rw [hK]
        exact ⟨a, vs, rfl, h1, wp_pure (b := Ite c.K a) h w1 (it_enum ht2 hp)⟩
      · exact wp_stuck (β := It) h
    | exn x μ1 =>
      have e1 : (fl ρ >>= enumM) μ = .exn x μ1 := by
        show M.bind (fl ρ) enumM μ = _
        unfold M.bind
        rw [hf]
      unfold wpM at h ⊢
      rw [e1] at h
      rw [hf]
      exact h
    | stuck =>
      have e1 : (fl ρ >>= enumM) μ = .stuck := by
        show M.bind (fl ρ) enumM μ = _
        unfold M.bind
        rw [hf]
      unfold wpM at h ⊢
      rw [e1] at h
      rw [hf]
      exact h
def zipM : List D → M ItD
  | [d, e] => placeM d >>= fun p => placeM e >>= fun q => ask (p.tup == q.tup) >>= fun _ => pure ⟨List.zipWith pairD p.items q.items, fun μ => p.chk μ ∧ q.chk μ⟩
  | _ => stuck
theorem it_zip {p q : Pl} {a b : Addr} (hp : PlOk c φ H p a) (hq : PlOk c φ H q b) (h1 : p.tup = false) (h2 : q.tup = false) : ItOk c φ H (Itz c.K a b) ⟨List.zipWith pairD p.items q.items, fun μ => p.chk μ ∧ q.chk μ⟩ := by
  have hl : (List.zipWith pairD p.items q.items).length = min p.items.length q.items.length := List.length_zipWith
  refine ⟨fun H => ∃ vs us, (SqL c.K H a vs ∧ vs.length = p.items.length) ∧ SqL c.K H b us ∧ us.length = q.items.length, fun i H v H' => ∃ T x y, v = .ref T ∧ H T = none ∧ H' = upd H T (.tup [x, y]) ∧ (∀ xs, SqL c.K H a xs → xs[i]? = some x) ∧ ∀ ys, SqL c.K H b ys → ys[i]? = some y, ⟨fun i H2 hi ⟨vs, us, ⟨e1, e2⟩, e3, e4⟩ => ?_, fun H2 ⟨vs, us, ⟨e1, e2⟩, e3, e4⟩ => ?_, fun i H v H' _ _ y => y⟩, fun φ2 μ2 H2 K w2 k => ?_, fun i H2 v H3 φ2 μ2 hi K w2 k y => ?_⟩
  · have hi : i < min p.items.length q.items.length := by rw [← hl]; exact hi
    exact ⟨vs, us, vs[i]'(by omega), us[i]'(by omega), e1, e3, by rw [List.getElem?_eq_getElem], by rw [List.getElem?_eq_getElem]⟩
  · refine ⟨vs, us, e1, e3, ?_⟩
    show _ ≤ (List.zipWith pairD p.items q.items).length ∨ _
    rw [hl]; omega
  · obtain ⟨vs, e1, e2⟩ := hp φ2 μ2 H2 K w2 k.1
    obtain ⟨us, e3, e4⟩ := hq φ2 μ2 H2 K w2 k.2
    unfold SqB at e1 e3
    rw [h1] at e1
    rw [h2] at e3
    exact ⟨vs, us, ⟨e1, e2.len.symm⟩, e3, e4.len.symm⟩
  · obtain ⟨vs, e1, e2⟩ := hp φ2 μ2 H2 K w2 k.1
    obtain ⟨us, e3, e4⟩ := hq φ2 μ2 H2 K w2 k.2
    unfold SqB at e1 e3
    rw [h1] at e1
    rw [h2] at e3
    obtain ⟨T, x, y, rfl, nT, rfl, hx, hy⟩ := y
    have hi : i < min p.items.length q.items.length := by rw [← hl]; exact hi
    have i1 : i < p.items.length := by omega
    have i2 : i < q.items.length := by omega
    obtain ⟨u, hu, ru⟩ := e2.get (List.getElem?_eq_getElem i1)
    obtain ⟨u2, hu2, ru2⟩ := e4.get (List.getElem?_eq_getElem i2)
    rw [hx vs e1] at hu
    rw [hy us e3] at hu2
    cases hu
    cases hu2
    exact ⟨_, by show (List.zipWith pairD p.items q.items)[i]? = _; rw [List.getElem?_zipWith, List.getElem?_eq_getElem i1, List.getElem?_eq_getElem i2], pair_new w2 nT ru ru2⟩
theorem it_zipT {p q : Pl} {a b : Addr} (hp : PlOk c φ H p a) (hq : PlOk c φ H q b) (h1 : p.tup = true) (h2 : q.tup = true) : ItOk c φ H (ItzT c.K a b) ⟨List.zipWith pairD p.items q.items, fun μ => p.chk μ ∧ q.chk μ⟩ := by
  have hl : (List.zipWith pairD p.items q.items).length = min p.items.length q.items.length := List.length_zipWith
  refine ⟨fun H => ∃ vs us, (SqT c.K H a vs ∧ vs.length = p.items.length) ∧ SqT c.K H b us ∧ us.length = q.items.length, fun i H v H' => ∃ T x y, v = .ref T ∧ H T = none ∧ H' = upd H T (.tup [x, y]) ∧ (∀ xs, SqT c.K H a xs → xs[i]? = some x) ∧ ∀ ys, SqT c.K H b ys → ys[i]? = some y, ⟨fun i H2 hi ⟨vs, us, ⟨e1, e2⟩, e3, e4⟩ => ?_, fun H2 ⟨vs, us, ⟨e1, e2⟩, e3, e4⟩ => ?_, fun i H v H' _ _ y => y⟩, fun φ2 μ2 H2 K w2 k => ?_, fun i H2 v H3 φ2 μ2 hi K w2 k y => ?_⟩
  · have hi : i < min p.items.length q.items.length := by rw [← hl]; exact hi
    exact ⟨vs, us, vs[i]'(by omega), us[i]'(by omega), e1, e3, by rw [List.getElem?_eq_getElem], by rw [List.getElem?_eq_getElem]⟩
  · refine ⟨vs, us, e1, e3, ?_⟩
    show _ ≤ (List.zipWith pairD p.items q.items).length ∨ _
    rw [hl]; omega
  · obtain ⟨vs, e1, e2⟩ := hp φ2 μ2 H2 K w2 k.1
    obtain ⟨us, e3, e4⟩ := hq φ2 μ2 H2 K w2 k.2
    unfold SqB at e1 e3
    rw [h1] at e1
    rw [h2] at e3
    exact ⟨vs, us, ⟨e1, e2.len.symm⟩, e3, e4.len.symm⟩
  · obtain ⟨vs, e1, e2⟩ := hp φ2 μ2 H2 K w2 k.1
    obtain ⟨us, e3, e4⟩ := hq φ2 μ2 H2 K w2 k.2
    unfold SqB at e1 e3
    rw [h1] at e1
    rw [h2] at e3
    obtain ⟨T, x, y, rfl, nT, rfl, hx, hy⟩ := y
    have hi : i < min p.items.length q.items.length := by rw [← hl]; exact hi
    have i1 : i < p.items.length := by omega
    have i2 : i < q.items.length := by omega
    obtain ⟨u, hu, ru⟩ := e2.get (List.getElem?_eq_getElem i1)
    obtain ⟨u2, hu2, ru2⟩ := e4.get (List.getElem?_eq_getElem i2)
    rw [hx vs e1] at hu
    rw [hy us e3] at hu2
    cases hu
    cases hu2
    exact ⟨_, by show (List.zipWith pairD p.items q.items)[i]? = _; rw [List.getElem?_zipWith, List.getElem?_eq_getElem i1, List.getElem?_eq_getElem i2], pair_new w2 nT ru ru2⟩
theorem vi_zip {a b : Expr} {p tpos : Pos} {elts : List Expr} {kk : Nat} (hK : X.K = c.K) (hg : Gl X "zip") (hm : X.mg "zip" = none) (ha : VL X c W [a, b] fl) (hs : starEach [a, b] X.env = (false, eval a X.env) :: starEach [b] X.env := by rfl) (hpl : (backTo pos (starEach [b] X.env)).any (·.1) = false := by rfl) :
    VI X c W (.Tuple elts kk tpos) (.Call (.Name "zip" p) [a, b] [] pos) (fun ρ => fl ρ >>= zipM) := by
  refine ⟨PI.weak (pi_zipA hg hm ha.pa hs hpl) fun σ H R z => ?_⟩
  obtain ⟨φ, μ, ρ, w, he, h⟩ := z
  refine ⟨φ, μ, ρ, w, he, wp_mono (wp_bind h) fun x H1 z => ?_⟩
  obtain ⟨φ1, μ1, ds, L, w1, r, h1⟩ := z
  rw [hK]
  unfold zipM at h1
  split at h1
  · obtain ⟨v, u, rfl, r0, r2⟩ := repL2 r
    obtain ⟨p, a1, rfl, hp, kp, _, h1⟩ := wp_place h1 w1 r0
    obtain ⟨q, a2, rfl, hq, kq, _, h1⟩ := wp_place h1 w1 r2
    obtain ⟨ht, h1⟩ := wp_ask h1
    have ht : p.tup = q.tup := eq_of_beq ht
    obtain ⟨vs, e1, e2⟩ := hp φ1 μ1 H1 Later.refl.toKeep w1 kp
    obtain ⟨us, e3, e4⟩ := hq φ1 μ1 H1 Later.refl.toKeep w1 kq
    unfold SqB at e1 e3
    cases hb : p.tup with
    | false =>
      have hb2 : q.tup = false := by rw [← ht]; exact hb
      rw [hb] at e1
      rw [hb2] at e3
      exact ⟨a1, a2, vs, us, rfl, .inl ⟨e1, e3, wp_pure (b := Itz c.K a1 a2) h1 w1 (it_zip hp hq hb hb2)⟩⟩
    | true =>
      have hb2 : q.tup = true := by rw [← ht]; exact hb
      rw [hb] at e1
      rw [hb2] at e3
      exact ⟨a1, a2, vs, us, rfl, .inr ⟨e1, e3, wp_pure (b := ItzT c.K a1 a2) h1 w1 (it_zipT hp hq hb hb2)⟩⟩
  · exact wp_stuck (β := It) h1
end
end VL

namespace VL
open PySem PySem.Spec PyProof.Rows L2 LamX OwA
section
variable {X : Cx} {c : Cn} {W : WX} {φ φ' : Phi} {H H' : Hp} {μ μ' : Mem} {e : Expr} {es : List Expr} {f g : Env → M D} {fl : Env → M (List D)} {pos : Pos}
/-! ### types of values, classes of one's own -/
inductive TyT where
  | b (n : String) | o (C : String)
def TyT.val (c : Cn) : TyT → Value
  | .b n => .type n
  | .o C => .ref (c.cl C)
def tyNames : List String := ["NoneType", "bool", "int", "str", "tuple", "list", "dict"]
def typeM (ow : List String) (d : D) : M TyT := match d with
  | .ptr k => readL (.ptr k) >>= fun _ => pure (.b "list")
  | .ins C _ => ask (ow.contains C) >>= fun _ => pure (.o C)
  | d => match tyName d with
    | some n => pure (.b n)
    | none => stuck
/-- what is known of the classes -/
structure OwnK (c : Cn) (ow : List String) : Prop where
  cls : ∀ C ∈ ow, SlX.SCls c.K (c.cl C) ∧ SlX.SIsi c.K (c.cl C)
  bt : ∀ C ∈ ow, ∀ n ∈ tyNames, PySem.W.kitOne c.K (.type n) (.ref (c.cl C)) = some false
  tb : ∀ C ∈ ow, ∀ n ∈ tyNames, PySem.W.kitOne c.K (.ref (c.cl C)) (.type n) = some false
  oo : ∀ C ∈ ow, ∀ C' ∈ ow, PySem.W.kitOne c.K (.ref (c.cl C')) (.ref (c.cl C)) = some (C' == C)
theorem tyName_mem {d : D} {n : String} (h : tyName d = some n) : n ∈ tyNames := by
  cases d <;> cases h <;> decide
def TyT.Ok (ow : List String) : TyT → Prop
  | .b n => n ∈ tyNames
  | .o C => C ∈ ow
theorem wp_typeM {α β : Type} {R : Phi → Hp → α → β → Prop} {ow : List String} {d : D} {v : V} {k : TyT → M α} {Q : β → Hp → Prop} {E : XW} (O : OwnK c ow) (h : wpM c R (typeM ow d >>= k) φ μ H Q E) (w : WOk c φ μ H) (r : Rep c φ H d v) :
    ∃ t, TyA c.K H v (TyT.val c t) ∧ t.Ok ow ∧ (∀ C fs, d = .ins C fs → t = .o C) ∧ wpM c R (k t) φ μ H Q E := by
  have base : ∀ n, tyName d = some n → wpM c R (k (.b n)) φ μ H Q E → ∃ t, TyA c.K H v (TyT.val c t) ∧ t.Ok ow ∧ (∀ C fs, d = .ins C fs → t = .o C) ∧ wpM c R (k t) φ μ H Q E := fun n hn h =>
    ⟨.b n, .ty (tyx_of r hn), tyName_mem hn, fun C fs e => (by rw [e] at hn; cases hn), h⟩
  cases d with
  | ptr i =>
    have h : wpM c R ((readL (.ptr i) >>= fun _ => (pure (.b "list") : M TyT)) >>= k) φ μ H Q E := h
    rw [M.assoc] at h
    obtain ⟨xs, a, us, rfl, hs, rl, h⟩ := wp_readL h w r
    refine ⟨.b "list", .ty ?_, show "list" ∈ tyNames by decide, fun C fs e => (by cases e), h⟩
    rcases hs with h | ⟨o, h⟩
    · exact .base (.lst h)
    · exact .base (.frz h)
  | ins C fs =>
    have h : wpM c R ((ask (ow.contains C) >>= fun _ => (pure (.o C) : M TyT)) >>= k) φ μ H Q E := h
    rw [M.assoc] at h
    obtain ⟨hz, h⟩ := wp_ask h
    have hm : C ∈ ow := by simpa using hz
    simp only [Rep] at r
    obtain ⟨a, dx, vs, ws, rfl, hs, _⟩ := r
    obtain ⟨h1, h2⟩ := O.cls C hm
    exact ⟨.o C, .sl hs h1 h2, hm, fun C' fs' e => by cases e; rfl, h⟩
  | non => exact base _ rfl h
  | bl b => exact base _ rfl h
  | int i => exact base _ rfl h
  | str z => exact base _ rfl h
  | tup xs => exact base _ rfl h
  | lst xs => exact base _ rfl h
  | dct ks xs => exact base _ rfl h
  | ty n => exact wp_stuck (α := α) (R := R) h
  | scr n => exact wp_stuck (α := α) (R := R) h
  | cls C => exact wp_stuck (α := α) (R := R) h
  | fn f => exact wp_stuck (α := α) (R := R) h
def isOwn (t : TyT) (C : String) : Bool := match t with
  | .o C' => C' == C
  | .b _ => false
def isiO (ow : List String) : List D → M D
  | [x, .cls C] => ask (ow.contains C) >>= fun _ => typeM ow x >>= fun t => pure (.bl (isOwn t C))
  | [.ins C _, .ty T] => ask (ow.contains C && tyNames.contains T) >>= fun _ => pure (.bl false)
  | ds => isiD ds
theorem CallV.or {f : Value} {g : List D → M D} {r : List V → Hp → VK → Prop} {g2 : List D → M D} (h : CallV X c f g2) (hr : CallR X f r) (hg : ∀ φ μ H ds vs Q E, WOk c φ μ H → RepL c φ H ds vs → wpM c (Rep c) (g ds) φ μ H Q E → r vs H Q ∨ wpM c (Rep c) (g2 ds) φ μ H Q E) : CallV X c f g := by
  obtain ⟨r2, h1, h2⟩ := h
  exact ⟨_, hr.or h1, fun φ μ H ds vs Q E w rl h => (hg φ μ H ds vs Q E w rl h).imp id fun z => h2 φ μ H ds vs Q E w rl z⟩
theorem cv_isiO {ow : List String} (hK : X.K = c.K) (O : OwnK c ow) : CallV X c (.builtin "isinstance") (isiO ow) := by
  refine (cv_isi hK).or call_isA fun φ μ H ds vs Q E w r h => ?_
  rw [hK]
  unfold isiO at h
  split at h
  · rename_i x C
    obtain ⟨v, u, rfl, r0, r1⟩ := repL2 r
    obtain ⟨hz, h⟩ := wp_ask h
    have hm : C ∈ ow := by simpa using hz
    obtain ⟨t, ht, ok, _, h⟩ := wp_typeM O h w r0
    simp only [Rep] at r1
    subst r1
    refine .inl ⟨v, .ref (c.cl C), t.val c, .ref (c.cl C), isOwn t C, rfl, .own _, ht, ?_, wp_pure h w of_bl⟩
    cases t with
    | b n => exact O.bt C hm n ok
    | o C' => exact O.oo C hm C' ok
  · rename_i C fs T
    obtain ⟨v, u, rfl, r0, r1⟩ := repL2 r
    obtain ⟨hz, h⟩ := wp_ask h
    rw [Bool.and_eq_true] at hz
    have hm : C ∈ ow := by simpa using hz.1
    have hT : T ∈ tyNames := by simpa using hz.2
    simp only [Rep] at r0 r1
    subst r1
    obtain ⟨a, dx, vs, ws, rfl, hs, _⟩ := r0
    obtain ⟨h1, h2⟩ := O.cls C hm
    exact .inl ⟨.ref a, .ty T, .ref (c.cl C), .type T, false, rfl, .ty _, .sl hs h1 h2, O.tb C hm T hT, wp_pure h w of_bl⟩
  · exact .inr h
/-! ### ==, != by one's own def -/
/-- no kind of value answers ahead -/
def Nf (c : Cn) (ow : List String) (C : String) : Prop := (∀ n ∈ tyNames, PySem.W.notFirst c.K (c.cl C) (.type n) = true) ∧ ∀ C' ∈ ow, PySem.W.notFirst c.K (c.cl C) (.ref (c.cl C')) = true
theorem Nf.of {ow : List String} {C : String} (h : Nf c ow C) {t : TyT} (ok : t.Ok ow) : PySem.W.notFirst c.K (c.cl C) (t.val c) = true := by
  cases t with
  | b n => exact h.1 n ok
  | o C' => exact h.2 C' ok
def dEqO (ow : List String) (C : String) (m : List D → M D) (x y : D) : M D := match x with
  | .ins C' fs => ask (C' == C) >>= fun _ => typeM ow y >>= fun _ => noX (m [.ins C' fs, y])
  | x => dEq x y
def notB : D → M D
  | .bl b => pure (.bl (!b))
  | _ => stuck
def dNeO (ow : List String) (C : String) (m : List D → M D) (x y : D) : M D := match x with
  | .ins C' fs => ask (C' == C) >>= fun _ => typeM ow y >>= fun _ => noX (m [.ins C' fs, y]) >>= notB
  | x => dNe x y
theorem OpV.or {f : Value → Value → Sem Value} {g g2 : D → D → M D} {r : R2} (h : OpV X c f g2) (hr : OpR X f r) (hg : ∀ φ μ H x y vx vy Q E, WOk c φ μ H → Rep c φ H x vx → Rep c φ H y vy → wpM c (Rep c) (g x y) φ μ H Q E → r vx vy H Q ∨ wpM c (Rep c) (g2 x y) φ μ H Q E) : OpV X c f g := by
  obtain ⟨r2, h1, h2⟩ := h
  exact ⟨_, hr.or h1, fun φ μ H x y vx vy Q E w a b h => (hg φ μ H x y vx vy Q E w a b h).imp id fun z => h2 φ μ H x y vx vy Q E w a b z⟩
theorem opv_eqO {ow : List String} {C : String} {k : Nat} {g : Addr} {fd : FuncData} {ps : List Str} {m : List D → M D} (hK : X.K = c.K) (hu : X.A.units + 64 < cLine) (O : OwnK c ow) (N : Nf c ow C) (M : Meth X.K (c.cl C) "__eq__" g) (F : FnOk X.prog X.w X.K X.mg X.base (L2.CX X.prog X.w) k g fd ps (spD c 2 m)) (hb : Binds X.K fd ps []) (hr : Room k X.A) :
    OpV X c (compareOp .Eq) (dEqO ow C m) := by
  refine (opv_eq hK hu).or (op_eqA M.at_ M.fn (F.raw hb .nil) hr pass_no) fun φ μ H x y vx vy Q E w r1 r2 h => ?_
  unfold dEqO at h
  split at h
  · rename_i C' fs
    obtain ⟨hC, h9⟩ := wp_ask h
    clear h
    obtain rfl : C' = C := eq_of_beq hC
    obtain ⟨t, ht, ok, _, h⟩ := wp_typeM O h9 w r2
    have r1' := r1
    simp only [Rep] at r1'
    obtain ⟨a, dx, vs, ws, rfl, hs, _⟩ := r1'
    rw [hK]
    refine .inl ⟨a, dx, ws, t.val c, rfl, hs, ht, N.of ok, rfl, φ, μ, [.ins C' fs, y], w, ?_, wp_noX h⟩
    simp only [RepL, List.append_nil]
    exact ⟨.ref a, [vy], rfl, r1, vy, [], rfl, r2, rfl⟩
  · exact .inr h
theorem opv_neO {ow : List String} {C : String} {k : Nat} {g : Addr} {fd : FuncData} {ps : List Str} {m : List D → M D} (hK : X.K = c.K) (hu : X.A.units + 64 < cLine) (O : OwnK c ow) (N : Nf c ow C) (M : Meth X.K (c.cl C) "__eq__" g) (hne : PySem.W.findIn X.K (.ref (c.cl C)) "__ne__" = some (some (.builtin "object.__ne__"))) (hm : PySem.W.mroIn X.K (c.cl C) (.type "object") = some true) (F : FnOk X.prog X.w X.K X.mg X.base (L2.CX X.prog X.w) k g fd ps (spD c 2 m)) (hb : Binds X.K fd ps []) (hr : Room (k + 1) X.A) :
    OpV X c (compareOp .NotEq) (dNeO ow C m) := by
  refine (opv_ne hK hu).or (op_neA M.at_ M.fn hne hm (F.raw hb .nil) hr pass_no) fun φ μ H x y vx vy Q E w r1 r2 h => ?_
  unfold dNeO at h
  split at h
  · rename_i C' fs
    obtain ⟨hC, h9⟩ := wp_ask h
    clear h
    obtain rfl : C' = C := eq_of_beq hC
    obtain ⟨t, ht, ok, _, h⟩ := wp_typeM O h9 w r2
    have r1' := r1
    simp only [Rep] at r1'
    obtain ⟨a, dx, vs, ws, rfl, hs, _⟩ := r1'
    rw [hK]
    refine .inl ⟨a, dx, ws, t.val c, rfl, hs, ht, N.of ok, rfl, φ, μ, [.ins C' fs, y], w, ?_, wp_mono (wp_noXb (R := Rep c) h) fun z H1 q => ?_⟩
    · simp only [RepL, List.append_nil]
      exact ⟨.ref a, [vy], rfl, r1, vy, [], rfl, r2, rfl⟩
    · obtain ⟨φ1, μ1, d, L, w1, r3, h1⟩ := q
      cases d with
      | bl b => exact ⟨b, rep_bl r3, wp_pure h1 w1 of_bl⟩
      | _ => exact wp_stuck h1
  · exact .inr h
/-! ### len, str by one's own def -/
def natI : D → M D
  | .int i => ask (decide (0 ≤ i ∧ i < 2 ^ 63)) >>= fun _ => pure (.int i)
  | _ => stuck
def lenO (C : String) (m : List D → M D) : List D → M D
  | [.ins C' fs] => ask (C' == C) >>= fun _ => noX (m [.ins C' fs]) >>= natI
  | ds => lenD ds
theorem cv_lenO {C : String} {k : Nat} {g : Addr} {fd : FuncData} {ps : List Str} {m : List D → M D} (hK : X.K = c.K) (M : Meth X.K (c.cl C) "__len__" g) (F : FnOk X.prog X.w X.K X.mg X.base (L2.CX X.prog X.w) k g fd ps (spD c 1 m)) (hb : Binds X.K fd ps []) (hr : Room (k + 1) X.A) : CallV X c (.builtin "len") (lenO C m) := by
  refine (cv_len hK).or (call_lenA M.at_ M.fn (F.raw hb .nil) hr pass_no2) fun φ μ H ds vs Q E w r h => ?_
  unfold lenO at h
  split at h
  · rename_i C' fs
    obtain ⟨v, rfl, r0⟩ := repL1 r
    obtain ⟨hC, h9⟩ := wp_ask h
    clear h
    obtain rfl : C' = C := eq_of_beq hC
    have h := h9
    have r1' := r0
    simp only [Rep] at r1'
    obtain ⟨a, dx, vs, ws, rfl, hs, _⟩ := r1'
    refine .inl ⟨a, dx, ws, rfl, hs, rfl, φ, μ, [.ins C' fs], w, by rw [List.append_nil]; exact r, wp_mono (wp_noXb (R := Rep c) h) fun z H1 q => ?_⟩
    obtain ⟨φ1, μ1, d, L, w1, r3, h1⟩ := q
    cases d with
    | int i =>
      obtain ⟨hz, h1⟩ := wp_ask h1
      exact ⟨i, rep_int r3, of_decide_eq_true hz, wp_pure h1 w1 of_int⟩
    | _ => exact wp_stuck h1
  · exact .inr h
def asS : D → M D
  | .str z => pure (.str z)
  | _ => stuck
def strO (C : String) (m : List D → M D) : List D → M D
  | [.ins C' fs] => ask (C' == C) >>= fun _ => noX (m [.ins C' fs]) >>= asS
  | ds => strD ds
theorem cv_strO {C : String} {k : Nat} {g : Addr} {fd : FuncData} {ps : List Str} {m : List D → M D} (M : Meth X.K (c.cl C) "__str__" g) (F : FnOk X.prog X.w X.K X.mg X.base (L2.CX X.prog X.w) k g fd ps (spD c 1 m)) (hb : Binds X.K fd ps []) (hr : Room (k + 2) X.A) : CallV X c (.type "str") (strO C m) := by
  refine cv_str.or (call_strA M.at_ M.fn (F.raw hb .nil) hr pass_no) fun φ μ H ds vs Q E w r h => ?_
  unfold strO at h
  split at h
  · rename_i C' fs
    obtain ⟨v, rfl, r0⟩ := repL1 r
    obtain ⟨hC, h9⟩ := wp_ask h
    clear h
    obtain rfl : C' = C := eq_of_beq hC
    have h := h9
    have r1' := r0
    simp only [Rep] at r1'
    obtain ⟨a, dx, vs, ws, rfl, hs, _⟩ := r1'
    refine .inl ⟨a, dx, ws, rfl, hs, rfl, φ, μ, [.ins C' fs], w, by rw [List.append_nil]; exact r, wp_mono (wp_noXb (R := Rep c) h) fun z H1 q => ?_⟩
    obtain ⟨φ1, μ1, d, L, w1, r3, h1⟩ := q
    cases d with
    | str i => exact ⟨i, rep_str r3, wp_pure h1 w1 of_str⟩
    | _ => exact wp_stuck h1
  · exact .inr h
/-! ### f-strings -/
def fmtD : D → M D
  | .str y => ask (small y.length) >>= fun _ => pure (.str y)
  | .int i => ask (decide (i.natAbs.log2 < 1920)) >>= fun _ => pure (.str (toString i))
  | _ => stuck
theorem ve_fmt {p : Pos} (h : VE X c W e f) : VE X c W (.FormattedValue e (-1) none p) (fun ρ => f ρ >>= fmtD) := ⟨PE.weak (pe_fmt h.pe) fun σ H Q q => by
  obtain ⟨φ, μ, ρ, w, he, h⟩ := q
  refine ⟨φ, μ, ρ, w, he, wp_mono (wp_bind h) fun x H1 z => ?_⟩
  obtain ⟨φ1, μ1, d, L, w1, r, h1⟩ := z
  cases d with
  | str y =>
    obtain ⟨hz, h1⟩ := wp_ask h1
    exact .inl ⟨y, rep_str r, of_decide_eq_true hz, wp_pure h1 w1 of_str⟩
  | int i =>
    obtain ⟨hz, h1⟩ := wp_ask h1
    exact .inr ⟨i, rep_int r, of_decide_eq_true hz, wp_pure h1 w1 of_str⟩
  | _ => exact wp_stuck h1⟩
inductive VJ (X : Cx) (c : Cn) (W : WX) : List Expr → List (Env → M D) → Prop
  | nil : VJ X c W [] []
  | cons {e : Expr} {f : Env → M D} {es : List Expr} {fs : List (Env → M D)} (h : VE X c W e f) (r : VJ X c W es fs) : VJ X c W (e :: es) (f :: fs)
theorem VJ.pj {es : List Expr} {fs : List (Env → M D)} (h : VJ X c W es fs) : PJ X es (fs.map (tV c W)) := by
  induction h with
  | nil => exact .nil
  | cons h r ih => exact .cons h.pe ih
def joinM (ρ : Env) : List (Env → M D) → Str → M D
  | [], acc => pure (.str acc)
  | f :: fs, acc => f ρ >>= fun d => match d with
    | .str y => ask (small (acc ++ y).length) >>= fun _ => joinM ρ fs (acc ++ y)
    | _ => stuck
theorem tJs_of {σ : L2.St} {ρ : Env} {Q : VK} : ∀ {fs : List (Env → M D)} {acc : Str} {φ : Phi} {μ : Mem} {H : Hp}, WOk c φ μ H → RepE c φ H ρ σ → wpM c (Rep c) (joinM ρ fs acc) φ μ H Q (wEx W σ) → tJs (fs.map (tV c W)) acc σ H (fun out H1 => Q (.str out) H1)
  | [], acc, φ, μ, H, w, he, h => wp_pure (b := V.str acc) h w of_str
  | f :: fs, acc, φ, μ, H, w, he, h => by
    have h : wpM c (Rep c) (f ρ >>= fun d => match d with
      | .str y => ask (small (acc ++ y).length) >>= fun _ => joinM ρ fs (acc ++ y)
      | _ => stuck) φ μ H Q (wEx W σ) := h
    refine ⟨φ, μ, ρ, w, he, wp_mono (wp_bind h) fun x H1 z => ?_⟩
    obtain ⟨φ1, μ1, d, L, w1, r, h1⟩ := z
    cases d with
    | str y =>
      obtain ⟨hz, h1⟩ := wp_ask h1
      exact ⟨y, rep_str r, of_decide_eq_true hz, tJs_of w1 (he.later L) h1⟩
    | _ => exact wp_stuck h1
theorem ve_joined {v1 v2 : Expr} {rest : List Expr} {fs : List (Env → M D)} (h : VJ X c W (v1 :: v2 :: rest) fs) : VE X c W (.JoinedStr (v1 :: v2 :: rest) pos) (fun ρ => joinM ρ fs Str.empty) := ⟨PE.weak (pe_joined h.pj) fun σ H Q q => by
  obtain ⟨φ, μ, ρ, w, he, h⟩ := q
  exact tJs_of w he h⟩
theorem ve_joined1 (h : VE X c W e f) : VE X c W (.JoinedStr [e] pos) f := ⟨pe_joined1 h.pe⟩
end
end VL

namespace VL
open PySem PySem.Spec PyProof.Rows L2 LamX OwA
/-! ### texts, sums, orders -/
section
variable {X : Cx} {c : Cn} {W : WX} {φ φ' : Phi} {H H' : Hp} {μ μ' : Mem} {e : Expr} {es : List Expr} {f g : Env → M D} {fl : Env → M (List D)} {pos : Pos}
def askP (p : Prop) [Decidable p] : M Unit := if p then pure () else stuck
theorem wp_askP {α β : Type} {R : Phi → Hp → α → β → Prop} {p : Prop} [Decidable p] {k : Unit → M α} {Q : β → Hp → Prop} {E : XW} (h : wpM c R (askP p >>= k) φ μ H Q E) : p ∧ wpM c R (k ()) φ μ H Q E := by
  by_cases hp : p
  · have e : askP p = pure () := if_pos hp
    rw [e] at h
    exact ⟨hp, h⟩
  · have e : askP p = stuck := if_neg hp
    rw [e] at h
    exact h.elim
def strsOf : List D → Option (List Str)
  | [] => some []
  | .str z :: r => (strsOf r).map (z :: ·)
  | _ :: _ => none
def intsOf : List D → Option (List Int)
  | [] => some []
  | .int z :: r => (intsOf r).map (z :: ·)
  | _ :: _ => none
theorem strs_of : ∀ {ds : List D} {vs : List V} {zs : List Str}, RepL c φ H ds vs → strsOf ds = some zs → vs = zs.map V.str
  | [], vs, zs, r, h => by simp only [RepL] at r; cases h; rw [r]; rfl
  | d :: ds, vs, zs, r, h => by
    simp only [RepL] at r
    obtain ⟨v, rest, rfl, r1, r2⟩ := r
    cases d with
    | str z =>
      simp only [strsOf, Option.map_eq_some_iff] at h
      obtain ⟨ys, h, rfl⟩ := h
      rw [rep_str r1, strs_of r2 h]
      rfl
    | _ => simp only [strsOf] at h; cases h
theorem ints_of : ∀ {ds : List D} {vs : List V} {zs : List Int}, RepL c φ H ds vs → intsOf ds = some zs → vs = zs.map V.int
  | [], vs, zs, r, h => by simp only [RepL] at r; cases h; rw [r]; rfl
  | d :: ds, vs, zs, r, h => by
    simp only [RepL] at r
    obtain ⟨v, rest, rfl, r1, r2⟩ := r
    cases d with
    | int z =>
      simp only [intsOf, Option.map_eq_some_iff] at h
      obtain ⟨ys, h, rfl⟩ := h
      rw [rep_int r1, ints_of r2 h]
      rfl
    | _ => simp only [intsOf] at h; cases h
theorem of_strs {zs : List Str} : RepL c φ H (zs.map D.str) (zs.map V.str) := by
  induction zs with
  | nil => simp only [List.map_nil, RepL]
  | cons z zs ih => simp only [List.map_cons, RepL]; exact ⟨_, _, rfl, of_str, ih⟩
theorem of_ints {zs : List Int} : RepL c φ H (zs.map D.int) (zs.map V.int) := by
  induction zs with
  | nil => simp only [List.map_nil, RepL]
  | cons z zs ih => simp only [List.map_cons, RepL]; exact ⟨_, _, rfl, of_int, ih⟩
/-! #### methods of texts -/
/-- one text to a value -/
def sM0 (ok : Str → Bool) (k : Str → D) (x : D) (xs : List D) : M D := match x, xs with
  | .str a, [] => ask (ok a) >>= fun _ => pure (k a)
  | _, _ => stuck
def sM1 (ok : Str → Str → Bool) (k : Str → Str → D) (x : D) (xs : List D) : M D := match x, xs with
  | .str a, [.str b] => ask (ok a b) >>= fun _ => pure (k a b)
  | _, _ => stuck
def sMi (ok : Str → Int → Bool) (k : Str → Int → D) (x : D) (xs : List D) : M D := match x, xs with
  | .str a, [.int b] => ask (ok a b) >>= fun _ => pure (k a b)
  | _, _ => stuck
theorem mv_s0 {id : String} {C : Str → Prop} {ok : Str → Bool} {k : Str → D} {k' : Str → V} (h : MtR X id (fun x xs H Q => ∃ a, x = .str a ∧ xs = [] ∧ C a ∧ Q (k' a) H)) (hc : ∀ a, ok a = true → C a) (hk : ∀ φ H a, Rep c φ H (k a) (k' a)) : MtV X c id (sM0 ok k) := ⟨_, h, fun φ μ H x xs vx vs Q E w r1 r2 h => by
  unfold sM0 at h
  split at h
  · obtain ⟨hz, h⟩ := wp_ask h
    simp only [RepL] at r2
    exact ⟨_, rep_str r1, r2, hc _ hz, wp_pure h w (hk _ _ _)⟩
  · exact wp_stuck h⟩
theorem mv_s1 {id : String} {k : Str → Str → D} {k' : Str → Str → V} (h : MtR X id (fun x xs H Q => ∃ a b, x = .str a ∧ xs = [.str b] ∧ Q (k' a b) H)) (hk : ∀ φ H a b, Rep c φ H (k a b) (k' a b)) : MtV X c id (sM1 (fun _ _ => true) k) := ⟨_, h, fun φ μ H x xs vx vs Q E w r1 r2 h => by
  unfold sM1 at h
  split at h
  · obtain ⟨v, rfl, r0⟩ := repL1 r2
    obtain ⟨hz, h⟩ := wp_ask h
    exact ⟨_, _, rep_str r1, by rw [rep_str r0], wp_pure h w (hk _ _ _ _)⟩
  · exact wp_stuck h⟩
abbrev sCount := sM1 (fun _ _ => true) fun a b => .int (Txt.count a b)
abbrev sFind := sM1 (fun _ _ => true) fun a b => .int (Txt.find a b)
abbrev sStarts := sM1 (fun _ _ => true) fun a b => .bl (Txt.startswith a b)
abbrev sEnds := sM1 (fun _ _ => true) fun a b => .bl (Txt.endswith a b)
abbrev sUpper := sM0 (fun a => decide (a.length ≤ 5592405)) fun a => .str (Txt.upper a)
abbrev sLower := sM0 (fun a => decide (a.length ≤ 5592405)) fun a => .str (Txt.lower a)
abbrev sIsdigit := sM0 (fun _ => true) fun a => .bl (Txt.isdigit a)
theorem mv_count : MtV X c "str.count" sCount := mv_s1 mt_count fun _ _ _ _ => of_int
theorem mv_find : MtV X c "str.find" sFind := mv_s1 mt_find fun _ _ _ _ => of_int
theorem mv_startswith : MtV X c "str.startswith" sStarts := mv_s1 mt_startswith fun _ _ _ _ => of_bl
theorem mv_endswith : MtV X c "str.endswith" sEnds := mv_s1 mt_endswith fun _ _ _ _ => of_bl
theorem mv_upper : MtV X c "str.upper" sUpper := mv_s0 mt_upper (fun a h => of_decide_eq_true h) fun _ _ _ => of_str
theorem mv_lower : MtV X c "str.lower" sLower := mv_s0 mt_lower (fun a h => of_decide_eq_true h) fun _ _ _ => of_str
theorem mv_isdigit : MtV X c "str.isdigit" sIsdigit := mv_s0 mt_isdigit (fun _ _ => trivial) fun _ _ _ => of_bl
abbrev sZfill := sMi (fun _ i => PadOk i) fun a i => .str (Txt.zfill a i)
theorem mv_zfill : MtV X c "str.zfill" sZfill := ⟨_, mt_zfill, fun φ μ H x xs vx vs Q E w r1 r2 h => by
  unfold sZfill sMi at h
  split at h
  · obtain ⟨v, rfl, r0⟩ := repL1 r2
    obtain ⟨hz, h⟩ := wp_ask h
    exact ⟨_, _, rep_str r1, by rw [rep_int r0], hz, wp_pure h w of_str⟩
  · exact wp_stuck h⟩
def splitM (fin : List D → M D) (x : D) (xs : List D) : M D := match x, xs with
  | .str a, [.str b] => ask (!(b.length == 0) && decide (a.length + 2 ≤ sizeLine)) >>= fun _ => fin ((Txt.split a b).map D.str)
  | _, _ => stuck
/-- what is laid new: a list that stays, or one of the store's -/
def NewL (c : Cn) (fin : List D → M D) : Prop := ∀ (φ : Phi) (μ : Mem) (H : Hp) (ds : List D) (vs : List V) (Q : VK) (E : XW) (p : Addr), WOk c φ μ H → RepL c φ H ds vs → H p = none → wpM c (Rep c) (fin ds) φ μ H Q E → Q (.ref p) (upd H p (.lst vs))
theorem new_frz : NewL c frzL := fun φ μ H ds vs Q E p w r np h => wp_pureL h (Later.laid w np) (w.laid np) (lst_new w np r)
theorem new_new : NewL c newL := fun φ μ H ds vs Q E p w r np h => wp_newL h w r np
theorem mv_split {fin : List D → M D} (hf : NewL c fin) : MtV X c "str.split" (splitM fin) := ⟨_, mt_split, fun φ μ H x xs vx vs Q E w r1 r2 h => by
  unfold splitM at h
  split at h
  · obtain ⟨v, rfl, r0⟩ := repL1 r2
    obtain ⟨hz, h⟩ := wp_ask h
    rw [Bool.and_eq_true, Bool.not_eq_true'] at hz
    exact ⟨_, _, rep_str r1, by rw [rep_str r0], hz.1, of_decide_eq_true hz.2, fun p np => hf _ _ _ _ _ _ _ _ w of_strs np h⟩
  · exact wp_stuck h⟩
def joinS (x : D) (xs : List D) : M D := match x, xs with
  | .str a, [y] => seqOf y >>= fun ys => match strsOf ys with
    | some zs => ask (decide ((zs.map (·.length)).sum + zs.length * a.length ≤ 16777216)) >>= fun _ => pure (.str (Txt.join a zs))
    | none => stuck
  | _, _ => stuck
theorem wp_seqOf {α β : Type} {R : Phi → Hp → α → β → Prop} {d : D} {v : V} {k : List D → M α} {Q : β → Hp → Prop} {E : XW} (h : wpM c R (seqOf d >>= k) φ μ H Q E) (w : WOk c φ μ H) (r : Rep c φ H d v) :
    ∃ xs a vs, v = .ref a ∧ (SqL c.K H a vs ∨ SqT c.K H a vs) ∧ RepL c φ H xs vs ∧ wpM c R (k xs) φ μ H Q E := by
  have lists : wpM c R (readL d >>= k) φ μ H Q E → ∃ xs a vs, v = .ref a ∧ (SqL c.K H a vs ∨ SqT c.K H a vs) ∧ RepL c φ H xs vs ∧ wpM c R (k xs) φ μ H Q E := fun h => by
    obtain ⟨xs, a, vs, rfl, hs, rl, h⟩ := wp_readL h w r
    exact ⟨xs, a, vs, rfl, .inl (.inl hs), rl, h⟩
  cases d with
  | tup xs =>
    obtain ⟨a, vs, rfl, hs, rl⟩ := rep_tup r
    exact ⟨xs, a, vs, rfl, .inr hs, rl, h⟩
  | _ => exact lists h
theorem mv_join (hK : X.K = c.K) : MtV X c "str.join" joinS := ⟨_, mt_join, fun φ μ H x xs vx vs Q E w r1 r2 h => by
  unfold joinS at h
  split at h
  · obtain ⟨v, rfl, r0⟩ := repL1 r2
    obtain ⟨ys, a, us, rfl, hs, rl, h⟩ := wp_seqOf h w r0
    split at h
    · rename_i zs hzs
      obtain ⟨hz, h⟩ := wp_ask h
      have e := strs_of rl hzs
      rw [e] at hs
      rw [hK]
      exact ⟨_, a, zs, rep_str r1, rfl, hs, of_decide_eq_true hz, wp_pure h w of_str⟩
    · exact wp_stuck h
  · exact wp_stuck h⟩
/-! #### sum, max, min, sorted -/
def sumD : List D → M D
  | [d] => readL d >>= fun xs => match intsOf xs with
    | some ns => pure (.int ns.sum)
    | none => stuck
  | _ => stuck
theorem cv_sum (hK : X.K = c.K) (hc : X.calm = true) : CallV X c (.builtin "sum") sumD := ⟨_, cr_sum hc, fun φ μ H ds vs Q E w r h => by
  rw [hK]
  unfold sumD at h
  split at h
  · obtain ⟨v, rfl, r0⟩ := repL1 r
    obtain ⟨xs, a, us, rfl, hs, rl, h⟩ := wp_readL h w r0
    split at h
    · rename_i ns hn
      have e := ints_of rl hn
      exact ⟨a, ns, rfl, .inl (e ▸ hs), wp_pure h w of_int⟩
    · exact wp_stuck h
  · exact wp_stuck h⟩
def maxL : List Int → Int
  | [] => 0
  | [x] => x
  | x :: r => max x (maxL r)
def minL : List Int → Int
  | [] => 0
  | [x] => x
  | x :: r => min x (minL r)
theorem maxL_max : ∀ {ns : List Int} {m : Int}, m ∈ ns → (∀ y, y ∈ ns → y ≤ m) → m = maxL ns
  | [], m, h, _ => nomatch h
  | [x], m, h, _ => by simp at h; rw [h]; rfl
  | x :: y :: r, m, h, k => by
    show m = max x (maxL (y :: r))
    have key : ∀ l : List Int, l ≠ [] → maxL l ∈ l := by
      intro l
      induction l with
      | nil => exact fun z => absurd rfl z
      | cons a l ih =>
        intro _
        cases l with
        | nil => exact List.mem_cons_self
        | cons b l =>
          show max a (maxL (b :: l)) ∈ _
          have := ih (by simp)
          rcases Int.le_total a (maxL (b :: l)) with z | z
          · rw [Int.max_eq_right z]; exact List.mem_cons_of_mem _ this
          · rw [Int.max_eq_left z]; exact List.mem_cons_self
    have k2 := k _ (List.mem_cons_of_mem _ (key (y :: r) (by simp)))
    have k1 := k x List.mem_cons_self
    rcases List.mem_cons.mp h with z | z
    · rw [z] at k2 ⊢; rw [Int.max_eq_left k2]
    · have := maxL_max z fun a ha => k a (List.mem_cons_of_mem _ ha)
      rw [← this, Int.max_eq_right k1]
theorem minL_min : ∀ {ns : List Int} {m : Int}, m ∈ ns → (∀ y, y ∈ ns → m ≤ y) → m = minL ns
  | [], m, h, _ => nomatch h
  | [x], m, h, _ => by simp at h; rw [h]; rfl
  | x :: y :: r, m, h, k => by
    show m = min x (minL (y :: r))
    have key : ∀ l : List Int, l ≠ [] → minL l ∈ l := by
      intro l
      induction l with
      | nil => exact fun z => absurd rfl z
      | cons a l ih =>
        intro _
        cases l with
        | nil => exact List.mem_cons_self
        | cons b l =>
          show min a (minL (b :: l)) ∈ _
          have := ih (by simp)
          rcases Int.le_total a (minL (b :: l)) with z | z
          · rw [Int.min_eq_left z]; exact List.mem_cons_self
          · rw [Int.min_eq_right z]; exact List.mem_cons_of_mem _ this
    have k2 := k _ (List.mem_cons_of_mem _ (key (y :: r) (by simp)))
    have k1 := k x List.mem_cons_self
    rcases List.mem_cons.mp h with z | z
    · rw [z] at k2 ⊢; rw [Int.min_eq_left k2]
    · have := minL_min z fun a ha => k a (List.mem_cons_of_mem _ ha)
      rw [← this, Int.min_eq_right k1]
def maxD : List D → M D
  | [d] => readL d >>= fun xs => match intsOf xs with
    | some ns => ask (!ns.isEmpty) >>= fun _ => pure (.int (maxL ns))
    | none => stuck
  | ds => max2D ds
def minD : List D → M D
  | [d] => readL d >>= fun xs => match intsOf xs with
    | some ns => ask (!ns.isEmpty) >>= fun _ => pure (.int (minL ns))
    | none => stuck
  | ds => min2D ds
theorem cv_max (hK : X.K = c.K) (hc : X.calm = true) : CallV X c (.builtin "max") maxD := by
  refine (cv_max2 hc).or (cr_max hc) fun φ μ H ds vs Q E w r h => ?_
  rw [hK]
  unfold maxD at h
  split at h
  · obtain ⟨v, rfl, r0⟩ := repL1 r
    obtain ⟨xs, a, us, rfl, hs, rl, h⟩ := wp_readL h w r0
    split at h
    · rename_i ns hn
      have e := ints_of rl hn
      obtain ⟨hz, h⟩ := wp_ask h
      refine .inl ⟨a, ns, rfl, .inl (e ▸ hs), ?_, fun m h1 h2 => by rw [maxL_max h1 h2]; exact wp_pure h w of_int⟩
      cases ns with
      | nil => cases hz
      | cons => simp
    · exact wp_stuck h
  · exact .inr h
theorem cv_min (hK : X.K = c.K) (hc : X.calm = true) : CallV X c (.builtin "min") minD := by
  refine (cv_min2 hc).or (cr_min hc) fun φ μ H ds vs Q E w r h => ?_
  rw [hK]
  unfold minD at h
  split at h
  · obtain ⟨v, rfl, r0⟩ := repL1 r
    obtain ⟨xs, a, us, rfl, hs, rl, h⟩ := wp_readL h w r0
    split at h
    · rename_i ns hn
      have e := ints_of rl hn
      obtain ⟨hz, h⟩ := wp_ask h
      refine .inl ⟨a, ns, rfl, .inl (e ▸ hs), ?_, fun m h1 h2 => by rw [minL_min h1 h2]; exact wp_pure h w of_int⟩
      cases ns with
      | nil => cases hz
      | cons => simp
    · exact wp_stuck h
  · exact .inr h
def sortI (ns : List Int) : List Int := ns.mergeSort fun a b => decide (a ≤ b)
theorem sortI_perm (ns : List Int) : (sortI ns).Perm ns := List.mergeSort_perm ..
theorem sortI_le (ns : List Int) : (sortI ns).Pairwise (· ≤ ·) := by
  have := List.pairwise_mergeSort (le := fun a b : Int => decide (a ≤ b)) (fun a b c h1 h2 => by simp only [decide_eq_true_eq] at *; omega) (fun a b => by simp only [Bool.or_eq_true, decide_eq_true_eq]; omega) ns
  exact this.imp fun h => of_decide_eq_true h
theorem sortI_eq {ns ms : List Int} (h : ms.Perm ns) (k : ms.Pairwise (· ≤ ·)) : ms = sortI ns :=
  (h.trans (sortI_perm ns).symm).eq_of_pairwise (le := (· ≤ ·)) (fun a b _ _ h1 h2 => Int.le_antisymm h1 h2) k (sortI_le ns)
def sortD (fin : List D → M D) : List D → M D
  | [d] => readL d >>= fun xs => match intsOf xs with
    | some ns => ask (decide (ns.length < 64)) >>= fun _ => fin ((sortI ns).map D.int)
    | none => stuck
  | _ => stuck
theorem cv_sorted {fin : List D → M D} (hf : NewL c fin) (hK : X.K = c.K) : CallV X c (.builtin "sorted") (sortD fin) := ⟨_, cr_sorted, fun φ μ H ds vs Q E w r h => by
  rw [hK]
  unfold sortD at h
  split at h
  · obtain ⟨v, rfl, r0⟩ := repL1 r
    obtain ⟨xs, a, us, rfl, hs, rl, h⟩ := wp_readL h w r0
    split at h
    · rename_i ns hn
      have e := ints_of rl hn
      obtain ⟨hz, h⟩ := wp_ask h
      exact ⟨a, ns, rfl, .inl (e ▸ hs), of_decide_eq_true hz, fun ns' p h1 h2 np => by rw [sortI_eq h1 h2]; exact hf _ _ _ _ _ _ _ _ w of_ints np h⟩
    · exact wp_stuck h
  · exact wp_stuck h⟩
def ordD : List D → M D
  | [.str z] => ask (z.length == 1) >>= fun _ => pure (.int (z.cps.getD 0 0 : Nat))
  | _ => stuck
theorem cv_ord : CallV X c (.builtin "ord") ordD := ⟨_, call_ord, fun φ μ H ds vs Q E w r h => by
  unfold ordD at h
  split at h
  · obtain ⟨v, rfl, r0⟩ := repL1 r
    obtain ⟨hz, h⟩ := wp_ask h
    exact ⟨_, by rw [rep_str r0], eq_of_beq hz, wp_pure h w of_int⟩
  · exact wp_stuck h⟩
end
end VL

namespace VL
open PySem PySem.Spec PyProof.Rows L2 LamX OwA
/-! ### dicts -/
section
variable {X : Cx} {c : Cn} {W : WX} {φ φ' : Phi} {H H' : Hp} {μ μ' : Mem} {e : Expr} {es : List Expr} {f g h : Env → M D} {fl : Env → M (List D)} {pos : Pos}
def readDK : D → M (List Key × List D)
  | .dct ks ds => pure (ks, ds)
  | .ptr k => fun μ => match μ[k]? with
    | some (.dct ks ds) => .ok (ks, ds) μ
    | _ => .stuck
  | _ => stuck
theorem wp_readDK {α β : Type} {R : Phi → Hp → α → β → Prop} {d : D} {v : V} {k : List Key × List D → M α} {Q : β → Hp → Prop} {E : XW} (h : wpM c R (readDK d >>= k) φ μ H Q E) (w : WOk c φ μ H) (r : Rep c φ H d v) :
    ∃ ks ds a vs, v = .ref a ∧ Rd H a (.dK (ks.zip vs)) ∧ ks.length = vs.length ∧ RepL c φ H ds vs ∧ wpM c R (k (ks, ds)) φ μ H Q E := by
  cases d with
  | dct ks ds =>
    simp only [Rep] at r
    obtain ⟨a, vs, rfl, hs, _, hl, rl⟩ := r
    exact ⟨ks, ds, a, vs, rfl, hs, hl, rl, h⟩
  | ptr i =>
    simp only [Rep] at r
    obtain ⟨e, hi, rfl⟩ := r
    obtain ⟨x, hx, hc⟩ := w.cell i e hi
    have e1 : (readDK (.ptr i) >>= k) μ = M.bind (readDK (.ptr i)) k μ := rfl
    unfold wpM at h
    rw [e1] at h
    unfold M.bind readDK at h
    simp only [hx] at h
    cases x with
    | lst xs => exact h.elim
    | dct ks ds =>
      obtain ⟨_, vs, hv, hl, rl⟩ := hc
      exact ⟨ks, ds, e.1, vs, rfl, .inl hv, hl, rl, h⟩
  | _ => exact wp_stuck (α := α) (R := R) h
def keyOf : D → Option Key
  | .int i => some (.inl i)
  | .str z => some (.inr z)
  | _ => none
theorem key_rep {d : D} {v : V} {k : Key} (r : Rep c φ H d v) (h : keyOf d = some k) : v = kV k := by
  cases d <;> cases h
  · exact rep_int r
  · exact rep_str r
def keyD : Key → D
  | .inl i => .int i
  | .inr z => .str z
theorem of_key {k : Key} : Rep c φ H (keyD k) (kV k) := by
  cases k
  · exact of_int
  · exact of_str
/-- what stands under a key -/
def getK (ks : List Key) (ds : List D) (k : Key) : Option D := match ks, ds with
  | a :: ks, d :: ds => if a = k then some d else getK ks ds k
  | _, _ => none
theorem getK_rel : ∀ {ks : List Key} {ds : List D} {vs : List V} {k : Key}, ks.length = vs.length → RepL c φ H ds vs → (∀ d, getK ks ds k = some d → ∃ v, valV (ks.zip vs) k = some v ∧ Rep c φ H d v) ∧ (getK ks ds k = none → valV (ks.zip vs) k = none)
  | [], ds, vs, k, hl, r => by
    refine ⟨fun d h => ?_, fun _ => rfl⟩
    unfold getK at h; cases h
  | a :: ks, [], vs, k, hl, r => by simp only [RepL] at r; subst r; simp at hl
  | a :: ks, d :: ds, vs, k, hl, r => by
    simp only [RepL] at r
    obtain ⟨v, rest, rfl, r1, r2⟩ := r
    have ih := getK_rel (k := k) (by simpa using hl) r2
    by_cases e : a = k
    · refine ⟨fun d' h => ?_, fun h => ?_⟩
      · unfold getK at h
        rw [if_pos e] at h
        cases h
        exact ⟨v, valV_pos (p := (a, v)) e, r1⟩
      · unfold getK at h
        rw [if_pos e] at h
        cases h
    · have q : getK (a :: ks) (d :: ds) k = getK ks ds k := by
        show (if a = k then _ else _) = _
        rw [if_neg e]
      rw [q]
      have q2 : valV ((a :: ks).zip (v :: rest)) k = valV (ks.zip rest) k := valV_neg (p := (a, v)) e
      rw [q2]
      exact ih
def hasK (ks : List Key) (k : Key) : Bool := ks.any fun a => decide (a = k)
def putKs (ks : List Key) (k : Key) : List Key := if hasK ks k = true then ks else ks ++ [k]
def putVs {α : Type} (ks : List Key) (xs : List α) (k : Key) (x : α) : List α := if hasK ks k = true then List.zipWith (fun k' y => if k' = k then x else y) ks xs else xs ++ [x]
theorem putK_zip {ks : List Key} {vs : List V} {k : Key} {v : V} (hl : ks.length = vs.length) : putK (ks.zip vs) k v = (putKs ks k).zip (putVs ks vs k v) ∧ (putKs ks k).length = (putVs ks vs k v).length := by
  have any : ((ks.zip vs).any fun kv => decide (kv.1 = k)) = hasK ks k := by
    have : ∀ (ks : List Key) (vs : List V), ks.length = vs.length → ((ks.zip vs).any fun kv => decide (kv.1 = k)) = hasK ks k := by
      intro ks
      induction ks with
      | nil => intro vs _; rfl
      | cons a ks ih =>
        intro vs hl
        cases vs with
        | nil => simp at hl
        | cons b vs =>
          rw [List.zip_cons_cons, List.any_cons, ih vs (by simpa using hl)]
          rfl
    exact this ks vs hl
  unfold putK putKs putVs
  rw [any]
  by_cases hk : hasK ks k = true
  · rw [if_pos hk, if_pos hk, if_pos hk]
    refine ⟨?_, by rw [List.length_zipWith, hl]; simp⟩
    have : ∀ (ks : List Key) (vs : List V), ks.length = vs.length → (ks.zip vs).map (fun kv => if kv.1 = k then (kv.1, v) else kv) = ks.zip (List.zipWith (fun k' y => if k' = k then v else y) ks vs) := by
      intro ks
      induction ks with
      | nil => intro vs _; simp
      | cons a ks ih =>
        intro vs hl
        cases vs with
        | nil => simp at hl
        | cons b vs =>
          simp only [List.zip_cons_cons, List.map_cons, List.zipWith_cons_cons, ih vs (by simpa using hl)]
          by_cases e : a = k
          · simp [e]
          · simp [e]
    exact this ks vs hl
  · rw [if_neg hk, if_neg hk, if_neg hk]
    refine ⟨?_, by simp [hl]⟩
    rw [List.zip_append hl]
    rfl
theorem putVs_rel {ks : List Key} {ds : List D} {vs : List V} {k : Key} {d : D} {v : V} (hl : ks.length = vs.length) (r : RepL c φ H ds vs) (rd : Rep c φ H d v) : RepL c φ H (putVs ks ds k d) (putVs ks vs k v) := by
  unfold putVs
  by_cases hk : hasK ks k = true
  · rw [if_pos hk, if_pos hk]
    have : ∀ (ks : List Key) (ds : List D) (vs : List V), ks.length = vs.length → RepL c φ H ds vs → RepL c φ H (List.zipWith (fun k' y => if k' = k then d else y) ks ds) (List.zipWith (fun k' y => if k' = k then v else y) ks vs) := by
      intro ks
      induction ks with
      | nil => intro ds vs _ _; simp [RepL]
      | cons a ks ih =>
        intro ds vs hl r
        cases ds with
        | nil => simp only [RepL] at r; subst r; simp at hl
        | cons x ds =>
          simp only [RepL] at r
          obtain ⟨y, rest, rfl, r1, r2⟩ := r
          simp only [List.zipWith_cons_cons, RepL]
          refine ⟨_, _, rfl, ?_, ih ds rest (by simpa using hl) r2⟩
          by_cases e : a = k
          · rw [if_pos e, if_pos e]; exact rd
          · rw [if_neg e, if_neg e]; exact r1
    exact this ks ds vs hl r
  · rw [if_neg hk, if_neg hk]
    exact r.app (RepL.one rd)
/-- {} -/
def newDK (ks : List Key) (ds : List D) : M D := fun μ => .ok (.ptr μ.length) (μ ++ [.dct ks ds])
theorem wp_newDK {ks : List Key} {ds : List D} {vs : List V} {Q : VK} {E : XW} (h : wpM c (Rep c) (newDK ks ds) φ μ H Q E) (w : WOk c φ μ H) (hl : ks.length = vs.length) (r : RepL c φ H ds vs) {p : Addr} (n : H p = none) : Q (.ref p) (upd H p (.dK (ks.zip vs))) := by
  refine h (φ.push p) _ (.ref p) (later_push w n) (wok_push w n ⟨rfl, vs, upd_same, hl, r.later (keep_push n .refl)⟩) ?_
  simp only [Rep]
  exact ⟨(p, p), by rw [← w.len]; exact push_at, rfl⟩
theorem ve_dnew : VE X c W (.Dict [] [] pos) (fun _ => newDK [] []) := ⟨PE.weak pe_dnewK fun σ H Q q => by
  obtain ⟨φ, μ, ρ, w, he, h⟩ := q
  exact fun p np => wp_newDK (vs := []) h w rfl (by simp only [RepL]) np⟩
/-- an empty dict that stays -/
theorem ve_dnewF : VE X c W (.Dict [] [] pos) (fun _ => pure (.dct [] [])) := ⟨PE.weak pe_dnewK fun σ H Q q => by
  obtain ⟨φ, μ, ρ, w, he, h⟩ := q
  refine fun p np => wp_pureL h (Later.laid w np) (w.laid np) ?_
  simp only [Rep]
  exact ⟨p, [], rfl, .inl upd_same, w.new np, rfl, by simp only [RepL]⟩⟩
/-- d[k] -/
def dGetM (x y : D) : M D := match keyOf y with
  | some k => readDK x >>= fun p => match getK p.1 p.2 k with
    | some d => pure d
    | none => stuck
  | none => stuck
theorem ve_dix {a b : Expr} (hu : X.A.units + 1 < cLine) (ha : VE X c W a f) (hb : VE X c W b g) (hs : NoSl b) : VE X c W (.Subscript a b pos) (fun ρ => f ρ >>= fun x => g ρ >>= fun y => dGetM x y) := ⟨PE.weak (pe_dget hu ha.pe hb.pe hs) fun σ H Q q => by
  obtain ⟨φ, μ, ρ, w, he, h⟩ := q
  refine ⟨φ, μ, ρ, w, he, wp_mono (wp_bind h) fun x H1 z => ?_⟩
  obtain ⟨φ1, μ1, d1, L1, w1, r1, h1⟩ := z
  refine ⟨φ1, μ1, ρ, w1, he.later L1, wp_mono (wp_bind h1) fun y H2 z => ?_⟩
  obtain ⟨φ2, μ2, d2, N2, w2, r2, h2⟩ := z
  unfold dGetM at h2
  split at h2
  · rename_i k hk
    obtain ⟨ks, ds, a, vs, ex, hr, hl, rl, h2⟩ := wp_readDK h2 w2 (r1.later N2.toKeep)
    cases hg : getK ks ds k with
    | none => simp only [hg] at h2; exact wp_stuck h2
    | some d =>
      simp only [hg] at h2
      obtain ⟨v, hv, rv⟩ := (getK_rel hl rl).1 d hg
      exact ⟨a, v, ex, .inl ⟨_, k, hr, key_rep r2 hk, hv.symm⟩, wp_pure h2 w2 rv⟩
  · exact wp_stuck h2⟩
/-- d.get(k), d.get(k, x) -/
def dGetD (x y z : D) : M D := match keyOf y with
  | some k => readDK x >>= fun p => match getK p.1 p.2 k with
    | some d => pure d
    | none => pure z
  | none => stuck
def isDM (x : D) : M Unit := readDK x >>= fun _ => pure ()
theorem ve_dget1 {o a : Expr} {apos : Pos} (hu : X.A.units + 1 < cLine) (ho : VE X c W o f) (ha : VE X c W a g) (m : M1 X o "get" apos a pos) : VE X c W (.Call (.Attribute o "get" apos) [a] [] pos) (fun ρ => f ρ >>= fun x => isDM x >>= fun _ => g ρ >>= fun y => dGetD x y .non) := ⟨PE.weak (pe_dget1 hu ho.pe ha.pe m) fun σ H Q q => by
  obtain ⟨φ, μ, ρ, w, he, h⟩ := q
  refine ⟨φ, μ, ρ, w, he, wp_mono (wp_bind h) fun x H1 z => ?_⟩
  obtain ⟨φ1, μ1, d1, L1, w1, r1, h1⟩ := z
  unfold isDM at h1
  rw [M.assoc] at h1
  obtain ⟨ks0, ds0, a, vs0, rfl, hr0, _, _, h1⟩ := wp_readDK h1 w1 r1
  refine ⟨a, rfl, .inl ⟨_, hr0⟩, φ1, μ1, ρ, w1, he.later L1, wp_mono (wp_bind h1) fun y H2 z => ?_⟩
  obtain ⟨φ2, μ2, d2, N2, w2, r2, h2⟩ := z
  unfold dGetD at h2
  split at h2
  · rename_i k hk
    obtain ⟨ks, ds, a2, vs, ex, hr, hl, rl, h2⟩ := wp_readDK h2 w2 (r1.later N2.toKeep)
    cases ex
    cases hg : getK ks ds k with
    | none =>
      simp only [hg] at h2
      exact ⟨none, .inl ⟨_, k, hr, key_rep r2 hk, ((getK_rel hl rl).2 hg).symm⟩, wp_pure h2 w2 of_non⟩
    | some d =>
      simp only [hg] at h2
      obtain ⟨v, hv, rv⟩ := (getK_rel hl rl).1 d hg
      exact ⟨some v, .inl ⟨_, k, hr, key_rep r2 hk, hv.symm⟩, wp_pure h2 w2 rv⟩
  · exact wp_stuck h2⟩
theorem ve_dget2 {o a b : Expr} {apos : Pos} (hu : X.A.units + 1 < cLine) (ho : VE X c W o f) (ha : VE X c W a g) (hb : VE X c W b h) (m : M2 X o "get" apos a b pos) : VE X c W (.Call (.Attribute o "get" apos) [a, b] [] pos) (fun ρ => f ρ >>= fun x => isDM x >>= fun _ => g ρ >>= fun y => h ρ >>= fun z => dGetD x y z) := ⟨PE.weak (pe_dget2 hu ho.pe ha.pe hb.pe m) fun σ H Q q => by
  obtain ⟨φ, μ, ρ, w, he, h⟩ := q
  refine ⟨φ, μ, ρ, w, he, wp_mono (wp_bind h) fun x H1 z => ?_⟩
  obtain ⟨φ1, μ1, d1, L1, w1, r1, h1⟩ := z
  unfold isDM at h1
  rw [M.assoc] at h1
  obtain ⟨ks0, ds0, a, vs0, rfl, hr0, _, _, h1⟩ := wp_readDK h1 w1 r1
  refine ⟨a, rfl, .inl ⟨_, hr0⟩, φ1, μ1, ρ, w1, he.later L1, wp_mono (wp_bind h1) fun y H2 z => ?_⟩
  obtain ⟨φ2, μ2, d2, N2, w2, r2, h2⟩ := z
  refine ⟨φ2, μ2, ρ, w2, (he.later L1).later N2, wp_mono (wp_bind h2) fun u H3 z => ?_⟩
  obtain ⟨φ3, μ3, d3, N3, w3, r3, h3⟩ := z
  unfold dGetD at h3
  split at h3
  · rename_i k hk
    obtain ⟨ks, ds, a2, vs, ex, hr, hl, rl, h3⟩ := wp_readDK h3 w3 ((r1.later N2.toKeep).later N3.toKeep)
    cases ex
    have ky := key_rep (r2.later N3.toKeep) hk
    cases hg : getK ks ds k with
    | none =>
      simp only [hg] at h3
      exact ⟨none, .inl ⟨_, k, hr, ky, ((getK_rel hl rl).2 hg).symm⟩, wp_pure h3 w3 r3⟩
    | some d =>
      simp only [hg] at h3
      obtain ⟨v, hv, rv⟩ := (getK_rel hl rl).1 d hg
      exact ⟨some v, .inl ⟨_, k, hr, ky, hv.symm⟩, wp_pure h3 w3 rv⟩
  · exact wp_stuck h3⟩
/-- k in d -/
def dInD (y x : D) : M Bool := match keyOf y with
  | some k => readDK x >>= fun p => pure (getK p.1 p.2 k).isSome
  | none => stuck
theorem dinR {σ : L2.St} {H : Hp} {Q : VK} (p : Bool → Bool) (q : tV c W (fun ρ => f ρ >>= fun y => g ρ >>= fun x => dInD y x >>= fun b => pure (D.bl (p b))) σ H Q) :
    tV c W f σ H fun y H1 => tV c W g σ H1 fun x H2 => ∃ a o, x = .ref a ∧ DGet H2 a y o ∧ Q (.bl (p o.isSome)) H2 := by
  obtain ⟨φ, μ, ρ, w, he, h⟩ := q
  refine ⟨φ, μ, ρ, w, he, wp_mono (wp_bind h) fun y H1 z => ?_⟩
  obtain ⟨φ1, μ1, d1, L1, w1, r1, h1⟩ := z
  refine ⟨φ1, μ1, ρ, w1, he.later L1, wp_mono (wp_bind h1) fun x H2 z => ?_⟩
  obtain ⟨φ2, μ2, d2, N2, w2, r2, h2⟩ := z
  unfold dInD at h2
  split at h2
  · rename_i k hk
    rw [M.assoc] at h2
    obtain ⟨ks, ds, a, vs, ex, hr, hl, rl, h2⟩ := wp_readDK h2 w2 r2
    have ky := key_rep (r1.later N2.toKeep) hk
    cases hg : getK ks ds k with
    | none =>
      simp only [hg] at h2
      exact ⟨a, none, ex, .inl ⟨_, k, hr, ky, ((getK_rel hl rl).2 hg).symm⟩, wp_pure (b := V.bl (p false)) h2 w2 of_bl⟩
    | some d =>
      simp only [hg] at h2
      obtain ⟨v, hv, rv⟩ := (getK_rel hl rl).1 d hg
      exact ⟨a, some v, ex, .inl ⟨_, k, hr, ky, hv.symm⟩, wp_pure (b := V.bl (p true)) h2 w2 of_bl⟩
  · exact wp_stuck h2
theorem ve_din {a b : Expr} (hu : X.A.units + 1 < cLine) (ha : VE X c W a f) (hb : VE X c W b g) (hm : behindInMarks .In b = false) : VE X c W (.Compare a [.In] [b] pos) (fun ρ => f ρ >>= fun y => g ρ >>= fun x => dInD y x >>= fun b => pure (D.bl b)) :=
  ⟨PE.weak (pe_cmp (pc_din hu ha.pe hb.pe) hm) fun σ H Q q => dinR (fun b => b) q⟩
theorem ve_dnin {a b : Expr} (hu : X.A.units + 1 < cLine) (ha : VE X c W a f) (hb : VE X c W b g) (hm : behindInMarks .NotIn b = false) : VE X c W (.Compare a [.NotIn] [b] pos) (fun ρ => f ρ >>= fun y => g ρ >>= fun x => dInD y x >>= fun b => pure (D.bl (!b))) :=
  ⟨PE.weak (pe_cmp (pc_dnotin hu ha.pe hb.pe) hm) fun σ H Q q => dinR (fun b => !b) q⟩
theorem vt_din {a b : Expr} (hu : X.A.units + 1 < cLine) (ha : VE X c W a f) (hb : VE X c W b g) (hm : behindInMarks .In b = false) : VT X c W (.Compare a [.In] [b] pos) (fun ρ => (f ρ >>= fun y => g ρ >>= fun x => dInD y x >>= fun b => pure (D.bl b)) >>= asB) :=
  ⟨PT.weak (pt_cmp (pc_din hu ha.pe hb.pe) hm) fun σ H Q q => dinR (W := W) (f := f) (g := g) (fun b => b) (tT_of σ H Q q)⟩
theorem vt_dnin {a b : Expr} (hu : X.A.units + 1 < cLine) (ha : VE X c W a f) (hb : VE X c W b g) (hm : behindInMarks .NotIn b = false) : VT X c W (.Compare a [.NotIn] [b] pos) (fun ρ => (f ρ >>= fun y => g ρ >>= fun x => dInD y x >>= fun b => pure (D.bl (!b))) >>= asB) :=
  ⟨PT.weak (pt_cmp (pc_dnotin hu ha.pe hb.pe) hm) fun σ H Q q => dinR (W := W) (f := f) (g := g) (fun b => !b) (tT_of σ H Q q)⟩
/-- f of the dict that lies at d -/
def modD {α : Type} (d : D) (f : List Key → List D → Option (List Key × List D × α)) : M α := match d with
  | .ptr k => fun μ => match μ[k]? with
    | some (.dct ks xs) => match f ks xs with
      | some (ks', ys, a) => .ok a (μ.set k (.dct ks' ys))
      | none => .stuck
    | _ => .stuck
  | _ => stuck
theorem wp_modD {α β γ : Type} {R : Phi → Hp → γ → β → Prop} {d : D} {v : V} {f : List Key → List D → Option (List Key × List D × α)} {k : α → M γ} {Q : β → Hp → Prop} {E : XW} (h : wpM c R (modD d f >>= k) φ μ H Q E) (w : WOk c φ μ H) (r : Rep c φ H d v) :
    ∃ l ks xs vs ks' ys a, v = .ref l ∧ H l = some (.dK (ks.zip vs)) ∧ ks.length = vs.length ∧ RepL c φ H xs vs ∧ f ks xs = some (ks', ys, a) ∧ ∀ ws, ks'.length = ws.length → RepL c φ H ys ws → ∃ μ', Later φ H φ (upd H l (.dK (ks'.zip ws))) ∧ WOk c φ μ' (upd H l (.dK (ks'.zip ws))) ∧ wpM c R (k a) φ μ' (upd H l (.dK (ks'.zip ws))) Q E := by
  cases d with
  | ptr i =>
    simp only [Rep] at r
    obtain ⟨e, hi, rfl⟩ := r
    obtain ⟨x, hx, hc⟩ := w.cell i e hi
    have e1 : (modD (.ptr i) f >>= k) μ = M.bind (modD (.ptr i) f) k μ := rfl
    unfold wpM at h
    rw [e1] at h
    unfold M.bind modD at h
    simp only [hx] at h
    cases x with
    | lst xs => exact h.elim
    | dct ks xs =>
      simp only at h
      cases hf : f ks xs with
      | none => rw [hf] at h; exact h.elim
      | some p =>
        obtain ⟨ks', ys, a⟩ := p
        rw [hf] at h
        simp only at h
        obtain ⟨hc1, vs, hv, hl, rl⟩ := hc
        refine ⟨e.1, ks, xs, vs, ks', ys, a, rfl, hv, hl, rl, hf, fun ws hw r => ?_⟩
        have L : Later φ H φ (upd H e.1 (.dK (ks'.zip ws))) := put_later w hi
        have w' := put_ok (o := .dK (ks'.zip ws)) (y := .dct ks' ys) w hi hx ⟨hc1, ws, upd_same, hw, r.later L.toKeep⟩
        refine ⟨_, L, w', ?_⟩
        unfold wpM
        cases hk : k a (μ.set i (.dct ks' ys)) with
        | ok b μ2 => rw [hk] at h; exact fun φ2 H2 b2 L2 w2 r2 => h φ2 H2 b2 (L.trans L2) w2 r2
        | exn b μ2 => rw [hk] at h; exact fun φ2 H2 k2 d2 L2 w2 r2 => h φ2 H2 k2 d2 (L.trans L2) w2 r2
        | stuck => rw [hk] at h; exact h
  | _ => exact wp_stuck (α := γ) (R := R) h
def putDK (k : Key) (d : D) (ks : List Key) (xs : List D) : Option (List Key × List D × Unit) := if ks.length < sizeLine then some (putKs ks k, putVs ks xs k d, ()) else none
/-- d[k] = v -/
def gIxD (f g : Env → M D) (d : D) (ρ : Env) : M Env := noX (f ρ) >>= fun x => noX (g ρ) >>= fun y => match keyOf y with
  | some k => modD x (putDK k d) >>= fun _ => pure ρ
  | none => stuck
theorem vg_dix {o i : Expr} (hu : X.A.units + 1 < cLine) (ho : VE X c W0 o f) (hi : VE X c W0 i g) (hp : ∀ to ti, PE X o to → PE X i ti → PG X (.Subscript o i pos) (gSub to ti rSetD)) : VG X c (.Subscript o i pos) [] (gIxD f g) := by
  refine ⟨PG.weak (hp _ _ ho.pe hi.pe) fun v σ H R z => ?_⟩
  obtain ⟨φ, μ, ρ, d, w, he, r, h⟩ := z
  have h := wpT_M (E := wEx W0 σ) h
  refine ⟨φ, μ, ρ, w, he, wp_mono (wp_noXb (R := Rep c) h) fun x H1 z => ?_⟩
  obtain ⟨φ1, μ1, d1, L1, w1, r1, h1⟩ := z
  refine ⟨φ1, μ1, ρ, w1, he.later L1, wp_mono (wp_noXb (R := Rep c) h1) fun y H2 z => ?_⟩
  obtain ⟨φ2, μ2, d2, N2, w2, r2, h2⟩ := z
  split at h2
  · rename_i k hk
    obtain ⟨l, ks, xs, vs, ks', ys, a, ex, hv, hl, rl, hf, h⟩ := wp_modD h2 w2 (r1.later N2.toKeep)
    unfold putDK at hf
    split at hf
    · rename_i hz
      cases hf
      have rv := (r.later L1.toKeep).later N2.toKeep
      obtain ⟨e1, e2⟩ := putK_zip (k := k) (v := v) hl
      obtain ⟨μ', L, w', h⟩ := h (putVs ks vs k v) e2 (putVs_rel hl rl rv)
      refine ⟨l, _, ex, .inl ⟨_, k, hv, key_rep r2 hk, ?_, by rw [e1]⟩, wp_pure (b := σ) h w' (((he.later L1).later N2).later L) .refl⟩
      rw [List.length_zip, ← hl, Nat.min_self]; exact hz
    · cases hf
  · exact wp_stuck (α := Env) (β := L2.St) h2
/-- d.setdefault(k, x) -/
def setdefK (k : Key) (z : D) (ks : List Key) (xs : List D) : Option (List Key × List D × D) := match getK ks xs k with
  | some d => if ks.length < sizeLine then some (ks, xs, d) else none
  | none => if ks.length < sizeLine then some (putKs ks k, putVs ks xs k z, z) else none
def setdefM (x y z : D) : M D := match keyOf y with
  | some k => modD x (setdefK k z)
  | none => stuck
theorem upd_id {p : Addr} {o : HO} (h : H p = some o) : upd H p o = H := by
  funext b
  by_cases z : b = p
  · rw [z, upd_same, h]
  · rw [upd_ne z]
theorem ve_dsetd {o a b : Expr} {apos : Pos} (ho : VE X c W o f) (ha : VE X c W a g) (hb : VE X c W b h) (m : M2 X o "setdefault" apos a b pos) : VE X c W (.Call (.Attribute o "setdefault" apos) [a, b] [] pos) (fun ρ => f ρ >>= fun x => isDM x >>= fun _ => g ρ >>= fun y => h ρ >>= fun z => setdefM x y z) := ⟨PE.weak (pe_dsetd ho.pe ha.pe hb.pe m) fun σ H Q q => by
  obtain ⟨φ, μ, ρ, w, he, h⟩ := q
  refine ⟨φ, μ, ρ, w, he, wp_mono (wp_bind h) fun x H1 z => ?_⟩
  obtain ⟨φ1, μ1, d1, L1, w1, r1, h1⟩ := z
  unfold isDM at h1
  rw [M.assoc] at h1
  obtain ⟨ks0, ds0, a, vs0, rfl, hr0, _, _, h1⟩ := wp_readDK h1 w1 r1
  refine ⟨a, rfl, .inl ⟨_, hr0⟩, φ1, μ1, ρ, w1, he.later L1, wp_mono (wp_bind h1) fun y H2 z => ?_⟩
  obtain ⟨φ2, μ2, d2, N2, w2, r2, h2⟩ := z
  refine ⟨φ2, μ2, ρ, w2, (he.later L1).later N2, wp_mono (wp_bind h2) fun u H3 z => ?_⟩
  obtain ⟨φ3, μ3, d3, N3, w3, r3, h3⟩ := z
  unfold setdefM at h3
  split at h3
  · rename_i k hk
    have rx := (r1.later N2.toKeep).later N3.toKeep
    rw [← M.pure_bind (modD _ _)] at h3
    obtain ⟨l, ks, xs, vs, ks', ys, a2, ex, hv, hl, rl, hf, h3⟩ := wp_modD h3 w3 rx
    cases ex
    have ky := key_rep (r2.later N3.toKeep) hk
    unfold setdefK at hf
    cases hg : getK ks xs k with
    | some d =>
      simp only [hg] at hf
      split at hf
      · rename_i hz
        cases hf
        obtain ⟨v, hv2, rv⟩ := (getK_rel hl rl).1 _ hg
        obtain ⟨μ', L, w', h3⟩ := h3 vs hl rl
        rw [upd_id hv] at L w' h3
        refine ⟨_, k, hv, ky, by rw [List.length_zip, ← hl, Nat.min_self]; exact hz, fun v' e => ?_, fun e => ?_⟩
        · rw [hv2] at e
          cases e
          exact wp_pure h3 w' rv
        · rw [hv2] at e; cases e
      · cases hf
    | none =>
      simp only [hg] at hf
      split at hf
      · rename_i hz
        cases hf
        obtain ⟨e1, e2⟩ := putK_zip (k := k) (v := u) hl
        obtain ⟨μ', L, w', h3⟩ := h3 (putVs ks vs k u) e2 (putVs_rel hl rl r3)
        rw [← e1] at L w' h3
        refine ⟨_, k, hv, ky, by rw [List.length_zip, ← hl, Nat.min_self]; exact hz, fun v' e => ?_, fun _ => wp_pure h3 w' (r3.later L.toKeep)⟩
        rw [(getK_rel hl rl).2 hg] at e; cases e
      · cases hf
  · exact wp_stuck h3⟩
end
end VL

namespace VL
open PySem PySem.Spec PyProof.Rows L2 LamX OwA
/-! ### match over written texts -/
section
variable {X : Cx}
structure MCs (X : Cx) (cases : List MatchCase) (t : V → TS) : Prop where
  run : ∀ (first : Bool) (pins : List (Addr × Obj)) (s : Shared) (σ : L2.St) (H : Hp) (D : Ends) (v : V) (u : Value), Inv X pins σ H s → RelV v u → t v D σ H →
    wpAny (model X.prog X.w) X.A (matchCases cases X.env u first) (SP X pins D) X.xe s
theorem mcs_nil : MCs X [] (fun _ => tNext) := ⟨fun _ _ _ σ H _ _ _ I _ h => wpAny_matchCases_nil ⟨σ, H, I, h⟩⟩
/-- case "text": body -/
def tCase (x : Str) (tb : TS) (tr : V → TS) : V → TS := fun v D σ H => ∃ y, v = .str y ∧ if y = x then tb D σ H else tr v D σ H
theorem mcs_str {x : Str} {j : Nat} {p p2 : Pos} {body : List Stmt} {rest : List MatchCase} {tb : TS} {tr : V → TS} (hb : PSs X body tb) (hr : MCs X rest tr) :
    MCs X (⟨.MatchValue (.Constant (.str x) j p) p2, none, body⟩ :: rest) (tCase x tb tr) := by
  refine ⟨fun first pins s σ H D v u I r h => ?_⟩
  obtain ⟨y, rfl, h⟩ := h
  obtain ⟨tk, rfl⟩ := r
  refine wpAny_matchCases_cons (wpAny_matchPattern_Value (Calls.Constant_str ?_))
  refine eq_str (wpAny_truthy_bool ?_)
  by_cases e : y = x
  · rw [if_pos e] at h
    subst e
    rw [if_pos (by simp)]
    exact wpAny_assignInOrder_none (hb.run pins _ σ H D (I.tok _) h)
  · rw [if_neg e] at h
    rw [if_neg (by simpa using e)]
    exact hr.run false pins _ σ H D (.str y) _ (I.tok _) ⟨tk, rfl⟩ h
theorem ps_match {e : Expr} {cases : List MatchCase} {pos : Pos} {te : TE} {t : V → TS} (he : PE X e te) (hm : MCs X cases t) :
    PS X (.Match e cases pos) (fun D σ H => te σ H fun v H1 => t v D σ H1) := by
  refine ⟨fun pins s σ H D I h => ?_⟩
  exact wpAny_Match (thn (he.run pins s σ H _ I h) fun u s1 ⟨v, H1, I1, r1, q1⟩ => hm.run true pins s1 σ H1 D v u I1 r1 q1)
end
/-! ### match, more calls -/
section
variable {X : Cx} {c : Cn} {W : WX} {φ φ' : Phi} {H H' : Hp} {μ μ' : Mem} {e : Expr} {es : List Expr} {f g h : Env → M D} {fl : Env → M (List D)} {pos : Pos}
def tM (c : Cn) (W : WX) (m : D → Env → M VL.Flow) : V → TS := fun v D σ H => ∃ φ μ ρ d, WOk c φ μ H ∧ RepE c φ H ρ σ ∧ Rep c φ H d v ∧ wpS c (m d ρ) φ μ H D W
structure VM (X : Cx) (c : Cn) (W : WX) (cases : List MatchCase) (m : D → Env → M VL.Flow) : Prop where
  mc : MCs X cases (tM c W m)
theorem MCs.weak {cases : List MatchCase} {t t' : V → TS} (h : MCs X cases t) (i : ∀ v D σ H, t' v D σ H → t v D σ H) : MCs X cases t' := ⟨fun first pins s σ H D v u I r q => h.run first pins s σ H D v u I r (i _ _ _ _ q)⟩
def mNil (_ : D) (ρ : Env) : M VL.Flow := pure (.nx ρ)
def mStr (x : Str) (s : Env → M VL.Flow) (r : D → Env → M VL.Flow) (d : D) (ρ : Env) : M VL.Flow := match d with
  | .str y => if y = x then s ρ else r (.str y) ρ
  | _ => stuck
theorem vm_nil : VM X c W [] mNil := ⟨MCs.weak mcs_nil fun v D σ H h => by
  obtain ⟨φ, μ, ρ, d, w, he, r, h⟩ := h
  exact wpS_nx h w he⟩
theorem vm_str {x : Str} {j : Nat} {p p2 : Pos} {body : List Stmt} {rest : List MatchCase} {s : Env → M VL.Flow} {r : D → Env → M VL.Flow} (hb : VB X c W body s) (hr : VM X c W rest r) :
    VM X c W (⟨.MatchValue (.Constant (.str x) j p) p2, none, body⟩ :: rest) (mStr x s r) := ⟨MCs.weak (mcs_str hb.ps hr.mc) fun v D σ H h => by
  obtain ⟨φ, μ, ρ, d, w, he, r, h⟩ := h
  unfold mStr at h
  cases d with
  | str y =>
    refine ⟨y, rep_str r, ?_⟩
    by_cases e : y = x
    · rw [if_pos e]
      simp only [if_pos e] at h
      exact ⟨φ, μ, ρ, w, he, h⟩
    · rw [if_neg e]
      simp only [if_neg e] at h
      exact ⟨φ, μ, ρ, .str y, w, he, r, h⟩
  | _ => exact h.elim⟩
theorem vs_match {cases : List MatchCase} {m : D → Env → M VL.Flow} (h : VE X c W e f) (hm : VM X c W cases m) : VS X c W (.Match e cases pos) (fun ρ => liftS ρ (f ρ) fun d => m d ρ) := ⟨PS.weak (ps_match h.pe hm.mc) fun D σ H h => by
  obtain ⟨φ, μ, ρ, w, he, h⟩ := h
  refine ⟨φ, μ, ρ, w, he, wp_mono (wpS_lift (R := Rep c) h he) fun v H1 z => ?_⟩
  obtain ⟨φ1, μ1, d, L, w1, r, h1⟩ := z
  exact ⟨φ1, μ1, ρ, d, w1, he.later L, r, h1⟩⟩
/-! ### extend -/
def rExtR : V → List V → Hp → VK → Prop := fun x vs H Q => ∃ l b xs zs, x = .ref l ∧ vs = [.ref b] ∧ H l = some (.lst xs) ∧ Rd H b (.lst zs) ∧ xs.length + zs.length ≤ sizeLine ∧ Q .non (upd H l (.lst (xs ++ zs)))
theorem mt_extR : MtR X "list.extend" rExtR := by
  intro pins s σ H x vs v us Q I rx rv h
  obtain ⟨l, b, xs, zs, rfl, rfl, hH, hB, hz, q⟩ := h
  cases rx
  obtain ⟨u, rfl, ru⟩ := rv.one
  cases ru
  obtain ⟨z, its, n, r, hl, e⟩ := I.lstM hH
  obtain ⟨z2, its2, n2, r2, e2⟩ := hB.ok I.hok
  have hl2 := r2.length
  have hsz : its.toArray.size + its2.toArray.size ≤ sizeLine := by rw [List.size_toArray, List.size_toArray]; omega
  have hlong : ¬ (!its.toArray.isEmpty && Builtin.List.listTooLong (its.toArray.size + its2.toArray.size)) = true := by
    rw [notLongL hsz, Bool.and_false]
    exact Bool.false_ne_true
  refine call_meets F.slot_list_extend ⟨_, e, rfl⟩ F.entry_list_extend (F.args_list_extend_2 _ _)
    (AutoSeq1.list_extend_list_list_0 l its.toArray n b its2.toArray n2 hlong (by rw [List.size_toArray]; omega) (by omega)) ⟨e, e2, ?_⟩
  refine ⟨.non, _, I.lset (its' := its ++ its2) hH e (by simp) (r.append r2) ?_, rfl, q⟩
  rw [List.length_append]
  omega
def extM (x : D) (xs : List D) : M D := match xs with
  | [y] => readL y >>= fun ys => modL x (fun l => if l.length + ys.length ≤ sizeLine then some (l ++ ys, ()) else none) >>= fun _ => pure .non
  | _ => stuck
theorem mv_extend : MtV X c "list.extend" extM := ⟨_, mt_extR, fun φ μ H x xs vx vs Q E w r1 r2 h => by
  unfold extM at h
  split at h
  · obtain ⟨u, rfl, ru⟩ := repL1 r2
    obtain ⟨ys, b, us, rfl, hb, rl2, h⟩ := wp_readL h w ru
    obtain ⟨l, l0, ws, zs, a, rfl, hl, rl, hf, h⟩ := wp_modL h w r1
    split at hf
    · rename_i hz
      cases hf
      obtain ⟨μ', L, w', h⟩ := h (ws ++ us) (rl.app rl2)
      exact ⟨l, b, ws, us, rfl, rfl, hl, hb, by rw [← rl.len, ← rl2.len]; exact hz, wp_pure h w' of_non⟩
    · cases hf
  · exact wp_stuck h⟩
/-! ### tuple.count -/
def tcount (xs : List D) (d : D) : M D := match toP d, toPs xs with
  | some p, some ps => ask (PyData.plainAll ps && p.plain) >>= fun _ => pure (.int ((ps.countP fun y => PyData.eqv y p : Nat) : Int))
  | _, _ => stuck
/-! ### calls without arguments -/
theorem ve_call0 {k : Nat} {f : Addr} {fd : FuncData} {ps : List Str} {ds : List Value} {dvs : List V} {dds : List D} {x : Str} {p : Pos} {m : List D → M D} (F : FnOk X.prog X.w X.K X.mg X.base (L2.CX X.prog X.w) k f fd ps (spD c dds.length m)) (hr : Room k X.A) (hg : Gl X x) (hm : X.mg x = some (.ref f)) (hk : PySem.W.keepIn X.K (.ref f) = true) (hb : Binds X.K fd ps ds) (hd : Vals dvs ds) (hdd : ∀ φ H, RepL c φ H dds dvs)
    (hp : PE X (.Call (.Name x p) [] [] pos) (fun σ H Q => spD c dds.length m dvs H Q (fun _ _ _ => False))) : VE X c W (.Call (.Name x p) [] [] pos) (fun _ => noX (m dds)) :=
  ⟨PE.weak hp fun σ H Q h => by
    obtain ⟨φ, μ, ρ, w, he, h⟩ := h
    exact ⟨(hdd φ H).len.symm, φ, μ, dds, w, hdd φ H, wp_noX h⟩⟩
/-- f(e, ..): defaults fill up -/
theorem ve_callD {k n : Nat} {f : Addr} {fd : FuncData} {ps : List Str} {ds : List Value} {dvs : List V} {dds : List D} {x : Str} {p : Pos} {m : List D → M D} (F : FnOk X.prog X.w X.K X.mg X.base (L2.CX X.prog X.w) k f fd ps (spD c n m)) (hr : Room k X.A) (hg : Gl X x) (hm : X.mg x = some (.ref f)) (hk : PySem.W.keepIn X.K (.ref f) = true) (hb : Binds X.K fd ps ds) (hd : Vals dvs ds) (hdd : ∀ φ H, RepL c φ H dds dvs) (tk : Takes X W)
    (ha : VL X c W (e :: es) fl) (hdb : (x == ("__debug__" : Str)) = false := by decide) (he : starEach (e :: es) X.env = (false, eval e X.env) :: starEach es X.env := by rfl) (hpl : (backTo pos (starEach es X.env)).any (·.1) = false := by rfl) :
    VE X c W (.Call (.Name x p) (e :: es) [] pos) (fun ρ => fl ρ >>= fun xs => callM n m (xs ++ dds)) :=
  ⟨PE.weak (pe_callSD (E := WE W) F hr hg hm hk hb hd (fun σ => passAt tk σ) ha.pa hdb he hpl) fun σ H Q h => by
    obtain ⟨φ, μ, ρ, w, he, h⟩ := h
    refine ⟨φ, μ, ρ, w, he, wp_mono (wp_bind h) fun vs H1 z => ?_⟩
    obtain ⟨φ1, μ1, ds, L1, w1, r1, h1⟩ := z
    obtain ⟨hn, h1⟩ := wp_ask h1
    have rl := r1.app (hdd φ1 H1)
    exact ⟨by rw [← rl.len]; exact eq_of_beq hn, φ1, μ1, _, w1, rl, h1⟩⟩
end
end VL

namespace VL
open PySem PySem.Spec PyProof.Rows L2 LamX OwA
section
variable {X : Cx} {c : Cn} {W : WX} {φ φ' : Phi} {H H' : Hp} {μ μ' : Mem} {e : Expr} {es : List Expr} {f g h : Env → M D} {fl : Env → M (List D)} {pos : Pos}
/-! ### text * int -/
theorem op_mulS : OpR X (binaryOp .Mult) (fun x y H Q => ∃ z i, x = .str z ∧ y = .int i ∧ MulOk z i ∧ Q (.str (Txt.mul z i)) H) := by
  intro pins s σ H x y v u Q I rx ry h
  obtain ⟨z, i, rfl, rfl, hz, q⟩ := h
  obtain ⟨t, rfl⟩ := rx
  obtain ⟨t2, rfl⟩ := ry
  exact SB.mul hz fun t' k => ⟨.str _, H, I.tok _, ⟨_, rfl⟩, q⟩
instance decMulOk (x : Str) (n : Int) : Decidable (MulOk x n) := by unfold MulOk; infer_instance
def dMulS : D → D → M D
  | .str z, .int i => askP (MulOk z i) >>= fun _ => pure (.str (Txt.mul z i))
  | x, y => dMul x y
theorem opv_mulS : OpV X c (binaryOp .Mult) dMulS := by
  refine (opv_mul (X := X) (c := c)).or op_mulS fun φ μ H x y vx vy Q E w r1 r2 h => ?_
  unfold dMulS at h
  split at h
  · obtain ⟨hz, h⟩ := wp_askP h
    exact .inl ⟨_, _, rep_str r1, rep_int r2, hz, wp_pure h w of_str⟩
  · exact .inr h
/-! ### repr of None, a bool, an int -/
inductive Rp : V → Str → Prop where
  | non : Rp .non "None"
  | bl (b : Bool) : Rp (.bl b) (if b then "True" else "False")
  | int (i : Int) (h : i.natAbs.log2 < 1920) : Rp (.int i) (toString i)
theorem call_reprS {X : Cx} : CallR X (.builtin "repr") (fun xs H Q => ∃ v z, xs = [v] ∧ Rp v z ∧ Q (.str z) H) := by
  intro pins s σ H xs us Q I r h
  obtain ⟨v, z, rfl, hz, q⟩ := h
  obtain ⟨u, rfl, r1⟩ := vals1 r
  cases hz with
  | non =>
    obtain rfl : u = .none := r1
    exact PySem.P.repr_of_none ⟨.str _, H, I.tok _, ⟨_, rfl⟩, q⟩
  | bl b =>
    obtain rfl : u = .bool b := r1
    exact PySem.P.repr_of_bool ⟨.str _, H, I.tok _, ⟨_, rfl⟩, q⟩
  | int i hi =>
    obtain ⟨t, rfl⟩ := r1
    exact PySem.P.repr_of_int hi ⟨.str _, H, I.tok _, ⟨_, rfl⟩, q⟩
def reprD : List D → M D
  | [.non] => pure (.str "None")
  | [.bl b] => pure (.str (if b then "True" else "False"))
  | [.int i] => ask (decide (i.natAbs.log2 < 1920)) >>= fun _ => pure (.str (toString i))
  | _ => stuck
theorem cv_repr : CallV X c (.builtin "repr") reprD := ⟨_, call_reprS, fun φ μ H ds vs Q E w r h => by
  unfold reprD at h
  split at h
  · obtain ⟨v, rfl, r0⟩ := repL1 r
    exact ⟨_, _, by rw [rep_non r0], .non, wp_pure h w of_str⟩
  · obtain ⟨v, rfl, r0⟩ := repL1 r
    exact ⟨_, _, by rw [rep_bl r0], .bl _, wp_pure h w of_str⟩
  · obtain ⟨v, rfl, r0⟩ := repL1 r
    obtain ⟨hz, h⟩ := wp_ask h
    exact ⟨_, _, by rw [rep_int r0], .int _ (of_decide_eq_true hz), wp_pure h w of_str⟩
  · exact wp_stuck h⟩
theorem huOf {k : Nat} {A : Around} (h : Room k A) : A.units + 1 < cLine := by have := h.units; omega
theorem cv_listM (hK : X.K = c.K) : CallV X c (.type "list") listM := ⟨_, call_list_of, fun φ μ H ds vs Q E w r h => by
  rw [hK]
  unfold listM at h
  split at h
  · obtain ⟨v, rfl, r0⟩ := repL1 r
    obtain ⟨xs, a, us, rfl, hs, rl, h⟩ := wp_seqOf h w r0
    exact ⟨a, us, rfl, hs, fun p np => wp_newL h w rl np⟩
  · exact wp_stuck h⟩
theorem kit_tb {K : PySem.W.Frag} {C : Addr} {n : String} (hm : PySem.W.kitMeta n = true) (h : PySem.W.subIn K (.ref C) (.type n) = some false) : PySem.W.kitOne K (.ref C) (.type n) = some false := by
  unfold PySem.W.kitOne
  rw [if_neg (by intro z; cases (eq_of_beq z))]
  show (if PySem.W.kitMeta n = true then PySem.W.subIn K (.ref C) (.type n) else none) = some false
  rw [if_pos hm, h]
end
end VL

namespace VL
open PySem PySem.Spec PyProof.Rows L2 LamX OwA
section
variable {X : Cx} {c : Cn} {W : WX} {φ φ' : Phi} {H H' : Hp} {μ μ' : Mem} {ρ : Env} {σ : L2.St} {D0 : Ends} {e : Expr} {es : List Expr} {f g h : Env → M D} {fl : Env → M (List D)} {pos : Pos}
/-! ### raise -/
theorem vs_raise {C : String} (hc : X.calm = true) (tk : Takes X W) (hp : PMk X e (fun _ H Q => Q (.ref (c.cl C)) none H)) : VS X c W (.Raise (some e) none pos) (fun ρ => pure (.xc ρ ⟨C, none⟩)) := ⟨PS.weak (ps_raise hc tk hp) fun D σ H h => by
  obtain ⟨φ, μ, ρ, w, he, h⟩ := h
  exact h φ H σ _ none .refl w he ⟨rfl, rfl⟩⟩
/-! ### try .. except C: -/
theorem wpS_bindW {m : M VL.Flow} {k : VL.Flow → M VL.Flow} {D1 : Ends} {W1 : WX} (h : wpS c (m >>= k) φ μ H D0 W)
    (hn : ∀ φ1 μ1 H1 ρ1 σ1, LaterS c φ H φ1 H1 → WOk c φ1 μ1 H1 → RepE c φ1 H1 ρ1 σ1 → wpS c (k (.nx ρ1)) φ1 μ1 H1 D0 W → D1.nx σ1 H1)
    (hr : ∀ φ1 μ1 H1 d v, LaterS c φ H φ1 H1 → WOk c φ1 μ1 H1 → Rep c φ1 H1 d v → wpS c (k (.rt d)) φ1 μ1 H1 D0 W → D1.rt v H1)
    (hb : ∀ φ1 μ1 H1 ρ1 σ1, LaterS c φ H φ1 H1 → WOk c φ1 μ1 H1 → RepE c φ1 H1 ρ1 σ1 → wpS c (k (.bk ρ1)) φ1 μ1 H1 D0 W → D1.bk σ1 H1)
    (hc : ∀ φ1 μ1 H1 ρ1 σ1, LaterS c φ H φ1 H1 → WOk c φ1 μ1 H1 → RepE c φ1 H1 ρ1 σ1 → wpS c (k (.ct ρ1)) φ1 μ1 H1 D0 W → D1.ct σ1 H1)
    (hx : ∀ φ1 μ1 H1 ρ1 σ1 e k1 d, LaterS c φ H φ1 H1 → WOk c φ1 μ1 H1 → RepE c φ1 H1 ρ1 σ1 → RepX c φ1 H1 e k1 d → wpS c (k (.xc ρ1 e)) φ1 μ1 H1 D0 W → W1 k1 d σ1 H1) : wpS c m φ μ H D1 W1 := by
  have e : ∀ a μ1, m μ = .ok a μ1 → (m >>= k) μ = k a μ1 := fun a μ1 q => by
    show M.bind m k μ = _
    unfold M.bind
    rw [q]
  have e2 : ∀ x μ1, m μ = .exn x μ1 → (m >>= k) μ = .exn x μ1 := fun a μ1 q => by
    show M.bind m k μ = _
    unfold M.bind
    rw [q]
  have e3 : m μ = .stuck → (m >>= k) μ = .stuck := fun q => by
    show M.bind m k μ = _
    unfold M.bind
    rw [q]
  have later : ∀ a μ1 φ1 H1, m μ = .ok a μ1 → LaterS c φ H φ1 H1 → wpS c (k a) φ1 μ1 H1 D0 W := fun a μ1 φ1 H1 q L => wpS_later h L (e a μ1 q).symm
  unfold wpS
  cases hm : m μ with
  | ok a μ1 =>
    cases a with
    | nx ρ => exact fun φ1 H1 s L w r => hn φ1 μ1 H1 ρ s L w r (later _ _ _ _ hm L)
    | rt d => exact fun φ1 H1 v L w r => hr φ1 μ1 H1 d v L w r (later _ _ _ _ hm L)
    | bk ρ => exact fun φ1 H1 s L w r => hb φ1 μ1 H1 ρ s L w r (later _ _ _ _ hm L)
    | ct ρ => exact fun φ1 H1 s L w r => hc φ1 μ1 H1 ρ s L w r (later _ _ _ _ hm L)
    | xc ρ x => exact fun φ1 H1 s k1 d L w r rx => hx φ1 μ1 H1 ρ s x k1 d L w r rx (later _ _ _ _ hm L)
  | exn x μ1 => unfold wpS at h; rw [e2 x μ1 hm] at h; exact h
  | stuck => unfold wpS at h; rw [e3 hm] at h; exact h
/-- no exception leaves a statement -/
theorem wpS_noW {m : M VL.Flow} {D1 : Ends} (h : wpS c m φ μ H D1 W0) : wpS c m φ μ H D1 W := by
  unfold wpS at h ⊢
  split at h
  · exact h
  · exact h
  · exact h
  · exact h
  · exact fun p q s k d L w r x => (h p q s k d L w r x).elim
  · exact h
  · exact h
def noXS (m : M VL.Flow) : M VL.Flow := m >>= fun fl => match fl with
  | .xc _ _ => stuck
  | fl => pure fl
theorem wpS_noX {m : M VL.Flow} {D1 : Ends} (h : wpS c (noXS m) φ μ H D1 W) : wpS c m φ μ H D1 W0 :=
  wpS_bindW h (fun φ1 μ1 H1 ρ1 σ1 L w r h => h φ1 H1 σ1 .refl w r) (fun φ1 μ1 H1 d v L w r h => h φ1 H1 v .refl w r) (fun φ1 μ1 H1 ρ1 σ1 L w r h => h φ1 H1 σ1 .refl w r) (fun φ1 μ1 H1 ρ1 σ1 L w r h => h φ1 H1 σ1 .refl w r) (fun φ1 μ1 H1 ρ1 σ1 e k1 d L w r x h => h.elim)
/-- ex: is the exception of that class one of the clause's -/
def tryM (ex : String → Option Bool) (s s2 : Env → M VL.Flow) (ρ : Env) : M VL.Flow := s ρ >>= fun fl => match fl with
  | .xc ρ' e => match ex e.cls with
    | some true => noXS (s2 ρ')
    | some false => pure (.xc ρ' e)
    | none => stuck
  | fl => pure fl
theorem vs_try1 {x : Str} {C : String} {body suite : List Stmt} {b₀ : Stmt} {np pos' : Pos} {s s2 : Env → M VL.Flow} {ex : String → Option Bool} (hi : c.ini = none) (hs : X.stack = X.env :: X.outer) (hf : X.env.frame = some X.env.locals) (hc : Names X x (.ref (c.cl C))) (tk : Takes X W)
    (hex : ∀ n b, ex n = some b → PySem.W.exmOne X.K (.ref (c.cl n)) (.ref (c.cl C)) = some b)
    (hb : ∀ (W' : WX) (pn : List (Addr × Obj)) (xe : Value → Shared → Prop), Takes (X.tr pn xe) W' → PassesOwn (model X.prog X.w) X.A X.env xe → VB (X.tr pn xe) c W' body s)
    (hsu : ∀ (a : Addr) (oe : Obj) (cls : Value) (d : Option Addr) (pn : List (Addr × Obj)), Zc cls d oe → (∃ vs, oe.data = .fields vs) → VB (X.suite a ((a, oe) :: pn)) c W0 (b₀ :: suite) s2) :
    VS X c W (.Try body [.ExceptHandler (some (.Name x np)) none (b₀ :: suite) pos'] [] [] pos) (tryM ex s s2) := by
  refine ⟨PS.weak (ps_try_only (tb := fun W' => tS c W' s) (ts := fun _ _ _ => tS c W0 s2) hs hf hc tk (fun W' pn xe t p => (hb W' pn xe t p).ps) (fun a oe cls d pn z q => (hsu a oe cls d pn z q).ps)) fun D σ H h => ?_⟩
  obtain ⟨φ, μ, ρ, w, he, h⟩ := h
  refine ⟨φ, μ, ρ, w, he, wpS_bindW h (fun φ1 μ1 H1 ρ1 σ1 L w r h => h φ1 H1 σ1 .refl w r) (fun φ1 μ1 H1 d v L w r h => h φ1 H1 v .refl w r) (fun φ1 μ1 H1 ρ1 σ1 L w r h => h φ1 H1 σ1 .refl w r) (fun φ1 μ1 H1 ρ1 σ1 L w r h => h φ1 H1 σ1 .refl w r) (fun φ1 μ1 H1 ρ1 σ1 e k1 d L w r x h => ?_)⟩
  have hx := x.1
  cases hq : ex e.cls with
  | none => simp only [hq] at h; exact h.elim
  | some b =>
    simp only [hq] at h
    refine ⟨b, by rw [hx]; exact hex _ _ hq, fun hb a na => ?_, fun hb => ?_⟩
    · subst hb
      exact ⟨φ1, μ1, ρ1, w, r, wpS_noX h⟩
    · subst hb
      exact h φ1 H1 σ1 k1 d .refl w r x
end
end VL

namespace VL
open PySem PySem.Spec PyProof.Rows L2 LamX OwA
section
variable {X : Cx} {c : Cn} {W : WX} {φ φ' : Phi} {H H' : Hp} {μ μ' : Mem} {ρ : Env} {σ : L2.St} {D0 : Ends} {e : Expr} {es : List Expr} {f g h : Env → M D} {fl : Env → M (List D)} {pos : Pos}
/-! ### xs[::-1], xs a list -/
theorem pick_rev (its : List Value) : slicePick its.toArray none none (some (-1)) = its.reverse.toArray := by
  unfold slicePick
  have hb : sliceBounds none none (some (-1)) its.toArray.size = ((its.length : Int) - 1, -1, -1) := by
    simp [sliceBounds]
  rw [hb]
  congr 1
  have hr : sliceRange ((its.length : Int) - 1) (-1) (-1) = (List.range its.length).map fun k => its.length - 1 - k := by
    unfold sliceRange
    have hc : ((if (-1 : Int) > 0 then (if (its.length : Int) - 1 < -1 then (-1 - ((its.length : Int) - 1) + -1 - 1) / -1 else 0) else if (its.length : Int) - 1 > -1 then ((its.length : Int) - 1 - -1 - -1 - 1) / - -1 else 0) : Int).toNat = its.length := by
      rw [if_neg (by decide)]
      by_cases h : (its.length : Int) - 1 > -1
      · rw [if_pos h, show (- -1 : Int) = 1 from rfl, Int.ediv_one]; omega
      · rw [if_neg h]; omega
    show (List.range _).map _ = _
    rw [hc]
    refine List.map_congr_left fun k hk => ?_
    have := List.mem_range.mp hk
    omega
  simp only
  rw [hr, List.filterMap_map]
  apply List.ext_getElem?
  intro i
  have hh : ∀ l : List Nat, (∀ k ∈ l, k < its.length) → l.filterMap ((fun x => its.toArray[x]?) ∘ fun k => its.length - 1 - k) = l.map fun k => (its[its.length - 1 - k]?).getD .none := by
    intro l
    induction l with
    | nil => intro _; rfl
    | cons k l ih =>
      intro hl
      have hk := hl k List.mem_cons_self
      have e1 : ((fun x => its.toArray[x]?) ∘ fun k => its.length - 1 - k) k = some ((its[its.length - 1 - k]?).getD .none) := by
        show its.toArray[its.length - 1 - k]? = _
        rw [List.getElem?_toArray, List.getElem?_eq_getElem (by omega)]
        rfl
      rw [List.filterMap_cons, e1, List.map_cons, ih fun k h => hl k (List.mem_cons_of_mem _ h)]
  rw [hh _ fun k hk => List.mem_range.mp hk, List.getElem?_map]
  by_cases hi : i < its.length
  · rw [List.getElem?_range hi, List.getElem?_reverse hi, List.getElem?_eq_getElem (by omega : its.length - 1 - i < its.length)]
    show some ((its[its.length - 1 - i]?).getD .none) = _
    rw [List.getElem?_eq_getElem (by omega : its.length - 1 - i < its.length)]
    rfl
  · rw [List.getElem?_eq_none (by simpa using Nat.le_of_not_lt hi), List.getElem?_eq_none (by simpa using Nat.le_of_not_lt hi)]
    rfl
def tRev (te : TE) (th : TO) (K : PySem.W.Frag) : TE := fun σ H Q => te σ H fun x H1 => th σ H1 fun l H2 => l = some (-1) ∧ ∃ a xs, x = .ref a ∧ SqL K H2 a xs ∧ ∀ p, H2 p = none → Q (.ref p) (upd H2 p (.lst xs.reverse))
theorem pe_rev {st : Expr} {te : TE} {th : TO} {p2 : Pos} (he : PE X e te) (hu : PO X (some st) th) : PE X (.Subscript e (.Slice none none (some st) p2) pos) (tRev te th X.K) := by
  refine ⟨fun pins s σ H Q I h => ?_⟩
  refine Subscript_ (thn (he.run pins s σ H _ I h) fun v s1 ⟨x, H1, I1, r1, q1⟩ => ?_)
  refine wpAny_Slice ?_
  rw [evalPart_none]
  refine wpAny_pure (wpAny_pure ?_)
  refine thn (hu.run pins s1 σ H1 _ I1 q1) fun vs s3 ⟨l, H3, I3, ps, el, a, xs, ex, hq, q3⟩ => ?_
  subst el ex
  cases r1
  have I4 : Inv X pins σ H3 { s3 with heap := s3.heap.push { cls := .type "slice", data := .fields #[.none, .none, vs] } } := I3.kept (t' := s3.toks) fun b ob q => Heap.get?_push_of_some _ q
  obtain ⟨its, r, ht, hz⟩ := I4.list hq
  have hlen := r.length
  have hg : wpAny (model X.prog X.w) X.A (getItem (.ref a) (.ref s3.heap.objs.size)) (EP X pins σ Q) X.xe { s3 with heap := s3.heap.push { cls := .type "slice", data := .fields #[.none, .none, vs] } } := by
    refine wpAny_getItem_list_slice ht.isList (Heap.IsSliceOf.new ..) .none .none ps (by simp) ?_ (by rw [List.size_toArray] <;> omega)
    rw [pick_rev]
    refine ⟨.ref _, _, I4.laid (t' := s3.toks) (o := .lst xs.reverse) (fun b ob q => Heap.get?_push_of_some _ q) (Nat.le_refl _) ?_, rfl, q3 _ (I4.hok.fresh (Nat.le_refl _))⟩
    exact ⟨by rw [List.length_reverse]; exact hz, _, 0, r.reverse, Heap.get?_push_size _ rfl⟩
  show wpAny (model X.prog X.w) X.A (subscriptTail e (.Slice none none (some st) p2) (.ref a) (.ref s3.heap.objs.size)) (EP X pins σ Q) X.xe { s3 with heap := s3.heap.push { cls := .type "slice", data := .fields #[.none, .none, vs] } }
  exact tail_any (ops := [.ref a, .ref s3.heap.objs.size]) ht.isList.typeIs slot_list_getitem.lookup hg (by with_unfolding_all rfl)
theorem RepL.reverse : ∀ {ds : List D} {vs : List V}, RepL c φ H ds vs → RepL c φ H ds.reverse vs.reverse
  | [], vs, r => by simp only [RepL] at r; subst r; simp [RepL]
  | d :: ds, vs, r => by
    simp only [RepL] at r
    obtain ⟨v, rest, rfl, r1, r2⟩ := r
    rw [List.reverse_cons, List.reverse_cons]
    exact r2.reverse.app (RepL.one r1)
def revD (d : D) : M D := readL d >>= fun xs => pure (.lst xs.reverse)
theorem ve_rev {st : Expr} {p2 : Pos} (hK : X.K = c.K) (h : VE X c W e f) (hs : PE X st (tC (.int (-1)))) : VE X c W (.Subscript e (.Slice none none (some st) p2) pos) (fun ρ => f ρ >>= revD) := ⟨PE.weak (pe_rev h.pe (po_some hs)) fun σ H Q q => by
  obtain ⟨φ, μ, ρ, w, he, h⟩ := q
  refine ⟨φ, μ, ρ, w, he, wp_mono (wp_bind h) fun x H1 z => ?_⟩
  obtain ⟨φ1, μ1, d, L, w1, r, h1⟩ := z
  refine ⟨-1, rfl, rfl, ?_⟩
  obtain ⟨xs, a, vs, rfl, hq, rl, h1⟩ := wp_readL h1 w1 r
  rw [hK]
  exact ⟨a, vs, rfl, .inl hq, fun p np => wp_pureL h1 (Later.laid w1 np) (w1.laid np) (lst_new w1 np rl.reverse)⟩⟩
end
end VL

/-! ### list(text) -/
namespace VL
open PySem PySem.Spec PyProof.Rows L2
theorem OwnK.at_ {c : Cn} {I : IniC} {ow : List String} (h : OwnK c ow) : OwnK (c.at I) ow := ⟨h.cls, h.bt, h.tb, h.oo⟩
section
variable {prog : Program} {w : World} {A : Around} {E : Value → Shared → Prop} {s : Shared}
theorem hint_str {x : Str} {t : Tok} {Q : Bool → Shared → Prop} (h : Q false s) : wpAny (model prog w) A (Builtin.List.listLengthHint (.str x t)) Q E s := by
  have hT : s.TypeIs (.str x t) "str" := typeIs_str s x t
  unfold Builtin.List.listLengthHint
  refine wpAny_bind (wpAny_specialOf hT PySem.F.slot_str_len.lookup ?_)
  generalize hid : ("str.__len__" : String) = id0
  wp_delta
  rw [show splitId id0 = some ("str", "__len__") from by subst hid; decide +kernel]
  subst hid
  refine wpAny_bind (wpAny_isInstance (T := "str") (b := true) hT (by rw [isSubtype_type]; kernel_rfl) ?_)
  refine wpAny_ite_split (fun hab => absurd hab (by decide)) (fun _ => ?_)
  refine wpAny_ite_split (fun _ => ?_) (fun hab => absurd (by decide +kernel) hab)
  refine wpAny_bind (wpAny_typeOf hT ?_)
  exact wpAny_pure h
theorem extend_str {R : Result → Shared → Prop} (hh : A.handled = none) (x : Str) (t : Tok) (S : Addr) (res : Value) (c₀ : Nat) (hS : s.heap.get? S = some { cls := .type "list", data := .seq #[] c₀ })
    (hR : ∀ h' tk acc' c', (∀ b o, b ≠ S → s.heap.get? b = some o → h'.get? b = some o) → h'.get? S = some { cls := .type "list", dict := none, data := .seq acc' c', slots := #[] } →
      ItemsOf (SignAt x) acc' x.cps.size → R (.ok (.ret res)) { s with heap := h', toks := tk }) (hn : x.cps.size ≤ sizeLine) :
    wpAny (model prog w) A.in1 (Builtin.List.listExtendWith (.ref S) (.str x t) res)
      (fun fin s' => match fin with | .done f => R (.ok f) s' | .again c' => c'.quiet = true ∧ codeAny (model prog w) A c' R s') (fun e s' => R (.error e) s') s := by
  have hSI : S ≠ s.heap.objs.size := Nat.ne_of_lt (Heap.lt_size hS)
  have hSf : S ∉ [s.heap.objs.size] := fun hm => hSI (List.mem_singleton.mp hm)
  unfold Builtin.List.listExtendWith
  refine wpAny_bind (wpAny_typeOf (T := "str") (v := .str x t) (typeIs_str s x t) ?_)
  have h1 : Builtin.List.listSameRef (.ref S) (.str x t) = false := rfl
  have h2 : (Value.type "str" == Value.type "list") = false := by decide
  have h3 : (Value.type "str" == Value.type "tuple") = false := by decide
  simp only [h1, h2, h3, Bool.or_false, Bool.false_eq_true, if_false]
  refine wpAny_bind (wpAny_pyIter_str fun o St hW hst => ?_)
  have W := hW A.in1 hh
  refine wpAny_bind (wpAny_holding (hint_str ?_))
  rw [if_neg (by first | decide | decide +kernel)]
  refine wpAny_pure ⟨plainId_quiet PySem.F.plain_extend_loop _, codeAny_extend_loopS W.toS hn _ hSf _ x.cps.size 0 _ _ _ rfl (Nat.zero_le _) hst (Heap.get?_push_of_some _ hS) (ItemsOf.nil _) fun s' acc' c' hm hS' hacc => ?_⟩
  rw [Moved.eq_with hm]
  refine hR s'.heap s'.toks acc' c' (fun b ob hb e => hm.heap b ob (fun hmem => ?_) (Heap.get?_push_of_some _ e)) hS' hacc
  rcases List.mem_cons.mp hmem with e' | hmem
  · exact hb e'
  · exact absurd (Heap.lt_size e) (by rw [List.mem_singleton.mp hmem]; exact Nat.lt_irrefl _)
theorem list_init_str {R : Result → Shared → Prop} (hh : A.handled = none) (x : Str) (t : Tok) (S : Addr) (hS : s.heap.get? S = some { cls := .type "list", data := .seq #[] })
    (hR : ∀ h' tk acc' c', (∀ b o, b ≠ S → s.heap.get? b = some o → h'.get? b = some o) → h'.get? S = some { cls := .type "list", dict := none, data := .seq acc' c', slots := #[] } →
      ItemsOf (SignAt x) acc' x.cps.size → R (.ok (.ret .none)) { s with heap := h', toks := tk }) (hn : x.cps.size ≤ sizeLine) :
    wpAny (model prog w) A.in1 (Builtin.«list.__init__» ⟨[.ref S, .str x t], []⟩)
      (fun fin s' => match fin with | .done f => R (.ok f) s' | .again c' => c'.quiet = true ∧ codeAny (model prog w) A c' R s') (fun e s' => R (.error e) s') s := by
  show wpAny _ _ (do let old ← Builtin.List.listItems (.ref S); Builtin.List.listUpdate (.ref S) (fun _ => #[]); letGo old.toList.reverse; Builtin.List.listExtendWith (.ref S) (.str x t) .none) _ _ s
  refine wpAny_bind ?_
  unfold Builtin.List.listItems
  refine wpAny_bind (wpAny_seqItems hS rfl (wpAny_pure ?_))
  show wpAny _ _ (updateSeq S (fun _ => #[]) >>= fun _ => letGo (#[] : Array Value).toList.reverse >>= fun _ => Builtin.List.listExtendWith (.ref S) (.str x t) .none) _ _ s
  refine wpAny_bind (wpAny_updateSeq hS rfl ?_)
  have hS₂ := Heap.get?_update_self (Obj.mapSeq (fun _ => (#[] : Array Value))) hS rfl
  have oth : ∀ b o, b ≠ S → s.heap.get? b = some o → (s.heap.update S (Obj.mapSeq (fun _ => (#[] : Array Value)))).get? b = some o :=
    fun b o hb e => (Heap.get?_update_other _ _ (Ne.symm hb)).trans e
  refine wpAny_bind (wpAny_letGo ?_)
  refine extend_str hh x t S .none _ hS₂ (fun h' tk acc' c' hk hS' hacc => ?_) hn
  exact hR h' tk acc' c' (fun b o hb e => hk b o hb (oth b o hb e)) hS' hacc
theorem call_list_text {x : Str} {t : Tok} {Q : Value → Shared → Prop} (hh : A.handled = none) (hn : x.cps.size ≤ sizeLine)
    (hQ : ∀ h' tk acc' c', (∀ b o, s.heap.get? b = some o → h'.get? b = some o) →
      h'.get? s.heap.objs.size = some { cls := .type "list", dict := none, data := .seq acc' c', slots := #[] } → ItemsOf (SignAt x) acc' x.cps.size → Q (.ref s.heap.objs.size) { s with heap := h', toks := tk }) :
    wpAny (model prog w) A (call (.type "list") [.str x t]) Q E s := by
  refine callType_codes (Q₁ := fun obj s₁ => obj = .ref s.heap.objs.size ∧ s₁ = { s with heap := s.heap.push { cls := .type "list", data := .seq #[] } }) PySem.F.called_list (PySem.F.typeCall_list_1 _) PySem.F.entry_list_init
    (code_list_new _ ⟨rfl, rfl⟩) fun obj s₁ h₁ => ?_
  obtain ⟨rfl, rfl⟩ := h₁
  have hS : (s.heap.push { cls := .type "list", data := .seq #[] }).get? s.heap.objs.size = some { cls := .type "list", data := .seq #[] } := Heap.get?_push_size _ rfl
  refine ⟨⟨_, hS, rfl⟩, PySem.F.args_list_init_2 _ _, list_init_str (A := A.in1) hh x t _ hS (fun h' tk acc' c' hk hS' hacc => ?_) hn⟩
  exact ⟨rfl, hQ h' tk acc' c' (fun b o e => hk b o (Nat.ne_of_lt (Heap.lt_size e)) (Heap.get?_push_of_some _ e)) hS' hacc⟩
end
section
variable {X : Cx} {c : Cn} {φ : Phi} {H : Hp} {μ : Mem}
def signsV (z : Str) : List V := z.cps.toList.map fun k => .str ⟨#[k]⟩
theorem call_listS (hc : X.calm = true) : CallR X (.type "list") (fun xs H Q => ∃ z, xs = [.str z] ∧ z.length ≤ sizeLine ∧ ∀ l, H l = none → Q (.ref l) (upd H l (.lst (signsV z)))) := by
  intro pins s σ H xs us Q I r h
  obtain ⟨z, rfl, hz, q⟩ := h
  obtain ⟨u, rfl, t, rfl⟩ := vals1 r
  have hz' : z.cps.size ≤ sizeLine := by simpa [Str.length] using hz
  refine call_list_text (I.ok.hd hc) hz' fun h' tk acc c' hk hS hacc => ?_
  have hl : (signsV z).length = z.cps.size := by unfold signsV; simp
  have rv : Vals (signsV z) acc.toList := by
    refine vals_of_idx _ _ (by rw [hl, Array.length_toList]; exact hacc.1) fun j u hj => ?_
    have hj' : acc[j]? = some u := by simpa using hj
    obtain ⟨hlt, e⟩ := Array.getElem?_eq_some_iff.mp hj'
    obtain ⟨k, tk', h1, h2⟩ := hacc.2 j u hj'
    refine ⟨.str ⟨#[k]⟩, ?_, tk', h2⟩
    unfold signsV
    rw [List.getElem?_map, Array.getElem?_toList, h1]
    rfl
  exact ⟨.ref s.heap.objs.size, _, I.laid (t' := tk) hk (Nat.le_refl _) (show ObjOk X.prog X.w _ h' _ (.lst (signsV z)) from ⟨by rw [hl]; exact hz', acc.toList, c', rv, by simpa using hS⟩), rfl, q _ (I.hok.fresh (Nat.le_refl _))⟩
/-- list(x) of a text too -/
def listT (fin : List D → M D) : List D → M D
  | [.str z] => ask (small z.length) >>= fun _ => fin (signs z)
  | [d] => seqOf d >>= fin
  | _ => stuck
theorem of_signs {z : Str} : RepL c φ H (signs z) (signsV z) := by
  unfold signs signsV
  generalize z.cps.toList = l
  induction l with
  | nil => simp only [List.map_nil, RepL]
  | cons a l ih => simp only [List.map_cons, RepL]; exact ⟨_, _, rfl, of_str, ih⟩
theorem cv_listT {fin : List D → M D} (hf : NewL c fin) (hK : X.K = c.K) (hc : X.calm = true) : CallV X c (.type "list") (listT fin) := ⟨_, call_list_of.or (call_listS hc), fun φ μ H ds vs Q E w r h => by
  rw [hK]
  unfold listT at h
  split at h
  · obtain ⟨v, rfl, r0⟩ := repL1 r
    obtain ⟨hz, h⟩ := wp_ask h
    exact .inr ⟨_, by rw [rep_str r0], of_decide_eq_true hz, fun p np => hf _ _ _ _ _ _ _ _ w of_signs np h⟩
  · obtain ⟨v, rfl, r0⟩ := repL1 r
    obtain ⟨xs, a, us, rfl, hs, rl, h⟩ := wp_seqOf h w r0
    exact .inl ⟨a, us, rfl, hs, fun p np => hf _ _ _ _ _ _ _ _ w rl np h⟩
  · exact wp_stuck h⟩
end
end VL

namespace VL
open PySem PySem.Spec PyProof.Rows L2
def sp_law (K : PySem.W.Frag) : Sp := fun vs H Q _ => ∃ (a : Addr) (ns : List Int), vs = [.ref a] ∧ SqL K H a (ns.map V.int) ∧ ns.length ≤ 63 ∧ ∀ H', Q (.bl true) H'
/-- the law's promise from its plain law -/
theorem sp_of {c : Cn} (hT : c.T = []) {m : List D → M D} (hm : ∀ ns : List Int, ns.length ≤ 63 → ∃ μ, m [.scr (ns.map D.int)] [] = .ok (.bl true) μ) {vs : List V} {H : Hp} {Q : VK} {E : XK} (h : sp_law c.K vs H Q E) : spD c 1 m vs H Q E := by
  obtain ⟨a, ns, rfl, hs, hl, hq⟩ := h
  obtain ⟨μ, hm⟩ := hm ns hl
  have no : ∀ b, ¬ own ⟨[], []⟩ b := fun b z => by
    rcases z with ⟨k, e, h, _⟩ | z
    · simp at h
    · cases z
  refine ⟨rfl, ⟨[], []⟩, [], [.scr (ns.map D.int)], ⟨rfl, fun k e h => by simp at h, fun b h => (by cases h), fun i j e e' h => by simp at h, fun p hp => by rw [hT] at hp; cases hp⟩, ?_, ?_⟩
  · refine RepL.one ?_
    simp only [Rep]
    refine ⟨a, ns.map V.int, rfl, ?_, of_ints⟩
    rcases hs with hs | hs
    · exact .inl ⟨hs, no a⟩
    · exact .inr (.inr hs)
  · unfold wpM
    rw [hm]
    intro φ' H' b _ _ r
    rw [rep_bl r]
    exact hq H'
/-- a clause takes its own class -/
theorem exm_self {K : PySem.W.Frag} {S : Addr} (h1 : PySem.W.subIn K (.ref S) (.type "BaseException") = some true) (h2 : PySem.W.isClsIn K S = true) (h3 : PySem.W.typeIn K (.ref S) = some (.type "type")) (h4 : PySem.W.subIn K (.ref S) (.ref S) = some true) : PySem.W.exmOne K (.ref S) (.ref S) = some true := by
  have h2' : (PySem.W.clsIn K S).isSome = true := h2
  have e1 : (PySem.W.subIn K (.ref S) (.type "BaseException") == some true) = true := by rw [h1]; rfl
  have e2 : ((PySem.W.clsIn K S).isSome && PySem.W.typeIn K (.ref S) == some (.type "type")) = true := by rw [h2', h3]; rfl
  unfold PySem.W.exmOne
  rw [if_pos e1]
  show (if ((PySem.W.clsIn K S).isSome && PySem.W.typeIn K (.ref S) == some (.type "type")) = true then PySem.W.subIn K (.ref S) (.ref S) else none) = some true
  rw [if_pos e2]
  exact h4
theorem noCX {P : Program} {w : World} {outer : List PySem.Env} {H : Hp} {s s' : Shared} {e : Value} (c : L2.CX P w outer H s (fun _ _ _ => False) e s') : False := by
  obtain ⟨_, _, _, _, _, _, _, _, _, _, _, _, h⟩ := c
  exact h.elim
end VL

/-! ### own exceptions with an own __init__: super().__init__(txt); self.fl = a -/
namespace VX
open PySem PySem.W PySem.Calls PyProof.Rows
open Builtin Builtin.ObjectAttr
/-- the text of __init__ -/
structure ITxt (params : Arguments) (body : List Stmt) (scope : Scope) (a fl txt : Str) : Prop where
  par : ∃ p1 p2, params = { posonlyargs := [], args := [{ arg := "self", annotation := none, pos := p1 }, { arg := a, annotation := none, pos := p2 }], vararg := none, kwonlyargs := [], kw_defaults := [], kwarg := none, defaults := [] }
  bd : ∃ p0 p1 p2 p3 p4 p5 q1 q2 q3 q4 j, body = [.Expr (.Call (.Attribute (.Call (.Name "super" p0) [] [] p1) "__init__" p2) [.Constant (.str txt) j p3] [] p4) p5, .Assign [.Attribute (.Name "self" q1) fl q2] (.Name a q3) q4] ∧ (p2.endLine == p4.line) = true
  kind : scope.kind = .function
  co : scope.isCoroutine = false
  gen : scope.isGenerator = false
  nocell : ∀ y ∈ scope.names, y.2 ≠ .cell
  lself : scope.names.lookup ("self" : Str) = some .local
  la : scope.names.lookup a = some .local
  lsuper : scope.names.lookup ("super" : Str) = some .globalImplicit
  lcls : scope.names.lookup ("__class__" : Str) = some .free
  na : a ≠ ("self" : Str)
  nd : (a == ("__debug__" : Str)) = false
/-- what the written part says of the class at C and of its __init__ at fI -/
structure ExS (prog : Program) (K : Frag) (mg : Str → Option Value) (B newId initId : String) (bmB : List Value) (C fI : Addr) (fl : Str) : Prop where
  fb : ExcBaseFacts B newId initId bmB
  sf : StoreFacts B bmB "object.__setattr__" "object"
  kf : KxsFacts B initId
  hB : subIn K (.ref C) (.type B) = some true
  ei : excInitIn K C bmB newId = true
  eo : excOver K C bmB = true
  sa : findIn K (.ref C) "__setattr__" = some (some (.builtin "object.__setattr__"))
  noN : takerIn K C fl = some none
  iC : findIn K (.ref C) "__init__" = some (some (.ref fI))
  tC : typeIn K (.ref fI) = some (.type "function")
  hdC : hasDictIn K C = true
  cm : mroIn K C (.ref C) = some true
  sup : ks_superIn K C C "__init__" = some (some (.builtin initId))
  opq : nsIn K cStatics "thirdparty.any" = some none
  nsuper : nsIn K mainGlobals "super" = some none
  top : (prog.main.scope.names.lookup ("super" : Str)).isSome = false
  fn : ∃ (params : Arguments) (body : List Stmt) (scope : Scope) (a txt qual : Str) (oc : Value) (od : Option Addr) (dV kV doc pm : Value) (an : Option Addr) (ct : Value) (osl : Array (Option Value)) (cc cda : Addr) (cl ccl : Value) (cld cdd : Option Addr) (csl ccs : Array (Option Value)) (vs : Array Value) (file : Str) (tf : Tok),
    ITxt params body scope a fl txt ∧ K.lookup fI = some ⟨oc, od, .func (fnX "__init__" qual params body scope [("__class__", cc)] dV kV doc pm an (.ref cda) ct), osl⟩ ∧ codeIn K (.ref cda) qual = true ∧
    K.lookup cc = some ⟨cl, cld, .cell (some (.ref C)), csl⟩ ∧ K.lookup cda = some ⟨ccl, cdd, .fields vs, ccs⟩ ∧ vs[2]? = some (.str file tf) ∧ ((prog.main.file : Str) == file) = true ∧
    ((prog.main.scope.names.lookup ("super" : Str)).isSome = false) ∧ (∀ us : List Value, us.length = 2 → ∀ s : Shared, BindsTo s (fnX "__init__" qual params body scope [("__class__", cc)] dV kV doc pm an (.ref cda) ct) ⟨us, []⟩ ([("self" : Str), a].zip us))
theorem one_size (v : Value) : [v].length ≤ sizeLine := by
  rw [sizeLine_eq]
  exact (by decide : 1 ≤ 16777216)
/-- what __init__ leaves of a fresh exception at x -/
structure InitEnd (h h' : Heap) (x C dx t1 : Addr) (fl : Str) (v : Value) : Prop where
  keep : ∀ b o, b ≠ x → h.get? b = some o → h'.get? b = some o
  obj : h'.get? x = some { cls := .ref C, dict := some dx, data := .fields #[.ref t1, .none, .none, .none, .bool false, .none] }
  dbig : h.objs.size ≤ dx
  dne : dx ≠ x
  ns : h'.Ns1 dx (fun y => if y = fl then some v else none)
/-- a made exception -/
structure OwnMade (h h' : Heap) (e C d : Addr) (fl : Str) (v : Value) : Prop where
  keep : ∀ b o, h.get? b = some o → h'.get? b = some o
  new : h.objs.size ≤ e
  obj : ∃ oe vs, h'.get? e = some oe ∧ oe.cls = .ref C ∧ oe.dict = some d ∧ oe.data = .fields vs ∧ vs[1]? = some .none
  dbig : h.objs.size ≤ d
  dne : d ≠ e
  ns : h'.Ns1 d (fun y => if y = fl then some v else none)
section
variable {prog : Program} {w : World} {A : Around} {E : Value → Shared → Prop} {R : Result → Shared → Prop} {K : Frag} {mg mb : Str → Option Value} {C fI : Addr} {B newId initId : String} {bmB : List Value} {fl : Str}
/-- self.fl = v, no dict yet -/
theorem osa_new {hp : Heap} {g : Array GenState} {d : Drawn} {t : Nat} {os : OsState} {tk : Tok} {v : Value} {x : Addr} {t1 : Addr} (SF : StoreFacts B bmB "object.__setattr__" "object")
    (X : K.In hp) (hx : hp.get? x = some (excObj C t1 none .none)) (hp1 : excOver K C bmB = true) (ht : takerIn K C fl = some none) (hh : hasDictIn K C = true)
    (hq : ∀ h' tk' dx, (∀ b o, b ≠ x → hp.get? b = some o → h'.get? b = some o) → hp.objs.size ≤ dx → dx ≠ x → h'.get? x = some (excObj C t1 (some dx) .none) →
      h'.Ns1 dx (fun y => if y = fl then some v else none) → R (.ok (.ret .none)) ⟨h', g, d, tk', os⟩) :
    codeAny (model prog w) A (.call (.builtin "object.__setattr__") ⟨[.ref x, .str fl tk, v], []⟩) R ⟨hp, g, d, t, os⟩ := by
  have I : InstAt hp x (excObj C t1 none .none) C none := ⟨hx, rfl, rfl, trivial⟩
  have hxs : x ≠ hp.objs.size := Nat.ne_of_lt (Heap.lt_size hx)
  obtain ⟨cd, hc, hd'⟩ := any_some hh
  refine osa_openX (s := ⟨hp, g, d, t, os⟩) (od := none) SF X I hp1 ht fun b => ?_
  have hcls : Looks (model prog w) hp (classData C) cd := looks_clsIn X hc
  obtain ⟨nm, bs, mro, ns, qn, hd, sn, sb, ab, col, del⟩ := cd
  dsimp only at hd'
  subst hd'
  show wpAny _ _ (storeInOwnDict (.ref x) (.ref C) (.str fl tk) fl v b) _ _ _
  unfold storeInOwnDict ownDictForStores
  repeat (first | with_reducible refine HandSPX.store_in_new ?_ ?_ | with_reducible refine wpAny_loadPart_at hx ?_ | with_reducible refine hcls.at ?_ | wp_step)
  · exact ⟨_, #[], _, (Heap.get?_update_ne _ _ _ _ hxs.symm).trans (Heap.get?_push_at rfl rfl), rfl, fun e he => absurd he (by simp), fun _ => rfl⟩
  · intro h' tk' hn' hs
    have hx₁ : (hp.push { cls := .type "dict", data := .dict #[] }).get? x = some (excObj C t1 none .none) := Heap.get?_push_of_some _ hx
    refine hq h' tk' hp.objs.size (fun b o hb ho => ?_) (Nat.le_refl _) hxs.symm ?_ hn'
    · exact (hs.2 b (Nat.ne_of_lt (Heap.lt_size ho))).trans ((Heap.get?_update_ne _ _ _ _ hb).trans (Heap.get?_push_of_some _ ho))
    · exact (hs.2 x hxs).trans (Heap.get?_update_self _ hx₁ rfl)
theorem init_run {s : Shared} (T : ExS prog K mg B newId initId bmB C fI fl) {x t0 : Addr} {v : Value} (X : K.In s.heap) (hlim : s.heap.NoLimit) (G : s.heap.Ns mainGlobals mg) (G2 : s.heap.Ns builtinsNs mb) (hmb : ∀ y : Str, y ≠ "__name__" → mb y = bootBuiltins y)
    (hx : s.heap.get? x = some (excObj C t0 none .none)) (hnx : K.lookup x = none) (hg : x ≠ mainGlobals) (hg2 : x ≠ builtinsNs) (hroom : A.depth < recursionLimit)
    (hq : ∀ h' tk dx t1, InitEnd s.heap h' x C dx t1 fl v → R (.ok (.ret .none)) { s with heap := h', toks := tk }) :
    codeAny (model prog w) A (.call (.ref fI) ⟨[.ref x, v], []⟩) R s := by
  obtain ⟨params, body, scope, a, txt, qual, oc, od, dV, kV, doc, pm, an, ct, osl, cc, cda, cl, ccl, cld, cdd, csl, ccs, vs, file, tf, TX, ho, hcd, hcc, hcda, hvs, hfile, htop, hbind⟩ := T.fn
  obtain ⟨p1, p2, rfl⟩ := TX.par
  obtain ⟨b0, b1, b2, b3, b4, b5, q1, q2, q3, q4, j, rfl, hbp⟩ := TX.bd
  have hlocs : ∀ y ∈ [("self" : Str), a].zip [Value.ref x, v], scope.names.lookup y.1 = some .local := fun y hy => by
    simp only [List.zip_cons_cons, List.zip_nil_right, List.mem_cons, List.not_mem_nil, or_false] at hy
    rcases hy with rfl | rfl
    · exact TX.lself
    · exact TX.la
  refine ks_codeAny_call_defAt (fd := fnX "__init__" qual _ _ scope [("__class__", cc)] dV kV doc pm an (.ref cda) ct) (binds := [("self" : Str), a].zip [.ref x, v]) hroom (X _ _ ho) rfl hlim (codeRec_of X hcd) rfl (hbind _ rfl _) TX.nocell hlocs (fun h₁ hns hk₁ => ?_) TX.co TX.gen TX.kind
  -- the ledger over all but x
  have h0 : ∀ b o, (hideAll s.heap [x]).get? b = some o → s.heap.get? b = some o := fun b o e => of_hideAll _ e
  have X₀ : K.In (hideAll s.heap [x]) := fun b o e => hideAll_get _ (X b o e) (by
    simp only [List.mem_cons, List.not_mem_nil, or_false]
    rintro rfl
    rw [hnx] at e; cases e)
  have F : Fr (hideAll s.heap [x]) s.heap.objs.size h₁ (fun y => ([("self" : Str), a].zip [Value.ref x, v]).reverse.lookup y) := ⟨hns, fun b o e => hk₁ b o (h0 b o e), Nat.le_of_eq (hideAll_size _ _)⟩
  have N : News (hideAll s.heap [x]) s.heap.objs.size h₁ [(x, excObj C t0 none .none)] := fun p hp => by
    obtain rfl := List.mem_singleton.mp hp
    exact ⟨hk₁ _ _ hx, Nat.ne_of_lt (Heap.lt_size hx), hideAll_none _ (by simp)⟩
  have Gm : h₁.Ns mainGlobals mg := G.keeps hk₁
  have Gb : h₁.Ns builtinsNs mb := G2.keeps hk₁
  have X1 : K.In h₁ := X.keeps hk₁
  obtain ⟨cdD, hcD⟩ : ∃ cdD, clsIn K C = some cdD := by
    have z := T.cm
    unfold mroIn at z
    cases q : clsIn K C with
    | none => rw [q] at z; cases z
    | some cd => exact ⟨cd, rfl⟩
  obtain ⟨oD, hD1, hD2⟩ : ∃ oD, h₁.get? C = some oD ∧ oD.data = .cls cdD := by
    unfold clsIn at hcD
    split at hcD
    · rename_i c d cd' sl ho
      cases hcD
      exact ⟨_, X1 _ _ ho, rfl⟩
    · cases hcD
  have hlself : ([("self" : Str), a].zip [Value.ref x, v]).reverse.lookup ("self" : Str) = some (.ref x) := by
    have : (("self" : Str) == a) = false := by simpa using TX.na.symm
    simp [List.lookup, this]
  have hla : ([("self" : Str), a].zip [Value.ref x, v]).reverse.lookup a = some v := by
    simp [List.lookup]
  obtain ⟨hp, g, d, t, os⟩ := s
  have hpos : ∀ (few : Bool) (o : Expr) (env : Env), methodCallPos few o env b2 b4 = pure b4 := fun few o env => by
    unfold methodCallPos
    rw [if_pos (by rw [hbp]; simp)]
  have hint : interactive (ksEnv qual scope hp.objs.size fI (.ref cda) cc) = false := by
    unfold interactive
    simp [TX.kind]
  refine ks_wpAt_execs_cons (ks_wpAt_Expr_any (ks_wpAt_MethodCall (pl := (do return (← importBound (.Call (.Name "super" b0) [] [] b1) (ksEnv qual scope hp.objs.size fI (.ref cda) cc)).getD true)) ?_ ?_) hint (by rfl))
  rotate_left
  · show (do
      let ov ← attributeBase _ _ _ _
      standAt _
      methodCall _ _ _ _ _ ov _ _ _) = _
    unfold methodCall
    simp only [hpos]
    rfl
  have I : InstAt h₁ x (excObj C t0 none .none) C none := ⟨hk₁ _ _ hx, rfl, rfl, trivial⟩
  refine ks_wpAt_super_base (env := ksEnv qual scope hp.objs.size fI (.ref cda) cc) TX.lsuper TX.lcls (by decide) rfl (X1 _ _ ho) rfl rfl rfl (X1 _ _ hcda) rfl hvs hfile htop ?_
  refine ks_loadName_global TX.kind TX.lsuper (loadGlobal_builtin (env := ksEnv qual scope hp.objs.size fI (.ref cda) cc) Gm (mg_none_of X G T.nsuper) Gb ((hmb _ (by decide +kernel)).trans (by first | boot_by_name | rfl | kernel_rfl)) ⟨rfl, ?_⟩)
  refine wpAny_loadName_free TX.kind TX.lcls rfl ⟨_, X1 _ _ hcc, rfl⟩ ?_
  refine wpAny_loadName_local TX.kind TX.lself F.ns hlself ?_
  refine ks_wpAny_isType_cls hD1 hD2 ⟨rfl, ?_⟩
  refine ks_wpAny_call_super hD1 hD2 I.at_ I.cls (fun c e => ?_) (looks_mroIn X1 T.cm) (fun h' e k => ?_)
  · have := I.no
    unfold notCls at this
    rw [e] at this
    exact Bool.noConfusion this
  obtain ⟨F1, N1, l1⟩ := ks_newsPush (s := ⟨h₁, g, d, t, os⟩) F N rfl e k
  have lx := l1 _ (List.mem_singleton.mpr rfl)
  dsimp only at lx
  have I1 : InstAt h' x (excObj C t0 none .none) C none := ⟨(N1 (x, excObj C t0 none .none) (by simp)).1, rfl, rfl, trivial⟩
  refine kxs_method (ox := excObj C t0 none .none) (odx := none) T.kf F1 X₀ N1 List.mem_cons_self I1 T.opq T.sup T.hB (by decide) fun q h2 F2 N2 l2 => ?_
  have lxq : x ≠ q := Nat.ne_of_lt (l2 (x, excObj C t0 none .none) (by simp))
  refine kxs_callWith1 N2 List.mem_cons_self ?_ (by rfl) (by rfl)
  refine spliced_cons ?_
  refine Constant_str (pos := b3) (k := j) ?_
  refine spliced_nil ⟨(N2 _ List.mem_cons_self).1, ?_⟩
  refine kxs_call (t := t0) (dv := none) (c2 := .none) F2 X₀ N2 T.fb T.ei List.mem_cons_self (.tail (Ne.symm lxq) (.tail (Nat.ne_of_gt lx) (.head fun _ z => nomatch z))) (one_size _) fun t' h3 F3 N3 l3 => ?_
  have hx3 : h3.get? x = some (excObj C t' none .none) := (N3 (x, excObj C t' none .none) (by simp)).1
  have X3 : K.In h3 := X₀.keeps F3.keep
  have sz3 : hp.objs.size ≤ h3.objs.size := Nat.le_of_lt F3.ns.lt
  refine wpAt_of_wpAny (wpAny_execs_cons (plainObj_wpAny_Assign_Attribute ?_ (by rfl)))
  refine ESX.ldL F3.ns hla (ESX.ldL F3.ns hlself ?_ TX.kind TX.lself (by decide)) TX.kind TX.la TX.nd
  refine set_plain (od := none) X3 ⟨hx3, rfl, rfl, trivial⟩ T.sa ?_
  refine osa_new T.sf X3 hx3 T.eo T.noN T.hdC (fun h4 tk4 dx k4 dn dne hx4 hn4 => ?_)
  refine wpAny_execs_nil (hq h4 _ dx t' ⟨fun b o hb e => k4 b o hb (F3.keep b o (hideAll_get _ e (by simpa using hb))), hx4, Nat.le_trans sz3 dn, dne, hn4⟩)
theorem made_run {s : Shared} (T : ExS prog K mg B newId initId bmB C fI fl) {v : Value} (X : K.In s.heap) (hlim : s.heap.NoLimit) (G : s.heap.Ns mainGlobals mg) (G2 : s.heap.Ns builtinsNs mb) (hmb : ∀ y : Str, y ≠ "__name__" → mb y = bootBuiltins y) (hroom : A.depth + 1 < recursionLimit)
    (hq : ∀ h' tk e d, OwnMade s.heap h' e C d fl v → R (.ok (.ret (.ref e))) { s with heap := h', toks := tk }) :
    codeAny (model prog w) A (.call (.ref C) ⟨[v], []⟩) R s := by
  obtain ⟨nm, N, q, bs, bm, hdct, sn, sub, ab, col, dd, k0, k1, k2, k3, k5, hC, hbm⟩ := excInit_of X T.ei
  obtain ⟨hp, g, dr, tk, os⟩ := s
  have k : ∀ b o, hp.get? b = some o → ((hp.push (kdv_tup [v])).push (HandSPX.excO C hp.objs.size)).get? b = some o := fun b o e => Heap.get?_push_of_some _ (Heap.get?_push_of_some _ e)
  have hget : ((hp.push (kdv_tup [v])).push (HandSPX.excO C hp.objs.size)).get? (hp.objs.size + 1) = some (HandSPX.excO C hp.objs.size) := by heap_get
  have hnot : ∀ b o, hp.get? b = some o → hp.objs.size + 1 ≠ b := fun b o e => Nat.ne_of_gt (Nat.lt_succ_of_lt (Heap.lt_size e))
  have hnx : K.lookup (hp.objs.size + 1) = none := by
    cases e : K.lookup (hp.objs.size + 1) with
    | none => rfl
    | some o => exact absurd rfl (hnot _ _ (X _ _ e))
  have hg : hp.objs.size + 1 ≠ mainGlobals := by obtain ⟨o, _, _, e, _⟩ := id G; exact hnot _ _ e
  have hg2 : hp.objs.size + 1 ≠ builtinsNs := by obtain ⟨o, _, _, e, _⟩ := id G2; exact hnot _ _ e
  refine HandSPX.call_own T.fb hbm hC (looks_findIn X T.iC) (fun self => bind_fn X self T.tC) (one_size v) ?_
  refine init_run (s := ⟨(hp.push (kdv_tup [v])).push (HandSPX.excO C hp.objs.size), g, dr, tk, os⟩) T (X.keeps k) (hlim.keeps k) (G.keeps k) (G2.keeps k) hmb hget hnx hg hg2 ?_ fun h' tk' dx t1 ⟨k', hx, dn, dne, hns⟩ => ?_
  · show A.depth + 1 < recursionLimit
    exact hroom
  · have old : ∀ b o, hp.get? b = some o → h'.get? b = some o := fun b o e => k' b o (Ne.symm (hnot b o e)) (k b o e)
    have z : hp.objs.size + 1 + 1 ≤ dx := by
      first
        | (simpa only [Heap.size_push] using dn)
        | exact dn
        | (have q := dn; rw [Heap.size_push, Heap.size_push] at q; exact q)
    exact ⟨rfl, hq h' tk' (hp.objs.size + 1) dx ⟨old, Nat.le_succ _, ⟨_, _, hx, rfl, rfl, rfl, rfl⟩, Nat.le_trans (Nat.le_trans (Nat.le_succ _) (Nat.le_succ _)) z, dne, hns⟩⟩
end
end VX

namespace L2
open PySem PySem.Spec PyProof.Rows
theorem relO_one {fl : Str} {v : V} {v' : Value} (r : RelV v v') (f : Str) : RelO (List.lookup f [(fl, v)]) (if f = fl then some v' else none) := by
  by_cases hw : f = fl
  · subst hw
    rw [if_pos rfl]
    have q : List.lookup f [(f, v)] = some v := by simp [List.lookup]
    rw [q]
    exact r
  · rw [if_neg hw]
    have qw : (f == fl) = false := by simpa using hw
    have q2 : List.lookup f [(fl, v)] = none := by simp [List.lookup, qw]
    rw [q2]
    trivial
section
variable {X : Cx} {C fI : Addr} {fl : Str} {B newId initId : String} {bmB : List Value}
/-- C(e), C an own exception with a field -/
def tMkF (C : Addr) (fl : Str) (ta : TA) : St → Hp → XK → Prop := fun σ H Q => ta σ H fun vs H1 => ∃ v, vs = [v] ∧ ∀ d, H1 d = none → Q (.ref C) (some d) (upd H1 d (.xd [(fl, v)]))
theorem pmk_fld {a : Expr} {ta : TA} {x : Str} {p pos : Pos} {k : Nat} (T : VX.ExS X.prog X.K X.mg B newId initId bmB C fI fl) (gC : X.mg x = some (.ref C)) (kC : PySem.W.keepIn X.K (.ref C) = true) (rC : Raises X (.ref C)) (hr : Room k X.A) (ha : PA X [a] ta) (hg : Gl X x)
    (hdb : (x == ("__debug__" : Str)) = false := by decide) (he : starEach (a :: []) X.env = (false, eval a X.env) :: starEach [] X.env := by rfl) (hpl : (backTo pos (starEach [] X.env)).any (·.1) = false := by rfl) :
    PMk X (.Call (.Name x p) [a] [] pos) (tMkF C fl ta) := by
  intro pins s σ H Q I h
  refine wpAny_Call_Name_kw (ld_glob I hg gC ?_ hdb)
  refine PySem.W.callWith_K (h₀ := X.base) I.ok.mod.kin kC (thn (ha.run pos pins s σ H _ I h) fun us s1 hh => ?_) he hpl
  obtain ⟨vs, H1, I1, r1, v, ev, q1⟩ := hh
  subst ev
  refine ⟨I1.kIn, ?_⟩
  cases r1 with
  | cons rv rn =>
    rename_i v' us'
    cases rn
    show wpAny _ _ (call (.ref C) [v']) _ _ _
    have hlim := I1.nolimit
    obtain ⟨mb, hmb, hmb2⟩ := I1.mod.blt
    have G := I1.mod.glob.keeps I1.bk
    have G2 := hmb.keeps I1.bk
    obtain ⟨hp, g, dr, tk, os⟩ := s1
    refine wpAny_call (VX.made_run T I1.kIn hlim G G2 hmb2 (by have := hr.dp; omega) fun h' tk' e d M => ?_)
    show MkP X pins σ Q (.ref e) ⟨h', g, dr, tk', os⟩
    obtain ⟨oe, fv, hoe, hc, hd, hdat, h1⟩ := M.obj
    have hns := M.ns
    obtain ⟨G', g1, g2⟩ := restrict h' fun b => decide (b ≠ e)
    have gk : ∀ b, b ≠ e → G'.get? b = h'.get? b := fun b hb => g1 b (decide_eq_true hb)
    have ge : G'.get? e = none := g2 e (by simp)
    have old : ∀ b o, hp.get? b = some o → G'.get? b = some o := fun b o q => (gk b (Nat.ne_of_lt (Nat.lt_of_lt_of_le (Heap.lt_size q) M.new))).trans (M.keep b o q)
    have ob : ObjOk X.prog X.w (upd H1 d (.xd [(fl, v)])) G' d (.xd [(fl, v)]) :=
      ⟨_, hns.at (fun o q => (gk d M.dne).trans q), fun f => relO_one rv f⟩
    have J : Inv X pins σ (upd H1 d (.xd [(fl, v)])) ⟨G', g, dr, tk', os⟩ := I1.laid (t' := tk') old M.dbig ob
    refine ⟨e, oe, fv, ⟨G', g, dr, tk', os⟩, _, .ref C, some d, rfl, J, fun b o q => ?_, ge, hoe, ⟨hc, hd⟩, hdat, h1, ?_, rfl, I1.bare, rC, q1 d (I1.hok.fresh M.dbig)⟩
    · by_cases hb : b = e
      · have q' : G'.get? b = some o := q
        rw [hb, ge] at q'; cases q'
      · exact (gk b hb).symm.trans q
    · rw [upd_ne (Ne.symm M.dne)]
      exact I1.hok.fresh M.new
end
/-! ### several except clauses, with names or without -/
/-- none: no name; some i: slot i is the name's -/
def suiteEnds (D : Ends) : Option Nat → Ends
  | none => D
  | some i => { nx := fun σ' H' => D.nx (σ'.set i none) H', rt := D.rt, bk := fun σ' H' => D.bk (σ'.set i none) H', ct := fun σ' H' => D.ct (σ'.set i none) H' }
def suiteSt (σ : St) (a : Addr) : Option Nat → St
  | none => σ
  | some i => σ.set i (some (.ref a))
def wMix (K : PySem.W.Frag) (Wout : WX) (D : Ends) : List (Value × Option Nat × (Addr → Value → Option Addr → TS)) → WX
  | [] => Wout
  | (c, o, ts) :: r => fun cls d σ H => ∃ b, PySem.W.exmOne K cls c = some b ∧ (b = true → ∀ a, H a = none → ts a cls d (suiteEnds D o) (suiteSt σ a o) H) ∧ (b = false → wMix K Wout D r cls d σ H)
inductive HdsMix (X : Cx) : List ExceptHandler → List (Value × Option Nat × (Addr → Value → Option Addr → TS)) → Prop
  | nil : HdsMix X [] []
  | cons {x : Str} {c : Value} {ts : Addr → Value → Option Addr → TS} {b₀ : Stmt} {suite : List Stmt} {np pos' : Pos} {hds : List ExceptHandler} {l : List (Value × Option Nat × (Addr → Value → Option Addr → TS))} (hc : Names X x c)
      (hsu : ∀ (a : Addr) (oe : Obj) (cls : Value) (d : Option Addr) (pn : List (Addr × Obj)), Zc cls d oe → (∃ vs, oe.data = .fields vs) → PSs (X.suite a ((a, oe) :: pn)) (b₀ :: suite) (ts a cls d)) (r : HdsMix X hds l) :
      HdsMix X (.ExceptHandler (some (.Name x np)) none (b₀ :: suite) pos' :: hds) ((c, none, ts) :: l)
  | named {x n : Str} {i : Nat} {c : Value} {ts : Addr → Value → Option Addr → TS} {b₀ : Stmt} {suite : List Stmt} {np pos' : Pos} {hds : List ExceptHandler} {l : List (Value × Option Nat × (Addr → Value → Option Addr → TS))} (hc : Names X x c)
      (hN : X.N.Nodup) (hi : X.N[i]? = some n) (hln : X.env.kindOf n = some .local)
      (hsu : ∀ (a : Addr) (oe : Obj) (cls : Value) (d : Option Addr) (pn : List (Addr × Obj)), Zc cls d oe → (∃ vs, oe.data = .fields vs) → PSs (X.suite a ((a, oe) :: pn)) (b₀ :: suite) (ts a cls d)) (r : HdsMix X hds l) :
      HdsMix X (.ExceptHandler (some (.Name x np)) (some n) (b₀ :: suite) pos' :: hds) ((c, some i, ts) :: l)
section
variable {X : Cx} {body : List Stmt} {h₀ : ExceptHandler} {hds : List ExceptHandler} {l : List (Value × Option Nat × (Addr → Value → Option Addr → TS))} {pos : Pos} {tb : WX → TS} {Wout : WX}
theorem ps_try_mix (hs : X.stack = X.env :: X.outer) (hf : X.env.frame = some X.env.locals) (tk : Takes X Wout)
    (hb : ∀ (W : WX) (pn : List (Addr × Obj)) (xe : Value → Shared → Prop), Takes (X.tr pn xe) W → PassesOwn (model X.prog X.w) X.A X.env xe → PSs (X.tr pn xe) body (tb W))
    (hh : HdsMix X (h₀ :: hds) l) : PS X (.Try body (h₀ :: hds) [] [] pos) (fun D σ H => tb (wMix X.K Wout D l) D σ H) := by
  refine ⟨fun pins s σ H D I h => ?_⟩
  have ok := I.ok
  have hfr : X.A.frames = some (X.env :: X.outer) := by rw [ok.frames, hs]
  refine wpAny_Try_except ?_
  refine wpAny_mono ((hb (wMix X.K Wout D l) (X.pn ++ pins) (fun e s₁ => wpAny (model X.prog X.w) X.A (noteFrame e X.env) (fun _ s₂ => wpAny (model X.prog X.w) X.A (setFlight e none) (fun _ s₃ =>
    wpAny (model X.prog X.w) X.A (handleBy e X.env (h₀ :: hds)) (SP X pins D) X.xe s₃) X.xe s₂) X.xe s₁) (fun u s' xx => ?_) PassesOwn.looking).run [] s σ H D (I.toTry _) h) (fun f s1 hsp => ?_) (fun e s1 he => he)
  · -- the catch
    obtain ⟨a, B, sI, pins', σ', H', cls, d, rfl, J', nb, up, sky, na, os, ag, w⟩ := xx
    have J : Inv X pins σ' H' sI := J'.ofTry ok
    have sky' : Sky B (X.env :: X.outer) a (Zc cls d) X.env.locals s'.heap := by rw [← hs]; exact sky
    show wpAny (model X.prog X.w) X.A (noteFrame (.ref a) X.env) _ _ _
    refine Sky.land Zc.steady hfr hf sky' fun h3 fl3 up3 => ?_
    have J3 : Inv X pins σ' H' { s' with heap := h3 } := J.landed nb fl3.1 (up.trans up3) os ag
    obtain ⟨oe3, vs3, he3, hz3, hd3⟩ := fl3.there
    have notFr : ∀ {h : Heap} {o : Obj} {vs : Array Value}, h.FunFrames B (X.env :: X.outer) → h.get? a = some o → o.data = .fields vs → a ∉ frs (X.env :: X.outer) := fun {h o vs} ff e dd hm => by
      obtain ⟨_, o', e', hnf⟩ := ff.mem hm
      rw [e] at e'; cases e'
      exact hnf _ dd
    have nfr := notFr fl3.2.2.1 he3 hd3
    have nL : a ≠ X.env.locals := fun z => nfr (List.mem_filterMap.mpr ⟨X.env, List.mem_cons_self, by rw [hf, z]⟩)
    have nF : a ∉ X.fs := fun hm => by
      obtain ⟨e, he, q⟩ := List.mem_filterMap.mp hm
      exact nfr (List.mem_filterMap.mpr ⟨e, List.mem_cons_of_mem _ he, q⟩)
    have S3 := J3.suite he3 hd3 na nL nF
    have LT : PySem.W.Looks (model X.prog X.w) h3 (typeOf (.ref a)) cls := fun A Q E s k q => wpAny_typeOf_ref (k _ _ he3) (by rw [hz3.1]; exact q)
    have test : ∀ {x : Str} {c : Value} {np : Pos} {Q : Value → Shared → Prop} {E : Value → Shared → Prop}, Names X x c → Q c { s' with heap := h3 } → wpAny (model X.prog X.w) (X.A.mark (some (.ref a))) (eval (.Name x np) X.env) Q E { s' with heap := h3 } := fun {x c np Q E} hc q => by
      obtain ⟨hg, hdbg, hm | ⟨hm, hv, hnn⟩⟩ := hc
      · exact ld_glob (X := X.suite a ((a, oe3) :: (X.pn ++ pins))) S3 hg hm q hdbg
      · exact ld_blt (X := X.suite a ((a, oe3) :: (X.pn ++ pins))) S3 hg hm hv q hnn hdbg
    have go : ∀ {hds' : List ExceptHandler} {l' : List (Value × Option Nat × (Addr → Value → Option Addr → TS))}, HdsMix X hds' l' → wMix X.K Wout D l' cls d σ' H' →
        wpAny (model X.prog X.w) X.A (handleBy (.ref a) X.env hds') (SP X pins D) X.xe { s' with heap := h3 } := by
      intro hds' l' hk
      induction hk with
      | nil =>
        intro w
        refine wpAny_handleBy_nil ?_
        obtain ⟨k1, k2, k3, oe, vs, T, oT, ts', he, hz, hd, h1, hr⟩ := id fl3
        unfold PySem.passOn
        refine wpAny_bind (wpAny_field he hd h1 ?_)
        rw [if_neg (show ¬ ((Value.ref T == Value.none) = true) from by simp)]
        have fin : wpAny (model X.prog X.w) X.A (setFlight (.ref a) X.env.frame) (fun _ s4 => wpAny (model X.prog X.w) X.A (throw (.ref a) : Sem Flow) (SP X pins D) X.xe s4) X.xe { s' with heap := h3 } := by
          rw [hf]
          refine HandSPX.setFlight_upZ fl3 fun h4 hh4 up4 => wpAny_throw (tk _ _ ?_)
          exact ⟨a, B, sI, pins, σ', H', cls, d, rfl, J, nb, (up.trans up3).trans up4, .inr (.inr (by rw [hs]; exact hh4)), na, os, ag, w⟩
        first
          | exact wpAny_bind (wpAny_pure (wpAny_bind fin))
          | exact wpAny_bind fin
      | @cons x c ts b₀ suite np pos' hds2 l2 hc hsu r ih =>
        intro w
        obtain ⟨b, hb1, hyes, hno⟩ := w
        refine wpAny_handleBy_cons (codeAny_handlers_test ?_) (by intro q; cases q)
        have LM := PySem.W.exm_one (M := model X.prog X.w) (J3.kIn) LT hb1
        refine test hc (LM.here ?_)
        cases b with
        | true =>
          refine codeAny_handlers_suite ?_
          refine HandSPX.lands_againZ fl3 fun h4 fl4 up4 => ?_
          have J4 : Inv X pins σ' H' { s' with heap := h4 } := J.landed nb fl4.1 ((up.trans up3).trans up4) os ag
          obtain ⟨oe4, vs4, he4, hz4, hd4⟩ := fl4.there
          have S4 := J4.suite he4 hd4 na nL nF
          refine wpAny_mono ((hsu a oe4 cls d (X.pn ++ pins) hz4 ⟨_, hd4⟩).run [] _ _ H' _ S4 (hyes rfl a na)) (fun f s6 hsp => ?_) (fun _ _ z => False.elim z)
          cases f with
          | next =>
            obtain ⟨σ6, H6, S6, q6⟩ := hsp
            exact ⟨_, _, S6.unsuite ok, q6⟩
          | brk =>
            obtain ⟨σ6, H6, S6, q6⟩ := hsp
            exact ⟨_, _, S6.unsuite ok, q6⟩
          | cont =>
            obtain ⟨σ6, H6, S6, q6⟩ := hsp
            exact ⟨_, _, S6.unsuite ok, q6⟩
          | ret u =>
            obtain ⟨v6, σ6, H6, S6, r6, q6⟩ := hsp
            exact ⟨_, _, _, S6.unsuite ok, r6, q6⟩
        | false =>
          show wpAny _ X.A (handleBy (.ref a) X.env hds2) _ _ _
          exact ih (hno rfl)
      | @named x n i c ts b₀ suite np pos' hds2 l2 hc hN hi hln hsu r ih =>
        intro w
        obtain ⟨b, hb1, hyes, hno⟩ := w
        have hloc : Loc X.env.scope n := .inl hln
        refine wpAny_handleBy_cons (codeAny_handlers_test ?_) (by intro q; cases q)
        have LM := PySem.W.exm_one (M := model X.prog X.w) (J3.kIn) LT hb1
        refine test hc (LM.here ?_)
        cases b with
        | true =>
          refine codeAny_handlers_suite_as ?_
          refine HandSPX.lands_againZ fl3 fun h4 fl4 up4 => ?_
          have J4 : Inv X pins σ' H' { s' with heap := h4 } := J.landed nb fl4.1 ((up.trans up3).trans up4) os ag
          obtain ⟨oe4, vs4, he4, hz4, hd4⟩ := fl4.there
          have S4 := J4.suite he4 hd4 na nL nF
          refine store_ok (X := X.suite a ((a, oe4) :: (X.pn ++ pins))) (v := .ref a) S4 hN hi hloc rfl (fun s5 S5 => ?_) (.inr hln)
          refine wpAny_mono ((hsu a oe4 cls d (X.pn ++ pins) hz4 ⟨_, hd4⟩).run [] s5 _ H' _ S5 (hyes rfl a na)) (fun f s6 hsp => ?_) (fun _ _ z => False.elim z)
          have end_ : ∀ {σ6 : St} {H6 : Hp} {Q : Shared → Prop}, Inv (X.suite a ((a, oe4) :: (X.pn ++ pins))) [] σ6 H6 s6 → (∀ s7, Inv X pins (σ6.set i none) H6 s7 → Q s7) →
              wpAny (model X.prog X.w) X.A (do bindName X.env n .none; unbindBehindTheSuite X.env n pos') (fun _ s7 => Q s7) X.xe s6 := fun {σ6 H6 Q} S6 hq => gone_ok (S6.unsuite ok) hN hi hln hq
          cases f with
          | next =>
            obtain ⟨σ6, H6, S6, q6⟩ := hsp
            exact end_ S6 fun s7 J7 => ⟨_, _, J7, q6⟩
          | brk =>
            obtain ⟨σ6, H6, S6, q6⟩ := hsp
            exact end_ S6 fun s7 J7 => ⟨_, _, J7, q6⟩
          | cont =>
            obtain ⟨σ6, H6, S6, q6⟩ := hsp
            exact end_ S6 fun s7 J7 => ⟨_, _, J7, q6⟩
          | ret u =>
            obtain ⟨v6, σ6, H6, S6, r6, q6⟩ := hsp
            exact end_ S6 fun s7 J7 => ⟨_, _, _, J7, r6, q6⟩
        | false =>
          show wpAny _ X.A (handleBy (.ref a) X.env hds2) _ _ _
          exact ih (hno rfl)
    exact go hh w
  · cases f with
    | next =>
      obtain ⟨σ', H', J', q⟩ := hsp
      exact wpAny_execs_nil ⟨σ', H', J'.ofTry ok, q⟩
    | brk =>
      obtain ⟨σ', H', J', q⟩ := hsp
      exact ⟨σ', H', J'.ofTry ok, q⟩
    | cont =>
      obtain ⟨σ', H', J', q⟩ := hsp
      exact ⟨σ', H', J'.ofTry ok, q⟩
    | ret u =>
      obtain ⟨v, σ', H', J', r, q⟩ := hsp
      exact ⟨v, σ', H', J'.ofTry ok, r, q⟩
end
end L2

namespace LamX
open PySem PySem.Spec PyProof.Rows L2
/-- how the making of a lambda changes the abstract heap: its code object c' is found in the table at P, or new and told there -/
def Grow (H H1 : Hp) (P c' : Addr) (q : Str) : Prop := (H1 = H ∧ H c' = some (CodeO c' q)) ∨
  ∃ (pos : Pos) (ps : Array Value), H P = some (.tbl ps) ∧ H c' = none ∧ H1 = upd (upd H P (.tbl (ps ++ #[rawInt pos.line, rawInt pos.col, .ref c']))) c' (CodeO c' q)
theorem Grow.code {H H1 : Hp} {P c' : Addr} {q : Str} (g : Grow H H1 P c' q) : H1 c' = some (CodeO c' q) := by
  rcases g with ⟨rfl, h⟩ | ⟨pos, ps, _, _, rfl⟩
  · exact h
  · exact upd_same
section
variable {X : Cx} {pins : List (Addr × Obj)} {σ : L2.St} {H : Hp} {s : Shared}
/-- the lambda is made: its code object is new, or found in the table -/
theorem lam_make3 {c P : Addr} {params : Arguments} {body : Expr} {scope : Scope} {pos : Pos} {E : Value → Shared → Prop} {Q : Value → Shared → Prop} (I : Inv X pins σ H s) (TB : TabB X.base X.mg c P) (hcode : X.env.code = .ref c)
    (hT : TabS H P (X.env.qual ++ "<lambda>")) (hdef : defaultsOf params X.env = ([], [])) (hfree : ∀ y ∈ scope.names, y.2 = .free → ∃ c, X.env.cells.lookup y.1 = some c)
    (h : ∀ (f c' : Addr) (pm ctv : Value) (H1 : Hp) (s' : Shared), Inv X pins σ H1 s' → Grow H H1 P c' (X.env.qual ++ "<lambda>") →
      s'.heap.get? f = some (PySem.W.kla_obj "<lambda>" (X.env.qual ++ "<lambda>") params body scope (cloFrom X.env.cells scope.names []) pm c' ctv) → H1 f = none → f ∉ frs X.stack → Q (.ref f) s') :
    wpAny (model X.prog X.w) X.A (eval (.Lambda params body scope pos) X.env) Q E s := by
  obtain ⟨ps, hP, ht, ha⟩ := hT
  refine PySem.W.kla_eval hdef ?_
  have bP : s.heap.BuiltinsAt X.mg P := TB.bm.keeps I.bk
  have hP' : s.heap.get? P = some { cls := .none, data := .fields ps } := I.hok P _ hP
  have nofr : ∀ f, s.heap.objs.size ≤ f → f ∉ frs X.stack := fun f hf z => by
    rcases List.mem_cons.mp (I.stkSub _ z) with e | e
    · have h1 := I.lt
      rw [← e] at h1
      exact Nat.lt_irrefl _ (Nat.lt_of_lt_of_le h1 hf)
    · exact I.nofs hf e
  cases hc : codeAmong pos ps.toList with
  | none =>
    refine PySem.W.kla_makeFunction (mg := X.mg) (c := c) (P := P) (ps := ps) (closure_ok hfree) I.ok.glob (I.mod.glob.keeps I.bk) hcode (TB.code.keeps I.bk) hP' ht hc TB.gP bP fun c' ctv h' tk hx hge hlt hrec htb => ?_
    obtain ⟨c2, oc, vs, t, e2, hoc, hd, hv⟩ := hrec
    cases e2
    have hsz : s.heap.objs.size ≤ h'.objs.size := Nat.le_trans hge (Nat.le_of_lt hlt)
    have nC : H c' = none := I.hok.fresh hge
    have I1 := inv_table (t' := tk) (more := #[rawInt pos.line, rawInt pos.col, .ref c']) (h' := h'.push (PySem.W.kla_obj "<lambda>" (X.env.qual ++ "<lambda>") params body scope (cloFrom X.env.cells scope.names []) ((X.mg "__name__").getD .none) c' ctv)) I hP
      (fun b o hb e => Heap.get?_push_of_some _ (hx b o hb e)) (Heap.get?_push_of_some _ htb) hge ⟨oc, vs, t, Heap.get?_push_of_some _ hoc, hd, hv⟩
    refine h h'.objs.size c' ((X.mg "__name__").getD .none) ctv _ _ I1 (.inr ⟨pos, ps, hP, nC, rfl⟩) (Heap.get?_push_size _ rfl) ?_ (nofr _ hsz)
    have n1 : h'.objs.size ≠ c' := Nat.ne_of_gt hlt
    have n2 : h'.objs.size ≠ P := Nat.ne_of_gt (Nat.lt_of_lt_of_le (Heap.lt_size hP') hsz)
    rw [upd_ne n1, upd_ne n2]
    exact I.hok.fresh hsz
  | some cv =>
    obtain ⟨c', e, hco⟩ := ha pos cv hc
    subst e
    refine PySem.W.kla_makeFunctionHit (mg := X.mg) (c := c) (P := P) (ps := ps) (closure_ok hfree) I.ok.glob (I.mod.glob.keeps I.bk) hcode (TB.code.keeps I.bk) hP' ht hc bP fun ctv h' tk hx hsz => ?_
    have I1 : Inv X pins σ H { s with heap := h'.push (PySem.W.kla_obj "<lambda>" (X.env.qual ++ "<lambda>") params body scope (cloFrom X.env.cells scope.names []) ((X.mg "__name__").getD .none) c' ctv), toks := tk } := I.kept fun b o e => Heap.get?_push_of_some _ (hx b o e)
    exact h h'.objs.size c' ((X.mg "__name__").getD .none) ctv H _ I1 (.inl ⟨rfl, hco⟩) (Heap.get?_push_size _ rfl) (I.hok.fresh hsz) (nofr _ hsz)
end
section
variable {X : Cx} {pins : List (Addr × Obj)} {σ : L2.St} {H HZ : Hp} {s s1 : Shared}
/-- x(), in the def that got the lambda; what is raised is wished for at that def's slots -/
theorem pe_actS {CXg : CXT} {Eg : XK} {Ng : List Str} {qg : Str} {sg : Scope} {g f c' : Addr} {cdg pm ctv : Value} {params : Arguments} {body : Expr} {scope : Scope} {k i : Nat} {a : Str} {pn : List (Addr × Obj)} {xe : Value → Shared → Prop} {W : WX} {tb : XK → TE} {p1 p2 : Pos}
    (I : Inv X pins σ H s) (L : LamS X.env.scope scope) (hf : s.heap.get? f = some (PySem.W.kla_obj "<lambda>" (X.env.qual ++ "<lambda>") params body scope (cloFrom X.env.cells scope.names []) pm c' ctv)) (hfn : H f = none) (hfr : f ∉ frs X.stack)
    (hbind : bindArgs (PySem.W.kla_fn "<lambda>" (X.env.qual ++ "<lambda>") params body scope (cloFrom X.env.cells scope.names []) pm (.ref c') ctv) ⟨[], []⟩ = pure [])
    (tk : Takes ((cxOf CXg X.prog X.w X.K X.mg X.base Ng qg sg g cdg X.A X.stack s H Eg).tr pn xe) W) (hr : Room (k + 1) (X.A.deeper (envOfC qg sg s.heap.objs.size g cdg)))
    (hbody : ∀ (A : Around) (outer : List Env) (s : Shared) (H : Hp) (E : XK), Room k (A.deeper (lamEnv X scope s.heap.objs.size f c')) → PE (lamCx X A outer s H E scope f c') body (tb E))
    (hN : Ng[i]? = some a) (hv : Vis sg a) (hd : (a == ("__debug__" : Str)) = false := by decide) (hcd : (a == ("__classdict__" : Str)) = false := by decide) :
    PE ((cxOf CXg X.prog X.w X.K X.mg X.base Ng qg sg g cdg X.A X.stack s H Eg).tr pn xe) (.Call (.Name a p1) [] [] p2)
      (fun σZ HZ Q => σZ[i]? = some (some (.ref f)) ∧ HZ c' = some (CodeO c' (X.env.qual ++ "<lambda>")) ∧ tb (WE W σZ) σ HZ Q) := by
  refine ⟨fun pinsZ sZ σZ HZ Q IZ h => ?_⟩
  obtain ⟨hs, hc, ht⟩ := h
  refine wpAny_Call_Name_kw (thn ((pe_var (pos := p1) (i := i) hN hv hd hcd).run pinsZ sZ σZ HZ (fun v H1 => v = .ref f ∧ H1 = HZ) IZ ⟨.ref f, hs, rfl, rfl⟩) fun u s1 ⟨v, H1, I1, r1, q1⟩ => ?_)
  obtain ⟨ev, eH⟩ := q1
  subst ev
  rw [eH] at I1
  obtain rfl : u = Value.ref f := r1
  have of1 : s1.heap.get? f = some (PySem.W.kla_obj "<lambda>" (X.env.qual ++ "<lambda>") params body scope (cloFrom X.env.cells scope.names []) pm c' ctv) := I1.base.keep f _ hf hfn hfr (fun z => nomatch (show f ∈ ([] : List Addr) from z))
  refine PySem.W.callWith_F0 ⟨_, _, _, _, of1⟩ ?_
  have un : Un (frs X.stack) [] H HZ s.heap s1.heap := I1.base
  obtain ⟨⟨oc, vs, t, hoc, hdc, hvc⟩, _, _⟩ := I1.hok c' _ hc
  have rc : codeAny (model X.prog X.w) (X.A.deeper (envOfC qg sg s.heap.objs.size g cdg)) (.call (.ref f) ⟨[], []⟩) (CR (L2.CX X.prog X.w) (envOfC qg sg s.heap.objs.size g cdg :: X.stack) X.prog X.w HZ s1 Q (WE W σZ)) s1 := by
    refine PySem.W.kla_callFunE hr.depth of1 rfl L.co L.gen rfl ⟨c', oc, vs, t, rfl, hoc, hdc, hvc⟩ ?_
    rw [hbind]
    refine wpAny_pure (wpAny_newFunctionEnv (fun y hy => (L.own y hy).2) (fun y hy => absurd hy (by simp)) (fun h₁ hns hsb => ⟨I1.nolimit.fresh _ hsb, ?_⟩) L.kind)
    show codeAny _ _ (.expr body (lamEnv X scope s1.heap.objs.size f c')) _ _
    have kp : ∀ b o, s1.heap.get? b = some o → h₁.get? b = some o := fun b o e => hsb.extBut b o (Nat.ne_of_lt (Heap.lt_size e)) (Heap.get?_push_of_some _ e)
    have J : Inv (lamCx X (X.A.deeper (envOfC qg sg s.heap.objs.size g cdg)) (envOfC qg sg s.heap.objs.size g cdg :: X.stack) s1 HZ (WE W σZ) scope f c') [] σ HZ { s1 with heap := h₁, toks := s1.toks + ([] : List (Str × Value)).length } :=
      lam_start2 I L I1.env0 hr.hd un hns kp
    refine PySem.W.kla_codeExpr (wpAny_mono ((hbody _ _ s1 HZ (WE W σZ) (hr.deeper _)).run [] _ _ HZ Q J ht) (fun v s' hq => ?_) fun e s' hq => hq)
    obtain ⟨w', H', J', rv, q⟩ := hq
    exact ⟨w', H', J'.os, J'.bare, J'.base, J'.hok, rv, q⟩
  refine wpAny_call (codeAny_mono rc fun r s' hq => ?_)
  cases r with
  | error e => exact passAt tk σZ pinsZ HZ s1 e s' I1 hq
  | ok fl =>
    cases fl with
    | ret u => exact I1.after hq
    | next => exact False.elim hq
    | brk => exact False.elim hq
    | cont => exact False.elim hq
end
/-- the context of the def that got the lambda -/
abbrev metCx (P : Program) (w : World) (K : PySem.W.Frag) (mg : Str → Option Value) (base : Heap) (A : Around) (stack : List Env) (Ng : List Str) (x : Str) (sg : Scope) (g : Addr) (cdg : Value) (s : Shared) (H : Hp) : Cx := cxOf C8.CX0 P w K mg base Ng x sg g cdg A stack s H C8.E0
/-- the def that calls what it got: a calls it; TT: what it makes of the lambda's reading -/
def GivesToS (P : Program) (w : World) (K : PySem.W.Frag) (mg : Str → Option Value) (base : Heap) (A : Around) (stack : List Env) (Ng : List Str) (x : Str) (sg : Scope) (g : Addr) (cdg : Value) (bg : List Stmt) (a : Str) (q : Str) (TT : (XK → Hp → VK → Prop) → Hp → VK → Prop) : Prop :=
  ∀ (f c' : Addr) (s : Shared) (H : Hp) (Q : VK) (tl : XK → Hp → VK → Prop),
    (∀ (W : WX) (pn : List (Addr × Obj)) (xe : Value → Shared → Prop) (p1 p2 : Pos), Takes ((metCx P w K mg base A stack Ng x sg g cdg s H).tr pn xe) W →
      PE ((metCx P w K mg base A stack Ng x sg g cdg s H).tr pn xe) (.Call (.Name a p1) [] [] p2) (fun σZ HZ Q => σZ[0]? = some (some (.ref f)) ∧ HZ c' = some (CodeO c' q) ∧ tl (WE W σZ) HZ Q)) →
    H c' = some (CodeO c' q) → TT tl H Q →
    ∃ t, PSs (metCx P w K mg base A stack Ng x sg g cdg s H).nox bg t ∧ t { nx := fun _ H' => Q .non H', rt := Q } (L2.start Ng [.ref f]) H
def tLamS (P : Addr) (q : Str) (TT : (XK → Hp → VK → Prop) → Hp → VK → Prop) (t : XK → TE) : TE := fun σ H Q => TabS H P q ∧ ∀ H1 c', Grow H H1 P c' q → TT (fun E H' Q' => t E σ H' Q') H1 Q
section
variable {X : Cx}
/-- x(lambda: body) -/
theorem pe_lamcallS {TT : (XK → Hp → VK → Prop) → Hp → VK → Prop} {x a : Str} {g c P : Addr} {k : Nat} {pg : Arguments} {bg : List Stmt} {sg : Scope} {dV kV doc pm cdv ct oc : Value} {an od : Option Addr} {osl : Array (Option Value)} {Ng : List Str}
    {params : Arguments} {body : Expr} {scope : Scope} {t : XK → TE} {p lpos pos : Pos} (hg : Gl X x) (hm : X.mg x = some (.ref g)) (hk : PySem.W.keepIn X.K (.ref g) = true)
    (lk : X.K.lookup g = some ⟨oc, od, .func (PySem.W.fnOf x x pg bg sg dV kV doc pm an cdv ct), osl⟩) (hcg : PySem.W.codeIn X.K cdv x = true) (hb : L2.Binds X.K (PySem.W.fnOf x x pg bg sg dV kV doc pm an cdv ct) [a] []) (Sg : FnScope Ng [a] sg) (hNg : Ng[0]? = some a) (hva : Vis sg a)
    (hG : GivesToS X.prog X.w X.K X.mg X.base X.A X.stack Ng x sg g cdv bg a (X.env.qual ++ "<lambda>") TT)
    (TB : TabB X.base X.mg c P) (hcode : X.env.code = .ref c) (hr : Room (k + 2) X.A) (L : LamS X.env.scope scope) (hdef : defaultsOf params X.env = ([], []))
    (hbind : ∀ (q : Str) (cl : List (Str × Addr)) (pm cv ctv : Value), bindArgs (PySem.W.kla_fn "<lambda>" q params body scope cl pm cv ctv) ⟨[], []⟩ = pure [])
    (hbody : ∀ (A : Around) (outer : List Env) (s : Shared) (H : Hp) (E : XK) (f c' : Addr), Room k (A.deeper (lamEnv X scope s.heap.objs.size f c')) → PE (lamCx X A outer s H E scope f c') body (t E))
    (hdb : (x == ("__debug__" : Str)) = false := by decide) (hd : (a == ("__debug__" : Str)) = false := by decide) (hcd : (a == ("__classdict__" : Str)) = false := by decide) :
    PE X (.Call (.Name x p) [.Lambda params body scope lpos] [] pos) (tLamS P (X.env.qual ++ "<lambda>") TT t) := by
  refine ⟨fun pins s σ H Q I h => ?_⟩
  obtain ⟨hT, h⟩ := h
  refine wpAny_Call_Name_kw (ld_glob I hg hm ?_ hdb)
  refine PySem.W.callWith_K (h₀ := X.base) I.ok.mod.kin hk ?_ (by rfl) (by rfl)
  show wpAny _ _ (spliced ((false, eval (.Lambda params body scope lpos) X.env) :: backTo pos (starEach [] X.env))) _ _ s
  refine Calls.spliced_cons (lam_make3 I TB hcode hT hdef (L.has I.ok) fun f c' pm' ctv H1 s' I1 eG hf hfn hfr => ?_)
  refine Calls.spliced_nil ⟨I1.kIn, ?_⟩
  have rc : codeAny (model X.prog X.w) X.A (.call (.ref g) ⟨[.ref f], []⟩) (CR C8.CX0 X.stack X.prog X.w H1 s' Q C8.E0) s' := by
    refine run_ofS (N := Ng) (ps := [a]) (us := [.ref f]) (vs := [.ref f]) lk hcg Sg hr I1.env0 (hb s' [.ref f] I1.kIn rfl) (.cons rfl .nil) rfl fun hr' => ?_
    obtain ⟨t', ht', hq'⟩ := hG f c' s' H1 Q (fun E H' Q' => t E σ H' Q') (fun W pn xe p1 p2 tk => pe_actS (i := 0) I1 L hf hfn hfr (hbind _ _ _ _ _) tk hr' (fun A outer s H E hr2 => hbody A outer s H E f c' hr2) hNg hva hd hcd) eG.code (h H1 c' eG)
    exact ⟨t', ht'.nox, hq'⟩
  refine wpAny_call (codeAny_mono rc fun r s2 hq => ?_)
  cases r with
  | error e => exact (show False from hq).elim
  | ok fl =>
    cases fl with
    | ret u => exact I1.after hq
    | next => exact False.elim hq
    | brk => exact False.elim hq
    | cont => exact False.elim hq
end
/-! ### defs called where no repr runs -/
structure FnG (P : Program) (w : World) (K : PySem.W.Frag) (mg : Str → Option Value) (base : Heap) (CX : CXT) (k : Nat) (f : Addr) (fd : FuncData) (ps : List Str) (sp : Sp) : Prop where
  len : ∀ vs H Q E, sp vs H Q E → vs.length = ps.length
  run : ∀ (A : Around) (outer : List Env) (s : Shared) (H : Hp) (args : Args) (us : List Value) (vs : List V) (Q : VK) (E : XK), Room k A → A.guards = some [] → Env0 P w K mg base A outer s H → BindsTo s fd args (ps.zip us) → Vals vs us → sp vs H Q E →
    codeAny (model P w) A (.call (.ref f) args) (CR CX outer P w H s Q E) s
theorem deeper_guards {A : Around} {env : Env} (h : A.guards = some []) : (A.deeper env).guards = some [] := by
  obtain ⟨hd, d, fr, gs, u⟩ := A
  obtain rfl : gs = some [] := h
  first | rfl | simp [Around.deeper, pushGuards]
theorem run_ofG {CX : CXT} {P : Program} {w : World} {K : PySem.W.Frag} {mg : Str → Option Value} {base : Heap} {k : Nat} {f : Addr} {name qual : Str} {params : Arguments} {body : List Stmt} {scope : Scope} {dV kV doc pm cdv ct oc : Value} {an od : Option Addr}
    {osl : Array (Option Value)} {N ps : List Str} {sp : Sp} (lk : K.lookup f = some ⟨oc, od, .func (PySem.W.fnOf name qual params body scope dV kV doc pm an cdv ct), osl⟩) (hcd : PySem.W.codeIn K cdv qual = true) (S : FnScope N ps scope)
    (len : ∀ vs H Q E, sp vs H Q E → vs.length = ps.length)
    (hbody : ∀ (A : Around) (outer : List Env) (s : Shared) (H : Hp) (vs : List V) (Q : VK) (E : XK), Room k (A.deeper (envOfC qual scope s.heap.objs.size f cdv)) → A.guards = some [] → sp vs H Q E →
      ∃ t, PSs (cxOf CX P w K mg base N qual scope f cdv A outer s H E) body t ∧ t { nx := fun _ H' => Q .non H', rt := Q } (L2.start N vs) H) :
    FnG P w K mg base CX (k + 1) f (PySem.W.fnOf name qual params body scope dV kV doc pm an cdv ct) ps sp := by
  refine ⟨len, fun A outer s H args us vs Q E hr hg e0 hb r hsp => ?_⟩
  exact run_ofS lk hcd S hr e0 hb r (len _ _ _ _ hsp) fun hr' => hbody A outer s H vs Q E hr' hg hsp
section
variable {X : Cx} {CX : CXT} {k : Nat} {f : Addr} {fd : FuncData} {ps : List Str} {sp : Sp} {E : L2.St → XK} {x : Str} {p pos : Pos} {e : Expr} {es : List Expr} {t : TA}
theorem pe_callG (F : FnG X.prog X.w X.K X.mg X.base CX k f fd ps sp) (hr : Room k X.A) (hgu : X.A.guards = some []) (hg : Gl X x) (hm : X.mg x = some (.ref f)) (hk : PySem.W.keepIn X.K (.ref f) = true) (hb : Binds X.K fd ps []) (hx : ∀ σ, PassesAt CX X σ (E σ))
    (ha : PA X (e :: es) t) (hdb : (x == ("__debug__" : Str)) = false := by decide) (he : starEach (e :: es) X.env = (false, eval e X.env) :: starEach es X.env := by rfl) (hpl : (backTo pos (starEach es X.env)).any (·.1) = false := by rfl) :
    PE X (.Call (.Name x p) (e :: es) [] pos) (tCallS sp E t) := by
  refine ⟨fun pins s σ H Q I h => ?_⟩
  refine wpAny_Call_Name_kw (ld_glob I hg hm ?_ hdb)
  refine PySem.W.callWith_K (h₀ := X.base) I.ok.mod.kin hk (thn (ha.run pos pins s σ H _ I h) fun us s1 ⟨vs, H1, I1, r, q⟩ => ⟨I1.kIn, ?_⟩) he hpl
  have hl : us.length = ps.length := by rw [← r.length]; exact F.len _ _ _ _ q
  have b := hb s1 us I1.kIn (by rw [List.append_nil]; exact hl)
  rw [List.append_nil] at b
  refine wpAny_call (codeAny_mono (F.run X.A X.stack s1 H1 ⟨us, []⟩ us vs Q (E σ) hr hgu I1.env0 b r q) fun r s' hq => ?_)
  cases r with
  | error e => exact hx σ pins H1 s1 e s' I1 hq
  | ok fl =>
    cases fl with
    | ret u => exact I1.after hq
    | next => exact False.elim hq
    | brk => exact False.elim hq
    | cont => exact False.elim hq
end
/-- the law called, tables of code objects laid -/
theorem law_callG {P : Program} {w : World} {K : PySem.W.Frag} {mg mb : Str → Option Value} {CX : CXT} {k : Nat} {fa a : Addr} {cs : List (Addr × Addr)} {fd : FuncData} {x : Str} {sp : Sp} {s₁ : Shared} {vs : List Value} {ns : List Int}
    (KX : K.In s₁.heap) (hns : s₁.heap.Ns mainGlobals mg) (hb : s₁.heap.Ns builtinsNs mb) (hbb : ∀ x : Str, x ≠ "__name__" → mb x = bootBuiltins x) (hlim : s₁.heap.NoLimit) (hg : s₁.gens = #[])
    (hT : ∀ p ∈ cs, s₁.heap.get? p.2 = some { cls := .none, data := .fields #[] }) (nT : ∀ p ∈ cs, K.lookup p.2 = none) (C : ∀ p ∈ cs, PySem.W.CodeHd s₁.heap p.1 p.2)
    (hbm : ∃ (bm : Addr) (ob : Obj), mg "__builtins__" = some (.ref bm) ∧ bm ≠ builtinsNs ∧ s₁.heap.get? bm = some ob ∧ ob.cls = .type "module" ∧ ob.dict = some builtinsNs ∧ ob.data = .plain)
    (ha : s₁.heap.get? a = some { cls := .type "list", data := .seq vs.toArray }) (hi : IntsAre vs ns) (hl : ns.length ≤ sizeLine) (hr : Room k callerA)
    (F : ∀ base : Heap, K.In base → base.Ns mainGlobals mg → (∀ p ∈ cs, TabB base mg p.1 p.2) → FnG P w K mg base CX k fa fd [x] sp) (hbind : ∀ (s : Shared) (u : Value), BindsTo s fd ⟨[u], []⟩ [(x, u)])
    (hsp : ∀ H : Hp, (∀ p ∈ cs, H p.2 = some (.tbl #[])) → SqL K H a (ns.map V.int) → sp [.ref a] H (fun v _ => v = .bl true) fun _ _ _ => False)
    (hCX : ∀ H e s', CX [] H s₁ (fun _ _ _ => False) e s' → False) :
    codeAny (model P w) callerA (.call (.ref fa) ⟨[.ref a], []⟩) (fun r s' => r = .ok (.ret (.bool true)) ∧ OldK s₁.heap s'.heap ∧ s'.os = s₁.os ∧ AllBare s'.gens) s₁ := by
  have rv := vals_ints hi
  have lenV := hi.length
  have isT : ∀ b : Addr, b ∈ cs.map (·.2) → s₁.heap.get? b = some { cls := .none, data := .fields #[] } := fun b hb => by
    obtain ⟨p, hp, e⟩ := List.mem_map.mp hb
    rw [← e]
    exact hT p hp
  have aT : a ∉ cs.map (·.2) := fun z => by
    have q := isT a z
    rw [ha] at q
    have z' : Data.seq vs.toArray _ = Data.fields #[] := congrArg Obj.data (Option.some.inj q)
    cases z'
  have memT : ∀ p ∈ cs, p.2 ∈ cs.map (·.2) := fun p hp => List.mem_map.mpr ⟨p, hp, rfl⟩
  -- from an abstract heap in which nothing but the script and the tables may be tracked
  have core : ∀ H : Hp, (∀ p ∈ cs, H p.2 = some (.tbl #[])) → (∀ b, H b = none ∨ b ∈ cs.map (·.2) ∨ ∃ o xs, H b = some (.frz o (.lst xs))) → SqL K H a (ns.map V.int) → HOk P w H s₁.heap → (∀ b, H b ≠ none → b = a ∨ b ∈ cs.map (·.2)) → (H a ≠ none → K.lookup a = none) →
      codeAny (model P w) callerA (.call (.ref fa) ⟨[.ref a], []⟩) (fun r s' => r = .ok (.ret (.bool true)) ∧ OldK s₁.heap s'.heap ∧ s'.os = s₁.os ∧ AllBare s'.gens) s₁ := by
    intro H hH hO hS hok hA hK
    have base_of : ∀ {b : Addr} {o : Obj}, s₁.heap.get? b = some o → H b = none → (hidT s₁.heap H).get? b = some o := fun e n => hidT_get e n
    have noD : ∀ {b : Addr} {o : Obj}, s₁.heap.get? b = some o → (∀ vs n, o.data ≠ .seq vs n) → o.data ≠ .fields #[] → H b = none := fun {b o} e h1 h2 => by
      cases q : H b with
      | none => rfl
      | some u =>
        rcases hA b (by rw [q]; simp) with e' | e'
        · rw [e', ha] at e
          cases e
          exact (h1 _ _ rfl).elim
        · rw [isT b e'] at e
          cases e
          exact (h2 rfl).elim
    have noA : ∀ {b : Addr} {o : Obj} {es : Array DictEntry} {ep : Nat}, s₁.heap.get? b = some o → o.data = .dict es ep → H b = none := fun {b o es ep} e d => by
      refine noD e (fun vs n z => ?_) fun z => ?_
      · rw [d] at z
        cases z
      · rw [d] at z
        cases z
    have nsK : ∀ {b : Addr} {m : Str → Option Value}, s₁.heap.Ns b m → (hidT s₁.heap H).Ns b m := fun {b m} ⟨o, es, ep, e, d, r⟩ => ⟨o, es, ep, base_of e (noA e d), d, r⟩
    have hKb : K.In (hidT s₁.heap H) := fun b o e => base_of (KX b o e) (by
      cases q : H b with
      | none => rfl
      | some u =>
        rcases hA b (by rw [q]; simp) with e' | e'
        · rw [e'] at e q
          rw [hK (by rw [q]; simp)] at e
          cases e
        · obtain ⟨p, hp, ep⟩ := List.mem_map.mp e'
          rw [← ep, nT p hp] at e
          cases e)
    have hM : L2.Mod K mg (hidT s₁.heap H) := ⟨hKb, nsK hns, ⟨mb, nsK hb, hbb⟩, let ⟨mc, h1, h2⟩ := hlim; ⟨mc, nsK h1, h2⟩⟩
    have TB : ∀ p ∈ cs, TabB (hidT s₁.heap H) mg p.1 p.2 := fun p hp => by
      have hTp := hT p hp
      refine ⟨?_, ?_, fun z => ?_⟩
      · obtain ⟨o, us, file, tf, flags, tg, inF, text, tt, e1, r1, r2, r3, r4, r5, r6, r7, r8, hne⟩ := C p hp
        refine ⟨o, us, file, tf, flags, tg, inF, text, tt, base_of e1 (noD e1 (fun vs n z => ?_) fun z => ?_), r1, r2, r3, r4, r5, r6, r7, r8, hne⟩
        · rw [r2] at z
          cases z
        · rw [r2] at z
          cases z
          simp at r3
      · obtain ⟨bm, ob, b1, b2, b3, b4, b5, b6⟩ := hbm
        have nG : bm ≠ mainGlobals := fun q => by
          obtain ⟨o, es, ep, e, hd, _⟩ := hns
          rw [q, e] at b3
          cases b3
          rw [hd] at b6
          cases b6
        have nP : bm ≠ p.2 := fun q => by
          rw [q, hTp] at b3
          cases b3
          cases b6
        refine ⟨bm, ob, b1, b2, nG, nP, base_of b3 (noD b3 (fun vs n z => ?_) fun z => ?_), b4, b5, b6⟩
        · rw [b6] at z
          cases z
        · rw [b6] at z
          cases z
      · obtain ⟨o, es, ep, e, hd, _⟩ := hns
        rw [z, hTp] at e
        cases e
        cases hd
    have e0 : Env0 P w K mg (hidT s₁.heap H) callerA [] s₁ H := ⟨rfl, hM, fun b o e => of_hidT e, Nat.le_of_eq (hidT_size _ _), trivial, fun b hb => absurd (show b ∈ ([] : List Addr) from hb) (by simp), hok, .of_eq hg⟩
    refine codeAny_mono ((F _ hKb (nsK hns) TB).run callerA [] s₁ H ⟨[.ref a], []⟩ [.ref a] [.ref a] _ _ hr rfl e0 (hbind s₁ (.ref a)) (.cons rfl .nil) (hsp H hH hS)) fun r s' h => ?_
    cases r with
    | error e => exact (hCX H e s' h).elim
    | ok fl =>
      cases fl with
      | next => exact False.elim h
      | brk => exact False.elim h
      | cont => exact False.elim h
      | ret u =>
        obtain ⟨v, H', os, bare, un, hok', r', q⟩ := h
        have q' : v = .bl true := q
        subst q'
        obtain rfl : u = Value.bool true := r'
        have key : ∀ b o, b ∉ cs.map (·.2) → s₁.heap.get? b = some o → s'.heap.get? b = some o := fun b o nb e => by
          cases q : H b with
          | none => exact un.keep b o e q (by intro z; exact absurd (show b ∈ ([] : List Addr) from z) (by simp)) (by simp)
          | some u =>
            rcases hO b with z | z | ⟨ob, xs, z⟩
            · rw [q] at z; cases z
            · exact absurd z nb
            · have z2 := un.frzs b ob _ z
              obtain ⟨e1, _⟩ := hok b _ z
              obtain ⟨e2, _⟩ := hok' b _ z2
              rw [e] at e1; cases e1
              exact e2
        have grown : ∀ p ∈ cs, ∃ more : Array Value, s'.heap.get? p.2 = some { cls := .none, data := .fields more } := fun p hp => by
          obtain ⟨more, z⟩ := un.tbls p.2 #[] (hH p hp)
          exact ⟨_, hok' p.2 _ z⟩
        refine ⟨rfl, ⟨fun b o e => ?_, fun b o e => ?_⟩, os, bare⟩
        · by_cases hb : b ∈ cs.map (·.2)
          · obtain ⟨p, hp, ep⟩ := List.mem_map.mp hb
            obtain ⟨more, hm⟩ := grown p hp
            rw [← ep] at e ⊢
            rw [hT p hp] at e
            cases e
            exact .inr (.inl ⟨((C p hp).tab (hT p hp)).isCodeTable, rfl, #[], more, rfl, by rw [Array.empty_append]; exact hm⟩)
          · exact .inl (key b o hb e)
        · by_cases hb : b ∈ cs.map (·.2)
          · obtain ⟨p, hp, ep⟩ := List.mem_map.mp hb
            obtain ⟨more, hm⟩ := grown p hp
            rw [← ep]
            exact ⟨_, hm⟩
          · exact ⟨o, key b o hb e⟩
  cases hk : K.lookup a with
  | some o =>
    have e := KX a o hk
    rw [ha] at e
    cases e
    refine core (fun b => if b ∈ cs.map (·.2) then some (.tbl #[]) else none) (fun p hp => if_pos (memT p hp)) (fun b => ?_) (.inr ⟨_, vs.toArray, _, hk, rfl, rfl, rfl, by rw [List.size_toArray, lenV]; exact hl, by simpa using rv⟩) (fun b u z => ?_) (fun b z => ?_) fun z => absurd (show (if a ∈ cs.map (·.2) then some (HO.tbl #[]) else none) = none from if_neg aT) z
    · by_cases hb : b ∈ cs.map (·.2)
      · exact .inr (.inl hb)
      · exact .inl (if_neg hb)
    · by_cases hb : b ∈ cs.map (·.2)
      · have z' := (if_pos hb).symm.trans z
        cases z'
        exact isT b hb
      · have z' := (if_neg hb).symm.trans z
        cases z'
    · by_cases hb : b ∈ cs.map (·.2)
      · exact .inr hb
      · exact absurd (if_neg hb) z
  | none =>
    refine core (fun b => if b = a then some (.frz { cls := .type "list", data := .seq vs.toArray } (.lst (ns.map V.int))) else if b ∈ cs.map (·.2) then some (.tbl #[]) else none) (fun p hp => (if_neg (show ¬ p.2 = a from fun z => aT (by rw [← z]; exact memT p hp))).trans (if_pos (memT p hp))) (fun b => ?_)
      (.inl (.inr ⟨{ cls := .type "list", data := .seq vs.toArray }, if_pos rfl⟩)) (fun b u z => ?_) (fun b z => ?_) fun _ => hk
    · by_cases hb : b = a
      · exact .inr (.inr ⟨_, _, if_pos hb⟩)
      · by_cases hb2 : b ∈ cs.map (·.2)
        · exact .inr (.inl hb2)
        · exact .inl ((if_neg hb).trans (if_neg hb2))
    · by_cases hb : b = a
      · have z' := (if_pos hb).symm.trans z
        cases z'
        rw [hb]
        exact ⟨ha, by rw [List.length_map]; exact hl, vs, _, rv, ha⟩
      · have z1 := (if_neg hb).symm.trans z
        by_cases hb2 : b ∈ cs.map (·.2)
        · have z' := (if_pos hb2).symm.trans z1
          cases z'
          exact isT b hb2
        · have z' := (if_neg hb2).symm.trans z1
          cases z'
    · by_cases hb : b = a
      · exact .inl hb
      · by_cases hb2 : b ∈ cs.map (·.2)
        · exact .inr hb2
        · exact absurd ((if_neg hb).trans (if_neg hb2)) z
/-- the end of a law row over the value layer: tables of code objects, no repr runs -/
theorem walk_vl {l : PySem.W.OpenLaw} {n k : Nat} {q : Program} {loose : List Str} {XP : (Str → Option Value) → Heap → Prop} {YP : World → Heap → Prop} {d : DefRec} {K : Params → PySem.W.Frag} {CX : World → CXT} {x : Str}
    (hn : l.most = some n) (hn2 : n ≤ sizeLine) (hdf : d.params.defaults = []) (hr : Room k callerA) (hY : ∀ (w : World) (h : Heap), YP w h → (K w.params).In h) (xs : List Str) (hxs : (xs.all fun x => ((recsOf q).find? (fun e => e.name == x)).isSome) = true)
    (F : ∀ (w : World) (mg : Str → Option Value) (fa : Addr) (h : Heap), (K w.params).In h → h.Ns mainGlobals mg → mg d.name = some (.ref fa) →
      ∃ (fd : FuncData) (ts : List (Str × Addr × Addr)) (sp : Sp), (∀ t ∈ ts, t.1 ∈ xs ∧ PySem.W.tabIn (K w.params) t.1 = some t.2 ∧ (K w.params).lookup t.2.2 = none) ∧ (∀ (s : Shared) (u : Value), BindsTo s fd ⟨[u], []⟩ [(x, u)]) ∧
      (∀ (H : Hp) (a : Addr) (ns : List Int), ns.length ≤ n → (∀ t ∈ ts, H t.2.2 = some (.tbl #[])) → SqL (K w.params) H a (ns.map V.int) → sp [.ref a] H (fun v _ => v = .bl true) fun _ _ _ => False) ∧
      ∀ base : Heap, (K w.params).In base → base.Ns mainGlobals mg → (∀ t ∈ ts, TabB base mg t.2.1 t.2.2) → FnG l.prog w (K w.params) mg base (CX w) k fa fd [x] sp)
    (hCX : ∀ (w : World) (H : Hp) (s : Shared) (e : Value) (s' : Shared), CX w [] H s (fun _ _ _ => False) e s' → False) :
    PySem.W.WalkO q loose XP YP l.row.toRowW d [] (fun f vs => PySem.call f vs) := by
  refine Att.attach_callB hn hdf fun w s₀ s₁ mg mb fa o pm cd doc a vs ns G Y ho hd hcd hmg hobj hints hlen hbits hg => ?_
  have KX := hY w _ Y
  obtain ⟨fd, ts, sp, hts, hb, hsp, hF⟩ := F w mg fa _ KX G.T.g hmg
  have tab : ∀ t ∈ ts, PySem.W.CodeHd s₁.heap t.2.1 t.2.2 ∧ s₁.heap.get? t.2.2 = some (PySem.W.tabObj #[]) := fun t ht => by
    obtain ⟨h1, h2, h3⟩ := hts t ht
    obtain ⟨dr, hdr⟩ := Option.isSome_iff_exists.mp (List.all_eq_true.mp hxs _ h1)
    exact PySem.W.tab_of G.T KX hdr h2
  refine law_callG (cs := ts.map (·.2)) (CX := CX w) (sp := sp) (fd := fd) (k := k) KX G.T.g G.T.b G.T.builtins G.T.nolimit hg ?_ ?_ ?_ G.T.bmain hobj hints (Nat.le_trans hlen hn2) hr ?_ hb ?_ fun H e s' => hCX w H s₁ e s'
  · intro p hp
    obtain ⟨t, ht, rfl⟩ := List.mem_map.mp hp
    exact (tab t ht).2
  · intro p hp
    obtain ⟨t, ht, rfl⟩ := List.mem_map.mp hp
    exact (hts t ht).2.2
  · intro p hp
    obtain ⟨t, ht, rfl⟩ := List.mem_map.mp hp
    exact (tab t ht).1
  · intro base KB NB TB
    exact hF base KB NB fun t ht => TB _ (List.mem_map_of_mem ht)
  · exact fun H hH hS => hsp H a ns hlen (fun t ht => hH _ (List.mem_map_of_mem ht)) hS
end LamX

namespace VL
open PySem PySem.Spec PyProof.Rows L2 LamX OwA
section
variable {X : Cx} {c : Cn} {W : WX} {φ φ' : Phi} {H H' H1 : Hp} {μ μ' : Mem} {ρ : Env} {σ : L2.St} {e : Expr} {es : List Expr} {f g : Env → M D} {fl : Env → M (List D)} {pos : Pos}
/-! ### raise of an own exception with a field -/
def xcF (C : String) (fld : Str) (ρ : Env) : List D → M VL.Flow
  | [d] => pure (.xc ρ ⟨C, some (fld, d)⟩)
  | _ => stuck
theorem repX_new {C : String} {fld : Str} {d : D} {v : V} {p : Addr} (w : WOk c φ μ H) (np : H p = none) (r : Rep c φ H d v) : RepX c φ (upd H p (.xd [(fld, v)])) ⟨C, some (fld, d)⟩ (.ref (c.cl C)) (some p) :=
  ⟨rfl, p, v, rfl, upd_same, w.new np, r.later (Later.laid w np).toKeep⟩
theorem vs_raiseF {C : String} {x fld : Str} {p p2 : Pos} (hc : X.calm = true) (tk : Takes X W)
    (h : VL X c W [e] fl) (hp : ∀ ta, PA X [e] ta → PMk X (.Call (.Name x p) [e] [] pos) (tMkF (c.cl C) fld ta)) :
    VS X c W (.Raise (some (.Call (.Name x p) [e] [] pos)) none p2) (fun ρ => liftS ρ (fl ρ) (xcF C fld ρ)) := by
  refine ⟨PS.weak (ps_raise hc tk (hp _ h.pa)) fun D σ H q => ?_⟩
  obtain ⟨φ, μ, ρ, w, he, q⟩ := q
  refine ⟨φ, μ, ρ, w, he, wp_mono (wpS_lift (R := RepL c) q he) fun vs H1 z => ?_⟩
  obtain ⟨φ1, μ1, ds, L, w1, r, h1⟩ := z
  unfold xcF at h1
  split at h1
  · obtain ⟨v, rfl, r0⟩ := repL1 r
    exact ⟨v, rfl, fun p np => h1 φ1 _ σ _ _ (Later.laid w1 np).toS (w1.laid np) ((he.later L).later (Later.laid w1 np)) (repX_new w1 np r0)⟩
  · exact h1.elim
/-! ### the store behind the making of a lambda -/
theorem Later.grow {P c' : Addr} {q : Str} (w : WOk c φ μ H) (hm : (P, q) ∈ c.T) (g : Grow H H1 P c' q) : Later φ H φ H1 := by
  rcases g with ⟨rfl, _⟩ | ⟨pos, ps, hP, hn, rfl⟩
  · exact .refl
  · obtain ⟨ps', hP', nP, _, _⟩ := w.tabs _ hm
    have nc : c' ≠ P := fun z => by rw [z, hP] at hn; cases hn
    have ne : ∀ b o, H b = some o → b ≠ P → upd (upd H P (.tbl (ps ++ #[rawInt pos.line, rawInt pos.col, .ref c']))) c' (CodeO c' q) b = some o := fun b o h hb => by
      rw [upd_ne (ne_of_none h hn), upd_ne hb]; exact h
    refine ⟨⟨fun _ _ h => h, fun b o _ h t => ne b o h fun z => t ps ?_, fun b ps2 _ h => ?_, fun b h n => absurd h n⟩, Nat.le_refl _, rfl, fun b hb => ?_⟩
    · rw [z, hP] at h
      exact (Option.some.inj h).symm
    · by_cases hb : b = P
      · subst hb
        rw [hP] at h
        cases h
        exact ⟨_, by rw [upd_ne (Ne.symm nc), upd_same]⟩
      · exact ⟨#[], by rw [ne b _ h hb]; simp⟩
    · have h0 := (w.hid b hb).1
      cases z : H b with
      | none => exact absurd z h0
      | some o => exact ne b o z fun e => nP (.inr (by rw [e] at hb; exact hb))
theorem WOk.grow {P c' : Addr} {q : Str} (w : WOk c φ μ H) (hm : (P, q) ∈ c.T) (hu : ∀ p ∈ c.T, p.1 = P → p.2 = q) (g : Grow H H1 P c' q) : WOk c φ μ H1 := by
  have L := Later.grow w hm g
  have same : ∀ b, own φ b → H1 b = H b := fun b hb => by
    rcases g with ⟨rfl, _⟩ | ⟨pos, ps, hP, hn, rfl⟩
    · rfl
    · obtain ⟨ps', hP', nP, _, _⟩ := w.tabs _ hm
      have h0 := w.there hb
      rw [upd_ne (fun z => h0 (by rw [z]; exact hn)), upd_ne (fun z => nP (by rw [z] at hb; exact hb))]
  refine ⟨w.len, fun k e h => ?_, fun b hb => ⟨by rw [same b (.inr hb)]; exact (w.hid b hb).1, (w.hid b hb).2⟩, w.inj, fun p hp => ?_⟩
  · obtain ⟨x, h1, h2⟩ := w.cell k e h
    exact ⟨x, h1, h2.later L.toKeep (same _ (.inl ⟨k, e, h, .inl rfl⟩)) (same _ (.inl ⟨k, e, h, .inr rfl⟩))⟩
  · rcases g with ⟨rfl, _⟩ | ⟨pos, ps, hP, hn, rfl⟩
    · exact w.tabs p hp
    · obtain ⟨qs, q1, q2, q3, q4⟩ := w.tabs p hp
      have keepC : ∀ k s, H k = some (CodeO k s) → upd (upd H P (.tbl (ps ++ #[rawInt pos.line, rawInt pos.col, .ref c']))) c' (CodeO c' q) k = some (CodeO k s) := fun k s h => by
        rw [upd_ne (ne_of_none h hn), upd_ne (fun z => by rw [z, hP] at h; exact absurd (Option.some.inj h).symm (codeO_ne ps))]
        exact h
      by_cases hb : p.1 = P
      · rw [hb] at q1 q2
        rw [hP] at q1
        cases q1
        refine ⟨ps ++ #[rawInt pos.line, rawInt pos.col, .ref c'], ?_, ?_, ?_, fun p' cv hcv => ?_⟩
        · rw [hb, upd_ne (fun z => by rw [z, hn] at hP; cases hP), upd_same]
        · rw [hb]; exact q2
        · have eL : (ps ++ #[rawInt pos.line, rawInt pos.col, .ref c']).toList = ps.toList ++ [rawInt pos.line, rawInt pos.col, .ref c'] := by simp
          rw [eL]
          exact PySem.TriplesOk_snoc _ _ _ _ q3
        · have eL : (ps ++ #[rawInt pos.line, rawInt pos.col, .ref c']).toList = ps.toList ++ [rawInt pos.line, rawInt pos.col, .ref c'] := by simp
          rw [eL] at hcv
          rcases among_app _ q3 hcv with z | z
          · obtain ⟨k, e1, e2, e3⟩ := q4 p' cv z
            exact ⟨k, e1, keepC _ _ e2, e3⟩
          · exact ⟨c', z, by rw [hu p hp hb]; exact upd_same, w.new hn⟩
      · refine ⟨qs, ?_, q2, q3, fun p' cv hcv => ?_⟩
        · rw [upd_ne (ne_of_none q1 hn), upd_ne hb]; exact q1
        · obtain ⟨k, e1, e2, e3⟩ := q4 p' cv hcv
          exact ⟨k, e1, keepC _ _ e2, e3⟩
/-! ### x(lambda: body) -/
/-- what the def makes of the call of what it got: m -/
def TTm (c : Cn) (gm : M D → M D) : (XK → Hp → VK → Prop) → Hp → VK → Prop := fun tl H Q =>
  ∃ (φ : Phi) (μ : Mem) (m : M D), WOk c φ μ H ∧ (∀ (E : XK) (φ' : Phi) (μ' : Mem) (H' : Hp) (Q' : VK), Later φ H φ' H' → WOk c φ' μ' H' → wpM c (Rep c) m φ' μ' H' Q' E → tl E H' Q') ∧ wpM c (Rep c) (gm m) φ μ H Q (fun _ _ _ => False)
theorem ve_lamcall {gm : M D → M D} {x a : Str} {g cq P : Addr} {k : Nat} {pg : Arguments} {bg : List Stmt} {sg : Scope} {dV kV doc pm cdv ct oc : Value} {an od : Option Addr} {osl : Array (Option Value)} {Ng : List Str}
    {params : Arguments} {body : Expr} {scope : Scope} {fb : Env → M D} {p lpos pos : Pos} (hg : Gl X x) (hm : X.mg x = some (.ref g)) (hk : PySem.W.keepIn X.K (.ref g) = true)
    (lk : X.K.lookup g = some ⟨oc, od, .func (PySem.W.fnOf x x pg bg sg dV kV doc pm an cdv ct), osl⟩) (hcg : PySem.W.codeIn X.K cdv x = true) (hb : L2.Binds X.K (PySem.W.fnOf x x pg bg sg dV kV doc pm an cdv ct) [a] []) (Sg : FnScope Ng [a] sg) (hNg : Ng[0]? = some a) (hva : Vis sg a)
    (hG : GivesToS X.prog X.w X.K X.mg X.base X.A X.stack Ng x sg g cdv bg a (X.env.qual ++ "<lambda>") (TTm c gm))
    (TB : TabB X.base X.mg cq P) (hcode : X.env.code = .ref cq) (hmT : (P, X.env.qual ++ "<lambda>") ∈ c.T) (hu : ∀ p ∈ c.T, p.1 = P → p.2 = X.env.qual ++ "<lambda>") (hr : Room (k + 2) X.A) (L : LamS X.env.scope scope) (hdef : defaultsOf params X.env = ([], []))
    (hbind : ∀ (q : Str) (cl : List (Str × Addr)) (pm cv ctv : Value), bindArgs (PySem.W.kla_fn "<lambda>" q params body scope cl pm cv ctv) ⟨[], []⟩ = pure [])
    (hbody : ∀ (A : Around) (outer : List PySem.Env) (s : Shared) (H : Hp) (E : XK) (f c' : Addr), Room k (A.deeper (lamEnv X scope s.heap.objs.size f c')) → Takes (lamCx X A outer s H E scope f c') (fun cls d _ H => E cls d H) → VE (lamCx X A outer s H E scope f c') c (fun cls d _ H => E cls d H) body fb)
    (hdb : (x == ("__debug__" : Str)) = false := by decide) (hd : (a == ("__debug__" : Str)) = false := by decide) (hcd : (a == ("__classdict__" : Str)) = false := by decide) :
    VE X c W (.Call (.Name x p) [.Lambda params body scope lpos] [] pos) (fun ρ => noX (gm (fb ρ))) := by
  refine ⟨PE.weak (pe_lamcallS (TT := TTm c gm) (t := fun E => tV c (fun cls d _ H => E cls d H) fb) hg hm hk lk hcg hb Sg hNg hva hG TB hcode hr L hdef hbind (fun A outer s H E f c' hr2 => (hbody A outer s H E f c' hr2 (takes_of rfl rfl rfl rfl)).pe) hdb hd hcd) fun σ H Q h => ?_⟩
  obtain ⟨φ, μ, ρ, w, he, h⟩ := h
  obtain ⟨ps, t1, _, t2, t3⟩ := w.tabs _ hmT
  refine ⟨⟨ps, t1, t2, fun pos cv hcv => ?_⟩, fun H1 c' gr => ?_⟩
  · obtain ⟨k, e1, e2, _⟩ := t3 pos cv hcv
    exact ⟨k, e1, e2⟩
  · have L1 := Later.grow w hmT gr
    have w1 := w.grow hmT hu gr
    refine ⟨φ, μ, fb ρ, w1, fun E φ' μ' H' Q' L' w' h' => ⟨φ', μ', ρ, w', (he.later L1).later L', h'⟩, ?_⟩
    have h2 : wpM c (Rep c) (gm (fb ρ)) φ μ H Q (fun _ _ _ => False) := wp_noX h
    unfold wpM at h2 ⊢
    split at h2
    · exact fun φ' H' b L' => h2 φ' H' b (L1.trans L')
    · exact fun φ' H' k d L' => h2 φ' H' k d (L1.trans L')
    · exact h2
/-! ### a suite that gives out what the exception keeps -/
def tH (c : Cn) (a : Addr) (cls : Value) (d : Option Addr) (i : Nat) (C : String) (fld : Str) (f : D → M D) : TE := fun σ H Q =>
  ∃ φ μ x, WOk c φ μ H ∧ σ[i]? = some (some (.ref a)) ∧ cls = .ref (c.cl C) ∧ (∃ dx v, d = some dx ∧ H dx = some (.xd [(fld, v)]) ∧ Rep c φ H x v) ∧ wpM c (Rep c) (f x) φ μ H Q (fun _ _ _ => False)
def tHL (c : Cn) (a : Addr) (cls : Value) (d : Option Addr) (i : Nat) (C : String) (fld : Str) (f : D → M (List D)) : TA := fun σ H Q =>
  ∃ φ μ x, WOk c φ μ H ∧ σ[i]? = some (some (.ref a)) ∧ cls = .ref (c.cl C) ∧ (∃ dx v, d = some dx ∧ H dx = some (.xd [(fld, v)]) ∧ Rep c φ H x v) ∧ wpM c (RepL c) (f x) φ μ H Q (fun _ _ _ => False)
variable {a : Addr} {cls : Value} {d : Option Addr} {i : Nat} {C : String} {fld : Str} {fh gh : D → M D} {flh : D → M (List D)}
structure VH (X : Cx) (c : Cn) (a : Addr) (cls : Value) (d : Option Addr) (i : Nat) (C : String) (fld : Str) (e : Expr) (f : D → M D) : Prop where
  pe : PE X e (tH c a cls d i C fld f)
structure VHL (X : Cx) (c : Cn) (a : Addr) (cls : Value) (d : Option Addr) (i : Nat) (C : String) (fld : Str) (es : List Expr) (f : D → M (List D)) : Prop where
  pa : PA X es (tHL c a cls d i C fld f)
theorem vh_fld {oe : Obj} {pn : List (Addr × Obj)} {n : Str} {p : Pos} (T : XfC X.K (c.cl C)) (hno : PySem.W.findIn X.K (.ref (c.cl C)) fld = some none) (hz : Zc cls d oe) (hf : ∃ vs, oe.data = .fields vs)
    (hn : PE (X.suite a ((a, oe) :: pn)) (.Name n p) (tVar i)) (hb : attributeBase (.Name n p) fld X.env (eval (.Name n p) X.env) = eval (.Name n p) X.env := by rfl) : VH (X.suite a ((a, oe) :: pn)) c a cls d i C fld (.Attribute (.Name n p) fld pos) (fun x => pure x) :=
  ⟨PE.weak (pe_xf T hno hz hf hn hb) fun σ H Q h => by
    obtain ⟨φ, μ, x, w, hs, hc, ⟨dx, v, hd, hx, r⟩, h⟩ := h
    exact ⟨_, hs, rfl, hc, dx, _, v, hd, hx, by simp [List.lookup], wp_pure h w r⟩⟩
theorem vhl_one (h : VH X c a cls d i C fld e fh) (hs : starEach [e] X.env = (false, eval e X.env) :: starEach [] X.env := by rfl) : VHL X c a cls d i C fld [e] (fun x => fh x >>= fun y => pure [y]) :=
  ⟨PA.weak (pa_cons h.pe pa_nil hs) fun σ H Q h => by
    obtain ⟨φ, μ, x, w, hs, hc, hd, h⟩ := h
    refine ⟨φ, μ, x, w, hs, hc, hd, wp_mono (wp_bind h) fun v H1 z => ?_⟩
    obtain ⟨φ1, μ1, y, L, w1, r, h1⟩ := z
    exact wp_pure h1 w1 (RepL.one r)⟩
theorem vhl_str {z : Str} {j : Nat} {p : Pos} (h : VHL X c a cls d i C fld es flh) (hs : starEach (.Constant (.str z) j p :: es) X.env = (false, eval (.Constant (.str z) j p) X.env) :: starEach es X.env := by rfl) : VHL X c a cls d i C fld (.Constant (.str z) j p :: es) (fun x => flh x >>= fun r => pure (.str z :: r)) :=
  ⟨PA.weak (pa_cons pe_str h.pa hs) fun σ H Q h => by
    obtain ⟨φ, μ, x, w, hs, hc, hd, h⟩ := h
    refine ⟨φ, μ, x, w, hs, hc, hd, wp_mono (wp_bind h) fun vs H1 y => ?_⟩
    obtain ⟨φ1, μ1, ds, L, w1, r, h1⟩ := y
    refine wp_pure h1 w1 ?_
    simp only [RepL]
    exact ⟨_, vs, rfl, of_str, r⟩⟩
theorem vh_tup {x1} (h : VHL X c a cls d i C fld es flh) : VH X c a cls d i C fld (.Tuple es x1 pos) (fun x => flh x >>= mkTup) :=
  ⟨PE.weak (pe_tup h.pa) fun σ H Q h => by
    obtain ⟨φ, μ, x, w, hs, hc, hd, h⟩ := h
    refine ⟨φ, μ, x, w, hs, hc, hd, wp_mono (wp_bind h) fun xs H1 y => ?_⟩
    obtain ⟨φ1, μ1, ds, L1, w1, r1, h1⟩ := y
    obtain ⟨hs, h1⟩ := wp_ask h1
    have hs := of_decide_eq_true hs
    refine ⟨r1.len ▸ hs, fun p np => wp_pureL h1 (Later.laid w1 np) (w1.laid np) ?_⟩
    simp only [Rep]
    exact ⟨p, xs, rfl, .inl ⟨.of upd_same, w1.new np⟩, r1.later (Later.laid w1 np).toKeep⟩⟩
theorem vh_call {id : String} {x : Str} {p : Pos} {k : List D → M D} (hc : CallV X c (.builtin id) k) (h : VHL X c a cls d i C fld [e] flh)
    (hp : ∀ r t, CallR X (.builtin id) r → PA X [e] t → PE X (.Call (.Name x p) [e] [] pos) (fun σ H Q => t σ H fun xs H1 => r xs H1 Q)) : VH X c a cls d i C fld (.Call (.Name x p) [e] [] pos) (fun y => flh y >>= k) := by
  obtain ⟨r, h1, h2⟩ := hc
  refine ⟨PE.weak (hp _ _ h1 h.pa) fun σ H Q q => ?_⟩
  obtain ⟨φ, μ, x, w, hs, hc, hd, q⟩ := q
  refine ⟨φ, μ, x, w, hs, hc, hd, wp_mono (wp_bind q) fun vs H1 z => ?_⟩
  obtain ⟨φ1, μ1, ds, L, w1, r1, q1⟩ := z
  exact h2 φ1 μ1 H1 ds vs Q _ w1 r1 q1
theorem vh_add {z : Str} {j : Nat} {p : Pos} (hK : OpV X c (binaryOp .Add) dAdd) (h : VH X c a cls d i C fld e fh) : VH X c a cls d i C fld (.BinOp (.Constant (.str z) j p) .Add e pos) (fun x => fh x >>= fun y => dAdd (.str z) y) := by
  obtain ⟨r, h1, h2⟩ := hK
  refine ⟨PE.weak (pe_op h1 pe_str h.pe) fun σ H Q q => ?_⟩
  obtain ⟨φ, μ, x, w, hs, hc, hd, q⟩ := q
  refine ⟨φ, μ, x, w, hs, hc, hd, wp_mono (wp_bind q) fun v H1 y => ?_⟩
  obtain ⟨φ1, μ1, x1, L, w1, r1, q1⟩ := y
  exact h2 φ1 μ1 H1 (.str z) x1 _ v Q _ w1 of_str r1 q1
/-! ### the clauses -/
def catchM : List ((String → Option Bool) × (Exn → M D)) → Exn → M D
  | [], _ => stuck
  | (ex, k) :: r, e => match ex e.cls with
    | some true => k e
    | some false => catchM r e
    | none => stuck
def retOf (m : M VL.Flow) : M D := fun μ => match m μ with
  | .ok (.rt d) μ' => .ok d μ'
  | _ => .stuck
theorem wpS_retOf {m : M VL.Flow} {D : Ends} (hi : c.ini = none) (h : wpM c (Rep c) (retOf m) φ μ H D.rt (fun _ _ _ => False)) : wpS c m φ μ H D W0 := by
  unfold wpM retOf at h
  unfold wpS
  cases hm : m μ with
  | ok fl μ1 =>
    rw [hm] at h
    cases fl with
    | rt d => exact fun φ' H' v L w r => h φ' H' v (L.to hi) w r
    | nx _ => exact h.elim
    | bk _ => exact h.elim
    | ct _ => exact h.elim
    | xc _ _ => exact h.elim
  | exn _ _ => rw [hm] at h; exact h
  | stuck => rw [hm] at h; exact h
/-- the same run at a grown heap -/
theorem wp_again {α β : Type} {R : Phi → Hp → α → β → Prop} {m m' : M α} {Q : β → Hp → Prop} {E : XW} (h : wpM c R m φ μ H Q E) (L : Later φ H φ' H') (e : m' μ' = m μ) : wpM c R m' φ' μ' H' Q E := by
  unfold wpM at h ⊢
  rw [e]
  split at h
  · exact fun φ2 H2 b L2 => h φ2 H2 b (L.trans L2)
  · exact fun φ2 H2 k d L2 => h φ2 H2 k d (L.trans L2)
  · exact h
def F0 : XW := fun _ _ _ => False
/-- the clauses hs say what hds does -/
structure VHds (X : Cx) (c : Cn) (n : Nat) (hds : List ExceptHandler) (hs : List ((String → Option Bool) × (Exn → M D))) : Prop where
  ex : ∃ l, HdsMix X hds l ∧ ∀ (e : Exn) (φ : Phi) (μ : Mem) (H : Hp) (k : Value) (d : Option Addr) (σ : L2.St) (D : Ends), WOk c φ μ H → RepX c φ H e k d → σ.length = n → wpM c (Rep c) (catchM hs e) φ μ H D.rt F0 → wMix X.K W0 D l k d σ H
variable {n : Nat} {hds : List ExceptHandler} {hs : List ((String → Option Bool) × (Exn → M D))}
theorem vhds_nil : VHds X c n [] [] := ⟨[], .nil, fun e φ μ H k d σ D w r hl h => h.elim⟩
theorem repE_none (h0 : c.ini = none) {k : Nat} (hl : σ.length = k) : RepE c φ H (List.replicate k none) σ :=
  ⟨by simp [hl], (fun _ => by simp [hl]), (fun i d _ e => by
    have := List.mem_of_getElem? e
    rw [List.mem_replicate] at this
    cases this.2), fun I e => absurd (h0.symm.trans e) (by simp)⟩
theorem vhds_cons {x : Str} {b₀ : Stmt} {suite : List Stmt} {np pos' : Pos} {s2 : Env → M VL.Flow} {ex : String → Option Bool} (hi : c.ini = none) (hc : Names X x (.ref (c.cl C))) (hex : ∀ n b, ex n = some b → PySem.W.exmOne X.K (.ref (c.cl n)) (.ref (c.cl C)) = some b)
    (hsu : ∀ (a : Addr) (oe : Obj) (cls : Value) (d : Option Addr) (pn : List (Addr × Obj)), Zc cls d oe → (∃ vs, oe.data = .fields vs) → VB (X.suite a ((a, oe) :: pn)) c W0 (b₀ :: suite) s2) (r : VHds X c n hds hs) :
    VHds X c n (.ExceptHandler (some (.Name x np)) none (b₀ :: suite) pos' :: hds) ((ex, fun _ => retOf (s2 (List.replicate n none))) :: hs) := by
  obtain ⟨l, hl, hr⟩ := r.ex
  refine ⟨(.ref (c.cl C), none, fun _ _ _ => tS c W0 s2) :: l, .cons hc (fun a oe cls d pn z q => (hsu a oe cls d pn z q).ps) hl, fun e φ μ H k d σ D w rx hσ h => ?_⟩
  unfold catchM at h
  have hk := rx.1
  cases hq : ex e.cls with
  | none => rw [hq] at h; exact h.elim
  | some b =>
    rw [hq] at h
    refine ⟨b, by rw [hk]; exact hex _ _ hq, fun hb a na => ?_, fun hb => ?_⟩
    · subst hb
      exact ⟨φ, μ, _, w, repE_none hi hσ, wpS_retOf hi h⟩
    · subst hb
      exact hr e φ μ H k d σ D w rx hσ h
def heldM (C : String) (fld : Str) (g : D → M D) (e : Exn) : M D := match e.arg with
  | some (f', x) => if f' = fld ∧ e.cls = C then g x else stuck
  | none => stuck
theorem vhds_named {x nm : Str} {i : Nat} {e : Expr} {np pos' p2 : Pos} {gh : D → M D} {ex : String → Option Bool} (hc : Names X x (.ref (c.cl C))) (hex : ∀ n b, ex n = some b → PySem.W.exmOne X.K (.ref (c.cl n)) (.ref (c.cl C)) = some b)
    (hN : X.N.Nodup) (hi : X.N[i]? = some nm) (hln : X.env.kindOf nm = some .local) (hn : i < n)
    (hsu : ∀ (a : Addr) (oe : Obj) (cls : Value) (d : Option Addr) (pn : List (Addr × Obj)), Zc cls d oe → (∃ vs, oe.data = .fields vs) → VH (X.suite a ((a, oe) :: pn)) c a cls d i C fld e gh) (r : VHds X c n hds hs) :
    VHds X c n (.ExceptHandler (some (.Name x np)) (some nm) [.Return (some e) p2] pos' :: hds) ((ex, heldM C fld gh) :: hs) := by
  obtain ⟨l, hl, hr⟩ := r.ex
  refine ⟨(.ref (c.cl C), some i, fun a cls d => fun D σ H => tRet (tH c a cls d i C fld gh) D σ H) :: l, .named hc hN hi hln (fun a oe cls d pn z q => pss_one (ps_ret (hsu a oe cls d pn z q).pe)) hl, fun e φ μ H k d σ D w rx hσ h => ?_⟩
  unfold catchM at h
  have hk := rx.1
  cases hq : ex e.cls with
  | none => rw [hq] at h; exact h.elim
  | some b =>
    rw [hq] at h
    refine ⟨b, by rw [hk]; exact hex _ _ hq, fun hb a na => ?_, fun hb => ?_⟩
    · subst hb
      unfold heldM at h
      have h2 := rx.2
      cases hq2 : e.arg with
      | none => simp only [hq2] at h; exact h.elim
      | some fx =>
        obtain ⟨f', y⟩ := fx
        simp only [hq2] at h h2
        by_cases hq3 : f' = fld ∧ e.cls = C
        · rw [if_pos hq3] at h
          obtain ⟨rfl, hC⟩ := hq3
          obtain ⟨dx, v, rfl, hx, nx, ry⟩ := h2
          exact ⟨φ, μ, y, w, List.getElem?_set_self (by omega), by rw [hk, hC], ⟨dx, v, rfl, hx, ry⟩, h⟩
        · rw [if_neg hq3] at h; exact h.elim
    · subst hb
      exact hr e φ μ H k d σ D w rx hσ h
/-! ### def met(call): try: call() / except ..: return .. / ..; the rest -/
def metM (hs : List ((String → Option Bool) × (Exn → M D))) (rest : M D) (m : M D) : M D := fun μ => match m μ with
  | .ok _ μ' => rest μ'
  | .exn e μ' => catchM hs e μ'
  | .stuck => .stuck
theorem met_gives {P : Program} {w0 : World} {K : PySem.W.Frag} {mg : Str → Option Value} {base : Heap} {A : Around} {stack : List PySem.Env} {Ng : List Str} {x a q : Str} {sg : Scope} {g : Addr} {cdg : Value} {p1 p2 p3 p8 : Pos} {h₀ : ExceptHandler} {rest : List Stmt} {s2 : Env → M VL.Flow} (h0 : ∀ f : Addr, (L2.start Ng [V.ref f])[0]? = some (some (V.ref f))) (hl : ∀ f : Addr, (L2.start Ng [V.ref f]).length = n) (hi : c.ini = none)
    (hh : ∀ (s : Shared) (H : Hp), VHds (metCx P w0 K mg base A stack Ng x sg g cdg s H).nox c n (h₀ :: hds) hs) (hrest : ∀ (s : Shared) (H : Hp), VB (metCx P w0 K mg base A stack Ng x sg g cdg s H).nox c W0 rest s2) :
    GivesToS P w0 K mg base A stack Ng x sg g cdg (.Try [.Expr (.Call (.Name a p1) [] [] p2) p3] (h₀ :: hds) [] [] p8 :: rest) a q (TTm c (metM hs (retOf (s2 (List.replicate n none))))) := by
  intro f c' s H Q tl act hc h
  obtain ⟨φ, μ, m, w, htl, hm⟩ := h
  obtain ⟨l, hl2, hr⟩ := (hh s H).ex
  refine ⟨_, pss_cons (ps_try_mix (X := (metCx P w0 K mg base A stack Ng x sg g cdg s H).nox)
      (tb := fun W D σ H => σ[0]? = some (some (.ref f)) ∧ H c' = some (CodeO c' q) ∧ tl (WE W σ) H (fun _ H' => D.nx σ H'))
      rfl rfl LamX.takes0 (fun W pn xe tk _ => ?_) hl2) (hrest s H).ps, ?_⟩
  · refine ⟨fun pins s' σ H' D I h' => ?_⟩
    exact (pss_one (ps_expr (pos := p3) (act W pn xe p1 p2 tk))).run pins s' σ H' D I h'
  · refine ⟨h0 f, hc, htl _ φ μ H _ .refl w ?_⟩
    unfold wpM
    cases hq : m μ with
    | ok y μ1 =>
      intro φ1 H1 v L w1 r
      refine ⟨φ1, μ1, _, w1, repE_none hi (hl f), wpS_retOf hi (wp_again hm L ?_)⟩
      unfold metM
      rw [hq]
    | exn e μ1 =>
      intro φ1 H1 k d L w1 r
      refine hr e φ1 μ1 H1 k d _ _ w1 r (hl f) (wp_again hm L ?_)
      unfold metM
      rw [hq]
    | stuck =>
      unfold wpM metM at hm
      rw [hq] at hm
      exact hm
end
end VL

namespace VL
open PySem PySem.Spec PyProof.Rows L2 LamX OwA
/-- a def of the text, its code object known -/
structure FunC (K : PySem.W.Frag) (x qual : Str) (st : Stmt) (f : Addr) (fd : FuncData) (cdv : Value) : Prop where
  ex : ∃ (oc : Value) (od : Option Addr) (kV doc pm : Value) (an : Option Addr) (ct : Value) (osl : Array (Option Value)),
    fd = PySem.W.fnOf x qual (defArgs st) (defBody st) (defScope st) .none kV doc pm an cdv ct ∧ K.lookup f = some ⟨oc, od, .func fd, osl⟩ ∧ PySem.W.codeIn K cdv qual = true
theorem func_mk {K : PySem.W.Frag} {x qual : Str} {st : Stmt} {f : Addr} {oc : Value} {od an : Option Addr} {osl : Array (Option Value)} {kV doc pm cdv ct : Value} (l : K.lookup f = some ⟨oc, od, .func (PySem.W.fnOf x qual (defArgs st) (defBody st) (defScope st) .none kV doc pm an cdv ct), osl⟩)
    (c : PySem.W.codeIn K cdv qual = true) : FunC K x qual st f (PySem.W.fnOf x qual (defArgs st) (defBody st) (defScope st) .none kV doc pm an cdv ct) cdv := ⟨⟨oc, od, kV, doc, pm, an, ct, osl, rfl, l, c⟩⟩
section
variable {X : Cx} {c : Cn} {W : WX} {φ φ' : Phi} {H H' H1 : Hp} {μ μ' : Mem} {ρ : Env} {σ : L2.St} {e : Expr} {es : List Expr} {f g : Env → M D} {fl : Env → M (List D)} {pos : Pos}
theorem fnv_okG {P : Program} {w : World} {K : PySem.W.Frag} {mg : Str → Option Value} {base : Heap} {x qual : Str} {st : Stmt} {f : Addr} {fd : FuncData} {cdv : Value} {N ps : List Str} {k : Nat} (F : FunC K x qual st f fd cdv) (h0 : c.ini = none) (S : FnScope N ps (defScope st)) {s : Env → M Flow}
    (hb : ∀ (A : Around) (outer : List PySem.Env) (s0 : Shared) (H : Hp) (E : XK), Room k (A.deeper (envOfC qual (defScope st) s0.heap.objs.size f cdv)) → A.guards = some [] →
      VB (cxOf (L2.CX P w) P w K mg base N qual (defScope st) f cdv A outer s0 H E) c (fun cls d _ H => E cls d H) (defBody st) s) : FnG P w K mg base (L2.CX P w) (k + 1) f fd ps (spD c ps.length (runF N.length s)) := by
  obtain ⟨oc, od, kV, doc, pm, an, ct, osl, rfl, lk, hcd⟩ := F.ex
  refine run_ofG lk hcd S (fun vs H Q E h => h.1) fun A outer s0 H vs Q E hr hg h => ⟨_, (hb A outer s0 H E hr hg).ps, ?_⟩
  obtain ⟨hl, φ, μ, ds, w, r, h⟩ := h
  refine ⟨φ, μ, _, w, repE_start h0 N.length r, ?_⟩
  unfold wpM runF at h
  unfold wpS
  cases hm : s (ds.map some ++ List.replicate (N.length - ds.length) none) μ with
  | ok a μ1 =>
    rw [hm] at h
    cases a with
    | nx ρ => exact fun φ1 H1 σ1 L1 w1 r1 => h φ1 H1 .non (L1.to h0) w1 of_non
    | rt d => exact fun φ1 H1 v L1 w1 r1 => h φ1 H1 v (L1.to h0) w1 r1
    | bk ρ => exact h.elim
    | ct ρ => exact h.elim
    | xc ρ e => exact fun φ1 H1 σ1 k1 d1 L1 w1 _ x1 => h φ1 H1 k1 d1 (L1.to h0) w1 x1
  | exn _ _ => rw [hm] at h; exact h
  | stuck => rw [hm] at h; exact h
theorem ve_callG {k n : Nat} {f : Addr} {fd : FuncData} {ps : List Str} {x : Str} {p : Pos} {m : List D → M D} (F : FnG X.prog X.w X.K X.mg X.base (L2.CX X.prog X.w) k f fd ps (spD c n m)) (hr : Room k X.A) (hgu : X.A.guards = some []) (hg : Gl X x) (hm : X.mg x = some (.ref f)) (hk : PySem.W.keepIn X.K (.ref f) = true) (hb : Binds X.K fd ps []) (tk : Takes X W)
    (ha : VL X c W (e :: es) fl) (hp : ∀ t, PA X (e :: es) t → PE X (.Call (.Name x p) (e :: es) [] pos) (tCallS (spD c n m) (WE W) t)) : VE X c W (.Call (.Name x p) (e :: es) [] pos) (fun ρ => fl ρ >>= callM n m) :=
  ⟨PE.weak (hp _ ha.pa) fun σ H Q h => by
    obtain ⟨φ, μ, ρ, w, he, h⟩ := h
    refine ⟨φ, μ, ρ, w, he, wp_mono (wp_bind h) fun vs H1 z => ?_⟩
    obtain ⟨φ1, μ1, ds, L1, w1, r1, h1⟩ := z
    obtain ⟨hn, h1⟩ := wp_ask h1
    exact ⟨by rw [← r1.len]; exact eq_of_beq hn, φ1, μ1, ds, w1, r1, h1⟩⟩
theorem ve_lamG {gm : M D → M D} {x a : Str} {st : Stmt} {g cq P : Addr} {fd : FuncData} {k : Nat} {cdv : Value} {Ng : List Str}
    {params : Arguments} {body : Expr} {scope : Scope} {fb : Env → M D} {p lpos : Pos} (F : FunC X.K x x st g fd cdv) (hg : Gl X x) (hm : X.mg x = some (.ref g)) (hk : PySem.W.keepIn X.K (.ref g) = true) (hb : L2.Binds X.K fd [a] []) (Sg : FnScope Ng [a] (defScope st)) (hNg : Ng[0]? = some a) (hva : Vis (defScope st) a)
    (hG : GivesToS X.prog X.w X.K X.mg X.base X.A X.stack Ng x (defScope st) g cdv (defBody st) a (X.env.qual ++ "<lambda>") (TTm c gm))
    (TB : TabB X.base X.mg cq P) (hcode : X.env.code = .ref cq) (hmT : (P, X.env.qual ++ "<lambda>") ∈ c.T) (hu : ∀ p ∈ c.T, p.1 = P → p.2 = X.env.qual ++ "<lambda>") (hr : Room (k + 2) X.A) (L : LamS X.env.scope scope) (hdef : defaultsOf params X.env = ([], []))
    (hbind : ∀ (q : Str) (cl : List (Str × Addr)) (pm cv ctv : Value), bindArgs (PySem.W.kla_fn "<lambda>" q params body scope cl pm cv ctv) ⟨[], []⟩ = pure [])
    (hbody : ∀ (A : Around) (outer : List PySem.Env) (s : Shared) (H : Hp) (E : XK) (f c' : Addr), Room k (A.deeper (lamEnv X scope s.heap.objs.size f c')) → Takes (lamCx X A outer s H E scope f c') (fun cls d _ H => E cls d H) → VE (lamCx X A outer s H E scope f c') c (fun cls d _ H => E cls d H) body fb)
    (hdb : (x == ("__debug__" : Str)) = false := by decide) (hd : (a == ("__debug__" : Str)) = false := by decide) (hcd : (a == ("__classdict__" : Str)) = false := by decide) :
    VE X c W (.Call (.Name x p) [.Lambda params body scope lpos] [] pos) (fun ρ => noX (gm (fb ρ))) := by
  obtain ⟨oc, od, kV, doc, pm, an, ct, osl, rfl, lk, hcd2⟩ := F.ex
  exact ve_lamcall hg hm hk lk hcd2 hb Sg hNg hva hG TB hcode hmT hu hr L hdef hbind hbody hdb hd hcd
/-! ### repr where no repr runs -/
def showOk (p : PyData) : Bool := p.showable && !p.hasDict && decide (p.depth ≤ 50) && small p.shown.length
theorem call_reprG (hgu : X.A.guards = some []) (hu : X.A.units + 100 < cLine) : CallR X (.builtin "repr") (fun xs H Q => ∃ v p, xs = [v] ∧ Dp X.K H v p ∧ showOk p = true ∧ Q (.str p.shown) H) := by
  intro pins s σ H xs us Q I r h
  obtain ⟨v, p, rfl, hd, hp, q⟩ := h
  obtain ⟨u, rfl, r1⟩ := vals1 r
  obtain ⟨as, rd⟩ := Dp.reads I p v u hd r1
  unfold showOk small at hp
  simp only [Bool.and_eq_true, Bool.not_eq_true', decide_eq_true_eq] at hp
  obtain ⟨⟨⟨h1, h2⟩, h3⟩, h4⟩ := hp
  cases hd with
  | non =>
    obtain rfl : u = .none := r1
    refine PySem.P.repr_of_none ⟨.str _, H, I.tok _, ⟨_, rfl⟩, ?_⟩
    simpa only [PyData.shown] using q
  | bl b =>
    obtain rfl : u = .bool b := r1
    refine PySem.P.repr_of_bool ⟨.str _, H, I.tok _, ⟨_, rfl⟩, ?_⟩
    simpa only [PyData.shown] using q
  | int i =>
    obtain ⟨t, rfl⟩ := r1
    simp only [PyData.showable, decide_eq_true_eq] at h1
    refine PySem.P.repr_of_int h1 ⟨.str _, H, I.tok _, ⟨_, rfl⟩, ?_⟩
    simpa only [PyData.shown] using q
  | str x =>
    obtain ⟨t, rfl⟩ := r1
    simp only [PyData.shown] at q h4
    exact PySem.P.repr_of_str ⟨.str _, H, I.tok _, ⟨_, rfl⟩, q⟩ h4
  | lst hs ha =>
    cases r1
    exact repr_of_reads' (h₀ := s.heap) rd h1 (PyData.noDict_hsm h2) hgu (by omega) (fun b o e => e) (fun h' u tk hk => ⟨.str _, H, I.kept (t' := tk) hk, ⟨_, rfl⟩, q⟩) h4
  | tup hs ha =>
    cases r1
    exact repr_of_reads' (h₀ := s.heap) rd h1 (PyData.noDict_hsm h2) hgu (by omega) (fun b o e => e) (fun h' u tk hk => ⟨.str _, H, I.kept (t' := tk) hk, ⟨_, rfl⟩, q⟩) h4
def reprG : List D → M D
  | [x] => datum x >>= fun p => ask (showOk p) >>= fun _ => pure (.str p.shown)
  | _ => stuck
theorem cv_reprG (hK : X.K = c.K) (hgu : X.A.guards = some []) (hu : X.A.units + 100 < cLine) : CallV X c (.builtin "repr") reprG := ⟨_, call_reprG hgu hu, fun φ μ H ds vs Q E w r h => by
  unfold reprG at h
  split at h
  · obtain ⟨v, rfl, r0⟩ := repL1 r
    obtain ⟨p, hd, h⟩ := wp_datum h w r0
    obtain ⟨hp, h⟩ := wp_ask h
    rw [hK]
    exact ⟨v, p, rfl, hd, hp, wp_pure h w of_str⟩
  · exact wp_stuck h⟩
theorem roomU {k : Nat} {A : Around} (hr : Room k A) : A.units + 100 < cLine := by have := hr.un; omega
/-! ### a call of a local name that holds one of some defs -/
def lookV (tab : String → Option (Nat × (List D → M D))) (x : D) : M (Nat × (List D → M D)) := match x with
  | .fn n => match tab n with
    | some km => pure km
    | none => stuck
  | _ => stuck
/-- the defs of a table -/
def TabV (P : Program) (w : World) (K : PySem.W.Frag) (mg : Str → Option Value) (base : Heap) (c : Cn) (k : Nat) (tab : String → Option (Nat × (List D → M D))) : Prop :=
  ∀ n km, tab n = some km → ∃ (fd : FuncData) (ps : List Str), FnOk P w K mg base (L2.CX P w) k (c.fn n) fd ps (spD c km.1 km.2) ∧ PySem.W.keepIn K (.ref (c.fn n)) = true ∧ Binds K fd ps []
theorem ve_callV {k i : Nat} {x : Str} {p : Pos} {tab : String → Option (Nat × (List D → M D))} (hq : c.lo i) (hT : TabV X.prog X.w X.K X.mg X.base c k tab) (hr : Room k X.A) (hN : X.N[i]? = some x) (hv : Vis X.env.scope x) (tk : Takes X W) (ha : VL X c W (e :: es) fl)
    (hdb : (x == ("__debug__" : Str)) = false := by decide) (hcd : (x == ("__classdict__" : Str)) = false := by decide)
    (he : starEach (e :: es) X.env = (false, eval e X.env) :: starEach es X.env := by rfl) (hpl : (backTo pos (starEach es X.env)).any (·.1) = false := by rfl) :
    VE X c W (.Call (.Name x p) (e :: es) [] pos) (fun ρ => rd i ρ >>= fun fv => lookV tab fv >>= fun km => fl ρ >>= fun ds => callM km.1 km.2 ds) := by
  refine ⟨⟨fun pins s σ H Q I h => ?_⟩⟩
  obtain ⟨φ, μ, ρ, w, hE, h⟩ := h
  unfold rd at h
  cases hi : ρ[i]? with
  | none => simp only [hi] at h; exact wp_stuck (α := D) (R := Rep c) h
  | some o =>
    cases o with
    | none => simp only [hi] at h; exact wp_stuck (α := D) (R := Rep c) h
    | some d =>
      simp only [hi] at h
      replace h : wpM c (Rep c) (lookV tab d >>= fun km => fl ρ >>= fun ds => callM km.1 km.2 ds) φ μ H Q (wEx W σ) := h
      obtain ⟨v, hs, rv⟩ := hE.at_ i d hq hi
      unfold lookV at h
      split at h
      · rename_i n
        simp only [Rep] at rv
        subst rv
        split at h
        · rename_i km ht
          replace h : wpM c (Rep c) (fl ρ >>= fun ds => callM km.1 km.2 ds) φ μ H Q (wEx W σ) := h
          obtain ⟨fd, ps, F, hk, hb⟩ := hT n km ht
          refine wpAny_Call_Name_kw (thn ((pe_var (pos := p) hN hv hdb hcd).run pins s σ H (fun v H1 => v = .ref (c.fn n) ∧ H1 = H) I ⟨.ref (c.fn n), hs, rfl, rfl⟩) fun u s1 ⟨v, H1, I1, r1, q1⟩ => ?_)
          obtain ⟨rfl, rfl⟩ := q1
          cases r1
          refine PySem.W.callWith_K (h₀ := X.base) I.ok.mod.kin hk (thn (ha.pa.run pos pins s1 σ _ (fun vs H1 => spD c km.1 km.2 vs H1 Q (WE W σ)) I1 ⟨φ, μ, ρ, w, hE, wp_mono (wp_bind h) fun vs H1 z => ?_⟩) fun us s2 ⟨vs, H2, I2, r, q⟩ => ⟨I2.kIn, ?_⟩) he hpl
          · obtain ⟨φ1, μ1, ds, L1, w1, r1, h1⟩ := z
            obtain ⟨hn, h1⟩ := wp_ask h1
            exact ⟨by rw [← r1.len]; exact eq_of_beq hn, φ1, μ1, ds, w1, r1, h1⟩
          · exact run_fnS (E := WE W) F hr hb (passAt tk σ) I2 r q
        · exact wp_stuck (c := c) (φ := φ) (μ := μ) (H := H) (Q := Q) (E := wEx W σ) (R := Rep c) (α := D) h
      · exact wp_stuck (c := c) (φ := φ) (μ := μ) (H := H) (Q := Q) (E := wEx W σ) (R := Rep c) (α := D) h
end
/-! ### the law's promise, tables of code objects laid -/
theorem sp_ofT {c : Cn} {m : List D → M D} (hm : ∀ ns : List Int, ns.length ≤ 63 → ∃ μ, m [.scr (ns.map D.int)] [] = .ok (.bl true) μ) {H : Hp} {a : Addr} {ns : List Int} (hl : ns.length ≤ 63) (hT : ∀ p ∈ c.T, H p.1 = some (.tbl #[])) (hs : SqL c.K H a (ns.map V.int)) :
    spD c 1 m [.ref a] H (fun v _ => v = .bl true) (fun _ _ _ => False) := by
  obtain ⟨μ, hm⟩ := hm ns hl
  have no : ∀ b, ¬ own ⟨[], []⟩ b := fun b z => by
    rcases z with ⟨k, e, h, _⟩ | z
    · simp at h
    · cases z
  refine ⟨rfl, ⟨[], []⟩, [], [.scr (ns.map D.int)], ⟨rfl, fun k e h => by simp at h, fun b h => (by cases h), fun i j e e' h => by simp at h, fun p hp => ⟨#[], hT p hp, no _, True.intro, fun pos cv hc => ?_⟩⟩, ?_, ?_⟩
  · have z : codeAmong pos [] = some cv := hc
    simp [codeAmong] at z
  · refine RepL.one ?_
    simp only [Rep]
    refine ⟨a, ns.map V.int, rfl, ?_, of_ints⟩
    rcases hs with hs | hs
    · exact .inl ⟨hs, no a⟩
    · exact .inr (.inr hs)
  · unfold wpM
    rw [hm]
    intro φ' H' b _ _ r
    exact rep_bl r
end VL

namespace VL
open PySem PySem.Spec PyProof.Rows L2 LamX OwA
/-! ### a run in a store of its own -/
mutual
def noPtr : D → Bool
  | .ptr _ => false
  | .tup xs | .lst xs | .ins _ xs | .scr xs | .dct _ xs => noPtrL xs
  | .non | .bl _ | .int _ | .str _ | .ty _ | .cls _ | .fn _ => true
def noPtrL : List D → Bool
  | [] => true
  | d :: r => noPtr d && noPtrL r
end
def noPtrC : Cell → Bool
  | .lst xs | .dct _ xs => noPtrL xs
def noPtrX (e : Exn) : Bool := match e.arg with
  | some (_, x) => noPtr x
  | none => true
section
variable {c : Cn} {φ φ' : Phi} {H H' : Hp} {μ μ' : Mem}
mutual
theorem Rep.np (ho : ∀ a, own φ' a → own φ a) : ∀ (d : D) (v : V), noPtr d = true → Rep c φ H d v → Rep c φ' H d v
  | .non, _, _, h => by simpa only [Rep] using h
  | .bl _, _, _, h => by simpa only [Rep] using h
  | .int _, _, _, h => by simpa only [Rep] using h
  | .str _, _, _, h => by simpa only [Rep] using h
  | .ty _, _, _, h => by simpa only [Rep] using h
  | .cls _, _, _, h => by simpa only [Rep] using h
  | .fn _, _, _, h => by simpa only [Rep] using h
  | .ptr _, _, n, _ => by simp [noPtr] at n
  | .tup ds, v, n, h => by
    simp only [noPtr] at n
    simp only [Rep] at h ⊢
    obtain ⟨a, vs, e, h, r⟩ := h
    refine ⟨a, vs, e, ?_, RepL.np ho ds vs n r⟩
    rcases h with ⟨h, k⟩ | h
    · exact .inl ⟨h, fun z => k (ho a z)⟩
    · exact .inr h
  | .scr ds, v, n, h => by
    simp only [noPtr] at n
    simp only [Rep] at h ⊢
    obtain ⟨a, vs, e, h, r⟩ := h
    refine ⟨a, vs, e, ?_, RepL.np ho ds vs n r⟩
    rcases h with ⟨h, k⟩ | h
    · exact .inl ⟨h, fun z => k (ho a z)⟩
    · exact .inr h
  | .lst ds, v, n, h => by
    simp only [noPtr] at n
    simp only [Rep] at h ⊢
    obtain ⟨a, vs, e, h, k, r⟩ := h
    exact ⟨a, vs, e, h, fun z => k (ho a z), RepL.np ho ds vs n r⟩
  | .dct ks ds, v, n, h => by
    simp only [noPtr] at n
    simp only [Rep] at h ⊢
    obtain ⟨a, vs, e, h, k, hl, r⟩ := h
    exact ⟨a, vs, e, h, fun z => k (ho a z), hl, RepL.np ho ds vs n r⟩
  | .ins C fs, v, n, h => by
    simp only [noPtr] at n
    simp only [Rep] at h ⊢
    obtain ⟨a, dx, vs, ws, e, hs, hd, k, m, ew, r⟩ := h
    exact ⟨a, dx, vs, ws, e, hs, hd, fun z => k (ho a z), fun z => m (ho dx z), ew, RepL.np ho fs vs n r⟩
theorem RepL.np (ho : ∀ a, own φ' a → own φ a) : ∀ (ds : List D) (vs : List V), noPtrL ds = true → RepL c φ H ds vs → RepL c φ' H ds vs
  | [], vs, _, h => by simpa only [RepL] using h
  | d :: ds, vs, n, h => by
    simp only [noPtrL, Bool.and_eq_true] at n
    simp only [RepL] at h ⊢
    obtain ⟨v, r, e, h1, h2⟩ := h
    exact ⟨v, r, e, Rep.np ho d v n.1 h1, RepL.np ho ds r n.2 h2⟩
end
theorem CellOk.np {e : Addr × Addr} {x : Cell} (ho : ∀ a, own φ' a → own φ a) (n : noPtrC x = true) (h : CellOk c φ H e x) : CellOk c φ' H e x := by
  cases x with
  | lst ds =>
    obtain ⟨a, vs, b, r⟩ := h
    exact ⟨a, vs, b, r.np ho _ _ n⟩
  | dct ks ds =>
    obtain ⟨a, vs, b, l, r⟩ := h
    exact ⟨a, vs, b, l, r.np ho _ _ n⟩
/-- all of the store but the cells ks -/
def restOf (st : List (Option (Addr × Addr))) (k : Option Nat) : List Addr :=
  (List.range st.length).flatMap fun i => if some i = k then [] else match st[i]? with
    | some (some e) => [e.1, e.2]
    | _ => []
theorem mem_rest {st : List (Option (Addr × Addr))} {k : Option Nat} {b : Addr} : b ∈ restOf st k ↔ ∃ i e, some i ≠ k ∧ st[i]? = some (some e) ∧ (b = e.1 ∨ b = e.2) := by
  unfold restOf
  rw [List.mem_flatMap]
  constructor
  · rintro ⟨i, _, h⟩
    split at h
    · cases h
    · rename_i hk
      split at h
      · rename_i e he
        refine ⟨i, e, hk, he, ?_⟩
        simpa using h
      · cases h
  · rintro ⟨i, e, hk, he, h⟩
    have hl : i < st.length := by
      rcases Nat.lt_or_ge i st.length with z | z
      · exact z
      · rw [List.getElem?_eq_none z] at he; cases he
    refine ⟨i, List.mem_range.mpr hl, ?_⟩
    rw [if_neg hk]
    simp only [he]
    simpa using h
/-- the store of cell k alone (or of none) -/
def locP (φ : Phi) (k : Option Nat) : Phi := ⟨match k with | some k => [(φ.st[k]?).getD none] | none => [], φ.hid ++ restOf φ.st k⟩
theorem own_loc (k : Option Nat) (hk : ∀ i, k = some i → ∃ e, φ.st[i]? = some (some e)) (b : Addr) : own (locP φ k) b ↔ own φ b := by
  unfold own
  constructor
  · rintro (⟨j, e, h, z⟩ | h)
    · cases k with
      | none => simp [locP] at h
      | some i =>
        obtain ⟨e0, he⟩ := hk i rfl
        simp only [locP, he] at h
        cases j with
        | zero =>
          simp at h
          subst h
          exact .inl ⟨i, e0, he, z⟩
        | succ j => simp at h
    · simp only [locP, List.mem_append] at h
      rcases h with h | h
      · exact .inr h
      · obtain ⟨i, e, _, he, z⟩ := mem_rest.mp h
        exact .inl ⟨i, e, he, z⟩
  · rintro (⟨j, e, h, z⟩ | h)
    · by_cases hj : some j = k
      · subst hj
        exact .inl ⟨0, e, by simp [locP, h], z⟩
      · exact .inr (List.mem_append.mpr (.inr (mem_rest.mpr ⟨j, e, hj, h, z⟩)))
    · exact .inr (List.mem_append.mpr (.inl h))
theorem loc_ok (k : Option Nat) (hk : ∀ i, k = some i → ∃ e x, φ.st[i]? = some (some e) ∧ μ[i]? = some x ∧ noPtrC x = true) (w : WOk c φ μ H) : WOk c (locP φ k) (match k with | some i => (match μ[i]? with | some x => [x] | none => []) | none => []) H := by
  have hk' : ∀ i, k = some i → ∃ e, φ.st[i]? = some (some e) := fun i h => let ⟨e, _, q, _⟩ := hk i h; ⟨e, q⟩
  have ho := own_loc (φ := φ) k hk'
  have hS : ∀ b, ownS (locP φ k) b → ∃ i e, k = some i ∧ φ.st[i]? = some (some e) ∧ (b = e.1 ∨ b = e.2) := fun b ⟨j, e, h, z⟩ => by
    cases k with
    | none => simp [locP] at h
    | some i =>
      obtain ⟨e0, he⟩ := hk' i rfl
      simp only [locP, he] at h
      cases j with
      | zero =>
        simp at h
        subst h
        exact ⟨i, e0, rfl, he, z⟩
      | succ j => simp at h
  refine ⟨?_, fun j e h => ?_, fun b hb => ⟨w.there ((ho b).mp (.inr hb)), fun z => ?_⟩, fun i j e e' h1 h2 hij => ?_, ?_⟩
  · cases k with
    | none => rfl
    | some i =>
      obtain ⟨e, x, h1, h2, h3⟩ := hk i rfl
      simp [locP, h2]
  · cases k with
    | none => simp [locP] at h
    | some i =>
      obtain ⟨e0, x, h1, h2, h3⟩ := hk i rfl
      simp only [locP, h1] at h
      cases j with
      | succ j => simp at h
      | zero =>
        simp at h
        subst h
        obtain ⟨x', q1, q2⟩ := w.cell i e0 h1
        rw [h2] at q1
        cases q1
        refine ⟨x, by simp [h2], q2.np (fun a z => (ho a).mp z) h3⟩
  · obtain ⟨i, e, hi, he, z⟩ := hS b z
    simp only [locP, List.mem_append] at hb
    rcases hb with hb | hb
    · exact (w.hid b hb).2 ⟨i, e, he, z⟩
    · obtain ⟨j, e', hj, he', z'⟩ := mem_rest.mp hb
      have hij : j ≠ i := fun q => hj (by rw [q, hi])
      obtain ⟨n1, n2, n3, n4⟩ := w.inj j i e' e he' he hij
      rcases z with rfl | rfl <;> rcases z' with z' | z'
      · exact n1 z'.symm
      · exact n3 z'.symm
      · exact n2 z'.symm
      · exact n4 z'.symm
  · cases k with
    | none => simp [locP] at h1
    | some n =>
      simp only [locP] at h1 h2
      cases i with
      | succ i => simp at h1
      | zero =>
        cases j with
        | succ j => simp at h2
        | zero => exact absurd rfl hij
  · exact w.tabs.keep (fun b o _ h => h) (fun b z n => absurd ((ho b).mp z) n)
/-- back in the whole store -/
theorem loc_back (k : Option Nat) (hk : ∀ i, k = some i → ∃ e x, φ.st[i]? = some (some e) ∧ μ[i]? = some x ∧ noPtrC x = true) (w : WOk c φ μ H) {φ1 : Phi} {μ1 : Mem} {H1 : Hp} (L : Later (locP φ k) H φ1 H1) (w1 : WOk c φ1 μ1 H1)
    (hc : ∀ i, k = some i → ∃ x, μ1[0]? = some x ∧ noPtrC x = true) :
    (∀ a, own φ a → own φ1 a) ∧ Later φ H φ H1 ∧ WOk c φ (match k with | some i => (match μ1[0]? with | some x => μ.set i x | none => μ) | none => μ) H1 := by
  have hk' : ∀ i, k = some i → ∃ e, φ.st[i]? = some (some e) := fun i h => let ⟨e, _, q, _⟩ := hk i h; ⟨e, q⟩
  have ho := own_loc (φ := φ) k hk'
  have up : ∀ a, own φ a → own φ1 a := fun a z => by
    rcases (ho a).mpr z with ⟨j, e, h, q⟩ | z
    · exact .inl ⟨j, e, L.pre j e h, q⟩
    · exact .inr (by rw [L.hid]; exact z)
  have LL : Later φ H φ H1 := ⟨⟨fun _ _ h => h, fun b o n h t => L.kp b o (fun z => n ((ho b).mp z)) h t, fun b ps n h => L.tb b ps (fun z => n ((ho b).mp z)) h, fun b z n => absurd z n⟩, Nat.le_refl _, rfl, fun b hb => L.hk b (List.mem_append.mpr (.inl hb))⟩
  refine ⟨up, LL, ?_⟩
  have len : (match k with | some i => (match μ1[0]? with | some x => μ.set i x | none => μ) | none => μ).length = μ.length := by
    cases k with
    | none => rfl
    | some i =>
      show (match μ1[0]? with | some x => μ.set i x | none => μ).length = _
      cases μ1[0]? <;> simp
  refine ⟨by rw [len]; exact w.len, fun j e h => ?_, fun b hb => ⟨by rw [LL.hk b hb]; exact (w.hid b hb).1, (w.hid b hb).2⟩, w.inj, w1.tabs.keep (fun b o _ h => h) (fun b z n => absurd (up b z) n)⟩
  by_cases hj : some j = k
  · subst hj
    obtain ⟨x, hx, nx⟩ := hc j rfl
    have h0 : φ1.st[0]? = some (some e) := L.pre 0 e (by simp [locP, h])
    obtain ⟨x', q1, q2⟩ := w1.cell 0 e h0
    rw [hx] at q1
    cases q1
    refine ⟨x, ?_, q2.np up nx⟩
    simp only [hx]
    refine List.getElem?_set_self ?_
    rw [← w.len]
    rcases Nat.lt_or_ge j φ.st.length with z | z
    · exact z
    · rw [List.getElem?_eq_none z] at h; cases h
  · obtain ⟨x, q1, q2⟩ := w.cell j e h
    have hm : ∀ b, (b = e.1 ∨ b = e.2) → H1 b = H b := fun b z => L.hk b (List.mem_append.mpr (.inr (mem_rest.mpr ⟨j, e, hj, h, z⟩)))
    refine ⟨x, ?_, q2.later LL.toKeep (hm _ (.inl rfl)) (hm _ (.inr rfl))⟩
    cases k with
    | none => exact q1
    | some i =>
      show (match μ1[0]? with | some x => μ.set i x | none => μ)[j]? = _
      cases μ1[0]? with
      | none => exact q1
      | some y => rw [List.getElem?_set_ne (fun z => hj (by rw [z]))]; exact q1
/-- m in a store of its own: with the cell of the first argument alone, or with none -/
def locM (m : List D → M D) (ds : List D) : M D := fun μ => match ds with
  | .ptr k :: r => match μ[k]? with
    | some x => if noPtrC x && noPtrL r then match m (.ptr 0 :: r) [x] with
      | .ok d μ1 => match μ1[0]? with
        | some y => if noPtrC y && noPtr d then .ok d (μ.set k y) else .stuck
        | none => .stuck
      | _ => .stuck else .stuck
    | none => .stuck
  | ds => if noPtrL ds then match m ds [] with
    | .ok d _ => if noPtr d then .ok d μ else .stuck
    | .exn e _ => if noPtrX e then .exn e μ else .stuck
    | .stuck => .stuck else .stuck
theorem loc_sp {n : Nat} {m : List D → M D} {vs : List V} {Q : VK} {E : XK} (h : spD c n (locM m) vs H Q E) : spD c n m vs H Q E := by
  obtain ⟨hl, φ, μ, ds, w, r, h⟩ := h
  refine ⟨hl, ?_⟩
  by_cases hp : ∃ k rest, ds = .ptr k :: rest
  · obtain ⟨k, rest, rfl⟩ := hp
    simp only [RepL] at r
    obtain ⟨v, vr, rfl, r0, rr⟩ := r
    simp only [Rep] at r0
    obtain ⟨e, he, rfl⟩ := r0
    unfold wpM locM at h
    simp only [] at h
    obtain ⟨x, hx, _⟩ := w.cell k e he
    simp only [hx] at h
    by_cases hn : (noPtrC x && noPtrL rest) = true
    · rw [if_pos hn] at h
      rw [Bool.and_eq_true] at hn
      have hk : ∀ i, some k = some i → ∃ e x, φ.st[i]? = some (some e) ∧ μ[i]? = some x ∧ noPtrC x = true := fun i z => by cases z; exact ⟨e, x, he, hx, hn.1⟩
      have w0 := loc_ok (some k) hk w
      simp only [hx] at w0
      have ho := own_loc (φ := φ) (some k) (fun i z => by cases z; exact ⟨e, he⟩)
      refine ⟨locP φ (some k), [x], .ptr 0 :: rest, w0, ?_, ?_⟩
      · simp only [RepL]
        refine ⟨_, vr, rfl, ?_, rr.np (fun a z => (ho a).mp z) _ _ hn.2⟩
        simp only [Rep]
        exact ⟨e, by simp [locP, he], rfl⟩
      · unfold wpM
        cases hm : m (.ptr 0 :: rest) [x] with
        | stuck => rw [hm] at h; exact h
        | exn ex μ1 => rw [hm] at h; exact h.elim
        | ok d μ1 =>
          rw [hm] at h
          simp only [] at h
          cases hy : μ1[0]? with
          | none => rw [hy] at h; exact h.elim
          | some y =>
            rw [hy] at h
            simp only [] at h
            by_cases hd : (noPtrC y && noPtr d) = true
            · rw [if_pos hd] at h
              rw [Bool.and_eq_true] at hd
              intro φ1 H1 b L w1 rb
              obtain ⟨up, LL, ww⟩ := loc_back (some k) hk w L w1 (fun i z => ⟨y, hy, hd.1⟩)
              simp only [hy] at ww
              exact h φ H1 b LL ww (rb.np up _ _ hd.2)
            · rw [if_neg hd] at h; exact h.elim
    · rw [if_neg hn] at h; exact h.elim
  · have e1 : locM m ds μ = if noPtrL ds then match m ds [] with
      | .ok d _ => if noPtr d then .ok d μ else .stuck
      | .exn e _ => if noPtrX e then .exn e μ else .stuck
      | .stuck => .stuck else .stuck := by
      unfold locM
      cases ds with
      | nil => rfl
      | cons d rst =>
        cases d with
        | ptr k => exact absurd ⟨k, rst, rfl⟩ hp
        | _ => rfl
    unfold wpM at h
    rw [e1] at h
    by_cases hn : noPtrL ds = true
    · rw [if_pos hn] at h
      have hk : ∀ i, (none : Option Nat) = some i → ∃ e x, φ.st[i]? = some (some e) ∧ μ[i]? = some x ∧ noPtrC x = true := fun i z => by cases z
      have w0 := loc_ok none hk w
      have ho := own_loc (φ := φ) none (fun i z => by cases z)
      refine ⟨locP φ none, [], ds, w0, r.np (fun a z => (ho a).mp z) _ _ hn, ?_⟩
      unfold wpM
      cases hm : m ds [] with
      | stuck => rw [hm] at h; exact h
      | exn ex μ1 =>
        rw [hm] at h
        simp only [] at h
        by_cases hd : noPtrX ex = true
        · rw [if_pos hd] at h
          intro φ1 H1 k d L w1 rx
          obtain ⟨up, LL, ww⟩ := loc_back none hk w L w1 (fun i z => by cases z)
          refine h φ H1 k d LL ww ⟨rx.1, ?_⟩
          have r2 := rx.2
          unfold noPtrX at hd
          cases hq : ex.arg with
          | none => simp only [hq] at r2 ⊢; exact r2
          | some fx =>
            obtain ⟨fl, y⟩ := fx
            simp only [hq] at r2 hd ⊢
            obtain ⟨dx, v, z1, z2, z3, z4⟩ := r2
            exact ⟨dx, v, z1, z2, fun z => z3 (up _ z), z4.np up _ _ hd⟩
        · rw [if_neg hd] at h; exact h.elim
      | ok d μ1 =>
        rw [hm] at h
        simp only [] at h
        by_cases hd : noPtr d = true
        · rw [if_pos hd] at h
          intro φ1 H1 b L w1 rb
          obtain ⟨up, LL, ww⟩ := loc_back none hk w L w1 (fun i z => by cases z)
          exact h φ H1 b LL ww (rb.np up _ _ hd)
        · rw [if_neg hd] at h; exact h.elim
    · rw [if_neg hn] at h; exact h.elim
theorem FnOk.loc {P : Program} {w : World} {K : PySem.W.Frag} {mg : Str → Option Value} {base : Heap} {CX : CXT} {k n : Nat} {f : Addr} {fd : FuncData} {ps : List Str} {m : List D → M D} (F : L2.FnOk P w K mg base CX k f fd ps (spD c n m)) : L2.FnOk P w K mg base CX k f fd ps (spD c n (locM m)) := L2.FnOk.imp F fun _ _ _ _ h => loc_sp h
theorem FnG.loc {P : Program} {w : World} {K : PySem.W.Frag} {mg : Str → Option Value} {base : Heap} {CX : CXT} {k n : Nat} {f : Addr} {fd : FuncData} {ps : List Str} {m : List D → M D} (F : LamX.FnG P w K mg base CX k f fd ps (spD c n m)) : LamX.FnG P w K mg base CX k f fd ps (spD c n (locM m)) :=
  ⟨fun vs H Q E q => F.len vs H Q E (loc_sp q), fun A outer s H args us vs Q E hr hg he hb hv hs => F.run A outer s H args us vs Q E hr hg he hb hv (loc_sp hs)⟩
end
end VL

namespace VL
open PySem PySem.Spec PyProof.Rows L2 LamX OwA
section
variable {X : Cx} {c : Cn} {W : WX} {φ φ' : Phi} {H H' : Hp} {μ μ' : Mem} {e : Expr} {es : List Expr} {f g h : Env → M D} {fl : Env → M (List D)} {pos : Pos}
/-! ### list * int, tuple * int -/
def rRepL : R2 := fun x y H Q => ∃ l k xs, x = .ref l ∧ y = .int k ∧ Rd H l (.lst xs) ∧ 0 ≤ k ∧ k ≤ 1000 ∧ xs.length ≤ 1000 ∧ ∀ p, H p = none → Q (.ref p) (upd H p (.lst (List.replicate k.toNat xs).flatten))
theorem op_repL : OpR X (binaryOp .Mult) rRepL := by
  intro pins s σ H x y v u Q I rx ry h
  obtain ⟨l, k, xs, rfl, rfl, hH, h1, h2, hz, q⟩ := h
  cases rx
  obtain ⟨t, rfl⟩ := ry
  obtain ⟨z, its, n, r, e⟩ := hH.ok I.hok
  have hl := r.length
  have hle : xs.length * k.toNat ≤ sizeLine := by
    have a1 : xs.length * k.toNat ≤ 1000 * 1000 := Nat.mul_le_mul hz (by omega)
    rw [sizeLine_eq]; omega
  have hlen : its.toArray.size * k.toNat ≤ sizeLine := by rw [List.size_toArray, ← hl]; exact hle
  have c1 : ¬ its.toArray.size * k.toNat > (2 ^ 63 - 1) / 8 := by
    have : (sizeLine : Nat) ≤ (2 ^ 63 - 1) / 8 := by decide
    omega
  have c2 : ¬ (!Builtin.List.listFitsIndex k) = true := by
    rw [fitsIndex_both (by omega) (by omega)]
    exact Bool.false_ne_true
  have c3 : ¬ Builtin.List.listTooLong (its.toArray.size * k.toNat) = true := by
    rw [notLongL hlen]
    exact Bool.false_ne_true
  have made : List.foldl (fun x1 x2 => x1 ++ x2) #[] (List.replicate (if its.toArray.isEmpty = true then 0 else k.toNat) its.toArray) = (List.replicate k.toNat its).flatten.toArray := by
    rw [size_rep]
    cases its with
    | nil => simp
    | cons a r' => rw [if_neg (by simp)]
  refine wpAny_binaryOp_repeat_ref (T := "list") (U := "int") (by decide) ⟨_, e, rfl⟩ (fun s' => typeIs_int s' k t) noFill_list_mul F.fills_int_mul F.slot_int_rmul repeat_list F.slot_int_index.lookup
    (call_meets F.slot_int_rmul (typeIs_int s k t) F.entry_int_rmul (F.args_int_rmul_2 _ _) (int___rmul___int_list k t l its.toArray n)
      ⟨e, rfl, ⟨_, e, rfl⟩, call_meets F.slot_list_mul ⟨_, e, rfl⟩ F.entry_list_mul (F.args_list_mul_2 _ _) (AutoListH.list___mul___list_int_3 l its.toArray n k t c2 c1 c3) ⟨e, ?_⟩⟩)
  rw [made]
  exact ⟨.ref _, _, I.lnew (t' := s.toks) (r.rep k.toNat) (by rw [PyProof.Rows.lm_len_rep_flat, Nat.mul_comm]; exact hle), rfl, q _ I.fresh⟩
theorem RepL.rep {ds : List D} {vs : List V} (r : RepL c φ H ds vs) : ∀ n : Nat, RepL c φ H (List.replicate n ds).flatten (List.replicate n vs).flatten
  | 0 => by simp [RepL]
  | n + 1 => by
    rw [List.replicate_succ, List.replicate_succ, List.flatten_cons, List.flatten_cons]
    exact r.app (RepL.rep r n)
def dMulL : D → D → M D
  | .str a, y => dMulS (.str a) y
  | .int a, y => dMul (.int a) y
  | .tup a, .int k => ask (!a.isEmpty && decide (2 ≤ k ∧ k ≤ 1000 ∧ a.length ≤ 1000)) >>= fun _ => pure (.tup (List.replicate k.toNat a).flatten)
  | x, .int k => readL x >>= fun a => ask (decide (0 ≤ k ∧ k ≤ 1000 ∧ a.length ≤ 1000)) >>= fun _ => pure (.lst (List.replicate k.toNat a).flatten)
  | _, _ => stuck
theorem opv_mulL (hK : X.K = c.K) : OpV X c (binaryOp .Mult) dMulL := by
  obtain ⟨r0, hr0, hr1⟩ := opv_mulS (X := X) (c := c)
  refine ⟨_, (hr0.or op_repT).or op_repL, fun φ μ H x y vx vy Q E w r1 r2 h => ?_⟩
  rw [hK]
  unfold dMulL at h
  split at h
  · exact .inl (.inl (hr1 _ _ _ _ _ _ _ _ _ w r1 r2 h))
  · have e : dMul (.int ‹Int›) y = dMulS (.int ‹Int›) y := rfl
    rw [e] at h
    exact .inl (.inl (hr1 _ _ _ _ _ _ _ _ _ w r1 r2 h))
  · obtain ⟨hz, h⟩ := wp_ask h
    simp only [Bool.and_eq_true, Bool.not_eq_true', decide_eq_true_eq] at hz
    obtain ⟨hz0, hz1, hz2, hz3⟩ := hz
    obtain ⟨a, vs, rfl, hs, rl⟩ := rep_tup r1
    refine .inl (.inr ⟨a, _, vs, rfl, rep_int r2, hs, fun q => ?_, hz1, hz2, by rw [← rl.len]; exact hz3, fun p np => wp_pureL h (Later.laid w np) (w.laid np) (tup_new w np (rl.rep _))⟩)
    subst q
    have := rl.len
    obtain rfl : (_ : List D) = [] := List.eq_nil_of_length_eq_zero this
    simp at hz0
  · obtain ⟨xs, a, vs, rfl, hs, rl, h⟩ := wp_readL h w r1
    obtain ⟨hz, h⟩ := wp_ask h
    obtain ⟨z1, z2, z3⟩ := of_decide_eq_true hz
    exact .inr ⟨a, _, vs, rfl, rep_int r2, hs, z1, z2, by rw [← rl.len]; exact z3, fun p np => wp_pureL h (Later.laid w np) (w.laid np) (lst_new w np (rl.rep _))⟩
  · exact wp_stuck h
/-! ### list + list, a new list of the store's -/
def dAddM (x y : D) : M D := readL x >>= fun a => readL y >>= fun b => ask (small (a.length + b.length)) >>= fun _ => newL (a ++ b)
theorem opv_addM : OpV X c (binaryOp .Add) dAddM := ⟨_, op_catL, fun φ μ H x y vx vy Q E w r1 r2 h => by
  unfold dAddM at h
  obtain ⟨xs, a, vs, rfl, hs, rl, h⟩ := wp_readL h w r1
  obtain ⟨ys, b, ws, rfl, hs2, rl2, h⟩ := wp_readL h w r2
  obtain ⟨hz, h⟩ := wp_ask h
  have hz := of_decide_eq_true hz
  rw [rl.len, rl2.len] at hz
  exact ⟨a, b, vs, ws, rfl, rfl, hs, hs2, hz, fun p np => wp_newL h w (rl.app rl2) np⟩⟩
end
end VL

namespace VL
open PySem PySem.Spec PyProof.Rows L2 LamX OwA
theorem exm_of {K : PySem.W.Frag} {S C : Addr} {b : Bool} (h1 : PySem.W.subIn K (.ref S) (.type "BaseException") = some true) (h2 : PySem.W.isClsIn K S = true) (h3 : PySem.W.typeIn K (.ref S) = some (.type "type")) (h4 : PySem.W.subIn K (.ref C) (.ref S) = some b) : PySem.W.exmOne K (.ref C) (.ref S) = some b := by
  have h2' : (PySem.W.clsIn K S).isSome = true := h2
  have e1 : (PySem.W.subIn K (.ref S) (.type "BaseException") == some true) = true := by rw [h1]; rfl
  have e2 : ((PySem.W.clsIn K S).isSome && PySem.W.typeIn K (.ref S) == some (.type "type")) = true := by rw [h2', h3]; rfl
  unfold PySem.W.exmOne
  rw [if_pos e1]
  show (if ((PySem.W.clsIn K S).isSome && PySem.W.typeIn K (.ref S) == some (.type "type")) = true then PySem.W.subIn K (.ref C) (.ref S) else none) = some b
  rw [if_pos e2]
  exact h4
theorem tabIn_of {K : PySem.W.Frag} {x : Str} {f c P : Addr} {oc cc : Value} {od cx : Option Addr} {osl cs : Array (Option Value)} {fd : FuncData} {vs : Array Value} (h1 : PySem.W.nsIn K mainGlobals x = some (some (.ref f))) (h2 : K.lookup f = some ⟨oc, od, .func fd, osl⟩)
    (h4 : K.lookup c = some ⟨cc, cx, .fields vs, cs⟩) (h5 : vs[11]? = some (.ref P)) (h3 : fd.code = .ref c := by rfl) : PySem.W.tabIn K x = some (c, P) := by
  unfold PySem.W.tabIn
  rw [h1]
  simp only [h2, h3, h4, h5]
theorem guards_suite {A : Around} {env : PySem.Env} {x : Option Value} (h : A.guards = some []) : ((A.deeper env).mark x).guards = some [] := deeper_guards (env := env) h
theorem roomUm {k : Nat} {A : Around} {x : Option Value} (hr : Room k A) : (A.mark x).units + 100 < cLine := roomU (A := A) hr
end VL

namespace VL
open PySem PySem.Spec PyProof.Rows L2 LamX OwA
section
variable {X : Cx} {c : Cn} {W : WX} {φ φ' : Phi} {H H' : Hp} {μ μ' : Mem} {ρ : Env} {σ : L2.St} {D0 : Ends} {e : Expr} {es : List Expr} {f g : Env → M D} {fl : Env → M (List D)} {pos : Pos}
/-! ### is, is not of bools -/
def dIs : D → D → M D
  | .bl a, .bl b => pure (.bl (decide (a = b)))
  | _, _ => stuck
def dNot : D → D → M D
  | .bl a, .bl b => pure (.bl (!decide (a = b)))
  | _, _ => stuck
theorem opv_isB : OpV X c (compareOp .Is) dIs := .mk op_isBl fun φ μ H x y vx vy Q E w r1 r2 h => by
  unfold dIs at h
  split at h
  · exact ⟨_, _, rep_bl r1, rep_bl r2, wp_pure h w of_bl⟩
  · exact wp_stuck h
theorem opv_notB : OpV X c (compareOp .IsNot) dNot := .mk op_notBl fun φ μ H x y vx vy Q E w r1 r2 h => by
  unfold dNot at h
  split at h
  · exact ⟨_, _, rep_bl r1, rep_bl r2, wp_pure h w of_bl⟩
  · exact wp_stuck h
/-! ### x[i] op= y for a list of the store's -/
theorem get_list : PGet X (rIxL X.K) := by
  intro pins s σ H x y v u Q I rx ry h
  obtain ⟨p, xs, i, z, rfl, rfl, hq, he, q⟩ := h
  cases rx
  obtain ⟨t, rfl⟩ := ry
  obtain ⟨its, r, pl, hz⟩ := I.list hq
  obtain ⟨j, h1, h2, h3, h4, h5⟩ := atI_get he
  obtain ⟨w, ew, rw'⟩ := r.get h2
  have hl := r.length
  have hn := line63
  have fin : EP X pins σ Q w s := ⟨z, H, I, rw', q⟩
  by_cases h0 : 0 ≤ i
  · have hj : i.toNat = j := by
      rw [seqIndex_of h0 h5] at h1
      exact Option.some.inj h1
    exact wpAny_getItem_list pl.isList h0 (by omega) (by rw [hj]; simpa using ew) fin
  · have hj : (i + (its.toArray.size : Int)).toNat = j := by
      rw [seqIndex_neg (by omega) h4] at h1
      rw [List.size_toArray, ← hl]
      exact Option.some.inj h1
    exact wpAny_getItem_list_neg pl.isList (by omega) (by rw [List.size_toArray] <;> omega) (by omega) (by rw [hj]; simpa using ew) fin
def setIx (x y w : D) : M Unit := match y with
  | .int i => modL x (fun l => match ixN l.length i with | some j => some (l.set j w, ()) | none => none)
  | _ => stuck
theorem bind_pureM {α : Type} (m : M α) : (m >>= fun u => (pure u : M α)) = m := by
  funext μ
  show M.bind m _ μ = m μ
  unfold M.bind
  cases m μ <;> rfl
/-- an item of the store's list -/
def getIx (x y : D) : M D := match y with
  | .int i => readL x >>= fun xs => atM xs i
  | _ => stuck
theorem vs_augIx {o i e : Expr} {st : Stmt} {op : Operator} {k : D → D → M D} {fo fi : Env → M D} (hK : X.K = c.K) (ho : VE X c W o fo) (hi : VE X c W i fi) (he : VE X c W e f) (hop : IpV X c op k)
    (hp : ∀ {to ti te : TE} {tip : TIp}, PE X o to → PE X i ti → PE X e te → PIp X op tip → PS X st (tAugS to ti te (rIxL X.K) tip rSetL)) :
    VS X c W st (fun ρ => liftS ρ (fo ρ >>= fun x => fi ρ >>= fun y => getIx x y >>= fun old => f ρ >>= fun z => k old z >>= fun w => setIx x y w) fun _ => pure (.nx ρ)) := by
  obtain ⟨tip, p1, p2⟩ := hop
  refine ⟨PS.weak (hp ho.pe hi.pe he.pe p1) fun D σ H h => ?_⟩
  obtain ⟨φ, μ, ρ, w, hE, h⟩ := h
  refine ⟨φ, μ, ρ, w, hE, wp_mono (wp_bind (wpS_lift (R := fun _ _ (_ : Unit) (_ : Unit) => True) h hE)) fun x H1 z => ?_⟩
  obtain ⟨φ1, μ1, dx, L1, w1, rx, h1⟩ := z
  have hE1 := hE.later L1
  refine ⟨φ1, μ1, ρ, w1, hE1, wp_mono (wp_bind h1) fun y H2 z => ?_⟩
  obtain ⟨φ2, μ2, dy, L2, w2, ry, h2⟩ := z
  have hE2 := hE1.later L2
  have rx2 := rx.later L2.toKeep
  cases dy with
  | int i =>
    have h2 : wpM c _ ((readL dx >>= fun xs => atM xs i) >>= fun old => f ρ >>= fun z => k old z >>= fun w => setIx dx (.int i) w) φ2 μ2 H2 _ _ := h2
    rw [M.assoc] at h2
    obtain ⟨xs, a, vs, rfl, hs, rl, h3⟩ := wp_readL h2 w2 rx2
    cases hx : atI xs i with
    | none =>
      have e0 : atM xs i = stuck := by unfold atM; rw [hx]
      rw [e0] at h3
      exact (wp_stuck (α := Unit) (β := Unit) h3)
    | some d =>
      have e0 : atM xs i = pure d := by unfold atM; rw [hx]
      rw [e0] at h3
      obtain ⟨v, hv, rv⟩ := rl.at hx
      refine ⟨a, vs, i, v, rfl, rep_int ry, .inl hs, hv, φ2, μ2, ρ, w2, hE2, wp_mono (wp_bind h3) fun z H3 q => ?_⟩
      obtain ⟨φ3, μ3, dz, L3, w3, rz, h4⟩ := q
      have hE3 := hE2.later L3
      refine p2 φ3 μ3 H3 d dz v z _ _ w3 (rv.later L3.toKeep) rz (wp_mono (wp_bind h4) fun u H4 q => ?_)
      obtain ⟨φ4, μ4, du, L4, w4, ru, h5⟩ := q
      have hE4 := hE3.later L4
      rw [← bind_pureM (setIx dx (.int i) du)] at h5
      obtain ⟨l, ys, ws, zs, b, ex, hl, rm, hf, h6⟩ := wp_modL h5 w4 ((rx2.later L3.toKeep).later L4.toKeep)
      cases hj : ixN ys.length i with
      | none => simp only [hj] at hf; cases hf
      | some j =>
        simp only [hj] at hf
        cases hf
        obtain ⟨μ', L, w', h7⟩ := h6 (ws.set j u) (rm.set j ru)
        refine ⟨l, ws, i, j, ex, rep_int ry, hl, by rw [← rm.len]; exact hj, ?_⟩
        obtain ⟨φ8, μ8, _, L8, w8, _, h8⟩ := wp_pure (b := ()) h7 w' trivial
        exact wpS_nx h8 w8 (hE.later L8)
  | _ => exact (wp_stuck (α := Unit) (β := Unit) h2)
/-! ### ==, != where a list of the store holds lists of the store -/
def toP2 (μ : Mem) : D → Option PyData
  | .ptr j => match μ[j]? with
    | some (.lst ys) => (toPs ys).map .list
    | _ => none
  | d => toP d
def toP2s (μ : Mem) : List D → Option (List PyData)
  | [] => some []
  | d :: r => match toP2 μ d, toP2s μ r with
    | some p, some ps => some (p :: ps)
    | _, _ => none
theorem toP2_dp (w : WOk c φ μ H) {d : D} {v : V} {p : PyData} (r : Rep c φ H d v) (e : toP2 μ d = some p) : Dp c.K H v p := by
  by_cases hp : ∃ i, d = .ptr i
  · obtain ⟨i, rfl⟩ := hp
    simp only [Rep] at r
    obtain ⟨e1, hi, rfl⟩ := r
    obtain ⟨x, hx, hc⟩ := w.cell i e1 hi
    simp only [toP2, hx] at e
    cases x with
    | dct C fs => cases e
    | lst xs =>
      simp only [Option.map_eq_some_iff] at e
      obtain ⟨ps, e, rfl⟩ := e
      obtain ⟨_, vs, hv, rl⟩ := hc
      exact .lst (.inl (.inl hv)) (toPs_dp xs vs ps rl e)
  · have e2 : toP2 μ d = toP d := by cases d <;> first | rfl | exact absurd ⟨_, rfl⟩ hp
    rw [e2] at e
    exact toP_dp d v p r e
theorem toP2s_dp (w : WOk c φ μ H) : ∀ {ds : List D} {vs : List V} {ps : List PyData}, RepL c φ H ds vs → toP2s μ ds = some ps → DpAll c.K H vs ps
  | [], vs, ps, r, e => by
    simp only [toP2s] at e; cases e
    simp only [RepL] at r; subst r
    exact .nil
  | d :: ds, vs, ps, r, e => by
    simp only [RepL] at r
    obtain ⟨v, rest, rfl, r1, r2⟩ := r
    simp only [toP2s] at e
    split at e
    · rename_i p ps' h1 h2
      cases e
      exact .cons (toP2_dp w r1 h1) (toP2s_dp w r2 h2)
    · cases e
def datum2 : D → M PyData
  | .ptr k => fun μ => match μ[k]? with
    | some (.lst xs) => match toP2s μ xs with
      | some ps => .ok (.list ps) μ
      | none => .stuck
    | _ => .stuck
  | d => datum d
theorem wp_datum2 {α β : Type} {R : Phi → Hp → α → β → Prop} {d : D} {v : V} {k : PyData → M α} {Q : β → Hp → Prop} {E : XW} (h : wpM c R (datum2 d >>= k) φ μ H Q E) (w : WOk c φ μ H) (r : Rep c φ H d v) :
    ∃ p, Dp c.K H v p ∧ wpM c R (k p) φ μ H Q E := by
  by_cases hp : ∃ i, d = .ptr i
  · obtain ⟨i, rfl⟩ := hp
    simp only [Rep] at r
    obtain ⟨e1, hi, rfl⟩ := r
    obtain ⟨x, hx, hc⟩ := w.cell i e1 hi
    have e0 : (datum2 (.ptr i) >>= k) μ = M.bind (datum2 (.ptr i)) k μ := rfl
    unfold wpM at h
    rw [e0] at h
    unfold M.bind datum2 at h
    simp only [hx] at h
    cases x with
    | dct C fs => exact h.elim
    | lst xs =>
      obtain ⟨_, vs, hv, rl⟩ := hc
      cases hq : toP2s μ xs with
      | none => simp only [hq] at h
      | some ps =>
        simp only [hq] at h
        exact ⟨_, .lst (.inl (.inl hv)) (toP2s_dp w rl hq), h⟩
  · have e0 : datum2 d = datum d := by cases d <;> first | rfl | exact absurd ⟨_, rfl⟩ hp
    rw [e0] at h
    exact wp_datum h w r
def eqB2 (x y : D) : M Bool := datum2 x >>= fun p => datum2 y >>= fun q => ask (SeqAt.shaped p && SeqAt.shaped q) >>= fun _ => pure (PyData.eqv p q)
def dEq2 (x y : D) : M D := eqB2 x y >>= fun b => pure (.bl b)
def dNe2 (x y : D) : M D := eqB2 x y >>= fun b => pure (.bl (!b))
theorem wp_eqB2 {x y : D} {vx vy : V} {k : Bool → M D} {Q : VK} {E : XW} (w : WOk c φ μ H) (r1 : Rep c φ H x vx) (r2 : Rep c φ H y vy) (h : wpM c (Rep c) (eqB2 x y >>= k) φ μ H Q E) :
    ∃ b, wpM c (Rep c) (k b) φ μ H Q E ∧ ∃ d e, Dp c.K H vx d ∧ Dp c.K H vy e ∧ SeqAt.shaped d = true ∧ SeqAt.shaped e = true ∧ PyData.eqv d e = b := by
  unfold eqB2 at h
  rw [M.assoc] at h
  obtain ⟨p, h1, h⟩ := wp_datum2 h w r1
  rw [M.assoc] at h
  obtain ⟨q, h2, h⟩ := wp_datum2 h w r2
  rw [M.assoc] at h
  obtain ⟨h3, h⟩ := wp_ask h
  simp only [Bool.and_eq_true] at h3
  exact ⟨_, h, p, q, h1, h2, h3.1, h3.2, rfl⟩
theorem opv_eq2 (hK : X.K = c.K) (hu : X.A.units + 64 < cLine) : OpV X c (compareOp .Eq) dEq2 := .mk (op_eqD hu) fun φ μ H x y vx vy Q E w r1 r2 h => by
  rw [hK]
  obtain ⟨b, h, d, e, h1, h2, h3, h4, z⟩ := wp_eqB2 w r1 r2 h
  exact ⟨d, e, h1, h2, h3, h4, by rw [z]; exact wp_pure h w of_bl⟩
theorem opv_ne2 (hK : X.K = c.K) (hu : X.A.units + 64 < cLine) : OpV X c (compareOp .NotEq) dNe2 := .mk (op_neD hu) fun φ μ H x y vx vy Q E w r1 r2 h => by
  rw [hK]
  obtain ⟨b, h, d, e, h1, h2, h3, h4, z⟩ := wp_eqB2 w r1 r2 h
  exact ⟨d, e, h1, h2, h3, h4, by rw [z]; exact wp_pure h w of_bl⟩
end
end VL

namespace VL
open PySem PySem.Spec PyProof.Rows L2 LamX OwA
section
variable {X : Cx} {c : Cn} {W : WX} {φ φ' : Phi} {H H' : Hp} {μ μ' : Mem} {ρ : Env} {σ : L2.St} {D0 : Ends} {e : Expr} {es : List Expr} {f g : Env → M D} {fl : Env → M (List D)} {pos : Pos}
/-! ### defs with defaults -/
theorem fnvD_ok {dvs : List V} {kws : List (Str × V)} {P : Program} {w : World} {K : PySem.W.Frag} {mg : Str → Option Value} {base : Heap} {x qual : Str} {st : Stmt} {f : Addr} {fd : FuncData} {N ps : List Str} {k : Nat} (F : FunD K x qual (defArgs st) (defBody st) (defScope st) dvs kws f fd) (h0 : c.ini = none) (S : FnScope N ps (defScope st)) {s : Env → M Flow}
    (hb : ∀ (cdv : Value) (A : Around) (outer : List PySem.Env) (s0 : Shared) (H : Hp) (E : XK), Room k (A.deeper (envOfC qual (defScope st) s0.heap.objs.size f cdv)) →
      VB (cxOf (L2.CX P w) P w K mg base N qual (defScope st) f cdv A outer s0 H E) c (fun cls d _ H => E cls d H) (defBody st) s) : FnOk P w K mg base (L2.CX P w) (k + 1) f fd ps (spD c ps.length (runF N.length s)) := by
  refine F.ok S (fun vs H Q E h => h.1) fun cdv A outer s0 H vs Q E hr h => ⟨_, (hb cdv A outer s0 H E hr).ps, ?_⟩
  obtain ⟨hl, φ, μ, ds, w, r, h⟩ := h
  refine ⟨φ, μ, _, w, repE_start h0 N.length r, ?_⟩
  unfold wpM runF at h
  unfold wpS
  cases hm : s (ds.map some ++ List.replicate (N.length - ds.length) none) μ with
  | ok a μ1 =>
    rw [hm] at h
    cases a with
    | nx ρ => exact fun φ1 H1 σ1 L1 w1 r1 => h φ1 H1 .non (L1.to h0) w1 of_non
    | rt d => exact fun φ1 H1 v L1 w1 r1 => h φ1 H1 v (L1.to h0) w1 r1
    | bk ρ => exact h.elim
    | ct ρ => exact h.elim
    | xc ρ e => exact fun φ1 H1 σ1 k1 d1 L1 w1 _ x1 => h φ1 H1 k1 d1 (L1.to h0) w1 x1
  | exn _ _ => rw [hm] at h; exact h
  | stuck => rw [hm] at h; exact h
theorem fniD_ok {dvs : List V} {kws : List (Str × V)} {P : Program} {w : World} {K : PySem.W.Frag} {mg : Str → Option Value} {base : Heap} {x qual : Str} {st : Stmt} {f : Addr} {fd : FuncData} {N ps : List Str} {k nf : Nat} {C : String} (F : FunD K x qual (defArgs st) (defBody st) (defScope st) dvs kws f fd) (hn : ps.length ≤ N.length) (S : FnScope N ps (defScope st)) {s : Env → M Flow}
    (hb : ∀ (a dx : Addr) (cdv : Value) (A : Around) (outer : List PySem.Env) (s0 : Shared) (H : Hp) (E : XK), Room k (A.deeper (envOfC qual (defScope st) s0.heap.objs.size f cdv)) →
      VB (cxOf (L2.CX P w) P w K mg base N qual (defScope st) f cdv A outer s0 H E) (c.at ⟨a, dx, C, N.length⟩) (fun cls d _ H => E cls d H) (defBody st) s) : FnOk P w K mg base (L2.CX P w) (k + 1) f fd ps (spI c C ps.length (runI N.length nf s)) := by
  refine F.ok S (fun vs H Q E h => h.1) fun cdv A outer s0 H vs Q E hr h => ?_
  obtain ⟨hl, a, dx, us, φ, μ, ds, rfl, ne, h1, h2, hx, hd, w, r, h⟩ := h
  refine ⟨_, (hb a dx cdv A outer s0 H E hr).ps, ?_⟩
  have hlen := r.len
  have hlu : us.length + 1 = ps.length := by simpa using hl
  refine ⟨φ, μ, none :: ds.map some ++ List.replicate (N.length - (ds.length + 1)) none ++ List.replicate nf none, WOk.at_.mpr w, ?_, ?_⟩
  · have hσ : (L2.start N (.ref a :: us)).length = N.length := by unfold L2.start; simp; omega
    refine ⟨?_, (fun z => by cases z), fun i d q e => ?_, fun I e => ?_⟩
    · rw [hσ]; simp; omega
    · have hi : i < N.length := q ⟨a, dx, C, N.length⟩ rfl
      cases i with
      | zero => simp at e
      | succ i =>
        have hi2 : i < ds.length := by
          by_cases z : i < ds.length
          · exact z
          · have : (none :: List.map some ds ++ List.replicate (N.length - (ds.length + 1)) none ++ List.replicate nf none : List (Option D))[i + 1]? = some none := by
              rw [List.append_assoc, List.cons_append, List.getElem?_cons_succ, List.getElem?_append_right (by simpa using Nat.le_of_not_lt z), List.replicate_append_replicate, List.getElem?_replicate]
              rw [if_pos (by simp; omega)]
            rw [this] at e
            cases e
        rw [List.append_assoc, List.cons_append, List.getElem?_cons_succ, List.getElem?_append_left (by simpa using hi2), List.getElem?_map] at e
        cases hd' : ds[i]? with
        | none => rw [hd'] at e; cases e
        | some d' =>
          rw [hd'] at e
          simp only [Option.map_some, Option.some.injEq] at e
          subst e
          obtain ⟨v, q1, q2⟩ := r.get hd'
          refine ⟨v, ?_, (Rep.at_ _ _).mpr q2⟩
          unfold L2.start
          rw [List.map_cons, List.cons_append, List.getElem?_cons_succ, List.getElem?_append_left (by simpa [← hlen] using hi2), List.getElem?_map, q1]
          rfl
    · cases e
      refine ⟨hσ, by unfold L2.start; rfl, hx, hd, ne, [], .inl ⟨h1, rfl⟩, fun j d e => ?_⟩
      have : (none :: List.map some ds ++ List.replicate (N.length - (ds.length + 1)) none ++ List.replicate nf none : List (Option D))[N.length + j]? = some (some d) := e
      rw [List.getElem?_append_right (by simp; omega)] at this
      have := List.mem_of_getElem? this
      rw [List.mem_replicate] at this
      cases this.2
  · unfold wpI runI at h
    unfold wpS
    cases hm : s (none :: ds.map some ++ List.replicate (N.length - (ds.length + 1)) none ++ List.replicate nf none) μ with
    | ok fl μ1 =>
      rw [hm] at h
      cases fl with
      | nx ρ =>
        intro φ1 H1 σ1 L1 w1 r1
        simp only at h
        cases hf : (ρ.drop N.length).mapM id with
        | none => rw [hf] at h; exact h.elim
        | some fs =>
          rw [hf] at h
          have hI := r1.ini _ rfl
          obtain ⟨ws, hs, hfs⟩ := hI.fs
          have hfl : ∀ (j : Nat) (d : D), fs[j]? = some d → ∃ v, ws[j]? = some (some v) ∧ Rep c φ1 H1 d v := fun j d e => by
            have q := mapM_id hf j d e
            rw [List.getElem?_drop] at q
            obtain ⟨v, q1, q2⟩ := hfs j d q
            exact ⟨v, q1, (Rep.at_ _ _).mp q2⟩
          obtain ⟨vs, q1, q2⟩ := fields_of hfl
          exact h φ1 H1 ⟨L1.toKeep, L1.len, L1.hid, fun b hb q => L1.hk b hb fun I e => by cases e; exact q ⟨a, dx, C, 0⟩ rfl⟩ (WOk.at_.mp w1) ⟨ws, vs, hs, q1, q2⟩
      | rt d => exact h.elim
      | bk ρ => exact h.elim
      | ct ρ => exact h.elim
      | xc ρ x => exact fun φ1 H1 σ1 k1 d1 L1 w1 _ x1 => h φ1 H1 k1 d1 ⟨L1.toKeep, L1.len, L1.hid, fun b hb q => L1.hk b hb fun I e => by cases e; exact q ⟨a, dx, C, 0⟩ rfl⟩ (WOk.at_.mp w1) (RepX.at_.mp x1)
    | exn _ _ => rw [hm] at h; exact h
    | stuck => rw [hm] at h; exact h
/-! ### a written dict of the module: text keys, ints -/
def EntI : List DictEntry → List (Str × Int) → Prop
  | [], [] => True
  | e :: r, p :: t => (∃ u, e.key = .str p.1 u) ∧ (∃ u, e.val = .int p.2 u) ∧ EntI r t
  | _, _ => False
def KTab (K : PySem.W.Frag) (w : World) (d : Addr) (ks : List (Str × Int)) : Prop := ∃ (es : Array DictEntry) (n : Nat), KDict K w d es n ∧ EntI es.toList ks
def kfind : List (Str × Int) → Str → D
  | [], _ => .non
  | p :: r, z => if p.1 == z then .int p.2 else kfind r z
theorem entI_find : ∀ {es : List DictEntry} {ks : List (Str × Int)} (z : Str), EntI es ks → ∃ v : V, RelV v (((es.find? fun e => Value.isStrOf z e.key).map (·.val)).getD .none) ∧ ∀ (c : Cn) φ H, Rep c φ H (kfind ks z) v
  | [], [], z, _ => ⟨.non, rfl, fun _ _ _ => by simp only [kfind, Rep]⟩
  | e :: r, p :: t, z, h => by
    obtain ⟨⟨u, hk⟩, ⟨u2, hv⟩, h⟩ := h
    simp only [kfind, List.find?_cons, hk, Value.isStrOf]
    cases hz : p.1 == z with
    | true => exact ⟨.int p.2, ⟨u2, by simpa using hv⟩, fun c φ H => by simp [Rep]⟩
    | false =>
      obtain ⟨v, h1, h2⟩ := entI_find z h
      exact ⟨v, h1, fun c φ H => by simpa using h2 c φ H⟩
  | [], _ :: _, _, h => h.elim
  | _ :: _, [], _, h => h.elim
def kgetM (ks : List (Str × Int)) : D → M D
  | .str z => pure (kfind ks z)
  | _ => stuck
theorem ve_kget {x : Str} {d : Addr} {ks : List (Str × Int)} {p apos cpos : Pos} (hg : Gl X x) (hm : X.mg x = some (.ref d)) (T : KTab X.K X.w d ks) (he : VE X c W e f) (m : M1 X (.Name x p) "get" apos e cpos) (hd : (x == ("__debug__" : Str)) = false := by decide) :
    VE X c W (.Call (.Attribute (.Name x p) "get" apos) [e] [] cpos) (fun ρ => f ρ >>= kgetM ks) := by
  obtain ⟨es, n, D, hE⟩ := T
  refine ⟨⟨fun pins s σ H Q I h => ?_⟩⟩
  refine wpAny_Call_method m.base m.few m.line PySem.F.plainAttrs_dict PySem.F.slot_dict_get PySem.F.type_dict_get (thn ((pe_glob (v := .ref d) (pos := p) hg hm rfl hd).run pins s σ H (fun v H1 => v = .ref d ∧ H1 = H) I ⟨rfl, rfl⟩) fun u s1 ⟨x1, H1, I1, rx, q1⟩ => ?_)
  obtain ⟨rfl, rfl⟩ := q1
  cases rx
  refine ⟨kd_type D I1, fun b q => ?_, ?_⟩
  · cases q
    exact ⟨_, I1.kIn _ _ D.at_, rfl⟩
  rw [m.trees]
  obtain ⟨φ, μ, ρ, w, hE2, h⟩ := h
  refine Calls.callWith_builtin rfl (Calls.evalArgs_plain (Calls.spliced_cons (thn (he.pe.run pins s1 σ H1 _ I1 ⟨φ, μ, ρ, w, hE2, wp_bind h⟩) fun iv s2 ⟨y, H2, I2, ry, q2⟩ => Calls.spliced_nil ?_)))
  obtain ⟨φ1, μ1, dy, L1, w1, r1, h1⟩ := q2
  cases dy with
  | str z =>
    rw [rep_str r1] at ry
    obtain ⟨t, rfl⟩ := ry
    obtain ⟨v, hv, hr⟩ := entI_find z hE
    refine call_meetsIn PySem.F.slot_dict_get (kd_type D I2) PySem.F.entry_dict_get (PySem.F.args_dict_get_2 _ _) (meets_dict_get (strKind X.prog X.w) d (strKind_is X.prog X.w z t) D.low) ⟨_, PySem.W.mapOf_K (prog := X.prog) I2.kIn D.at_ D.lit, v, H2, I2.tok _, ?_, wp_pure h1 w1 (hr _ _ _)⟩
    have e0 : findBy Value.isStrOf es z = (es.toList.find? fun e => Value.isStrOf z e.key).map (·.val) := by
      obtain ⟨l⟩ := es
      unfold findBy
      rw [List.find?_toArray]
    rw [e0]
    exact hv
  | _ => exact (wp_stuck (α := VL.D) (R := Rep c) h1)
end
end VL

namespace VL
open PySem PySem.Spec PyProof.Rows L2 LamX OwA PySem.SeqAt
open AutoSeq1 (wpAny_loadPart')
open MeetsSeq MeetsSeq2 MeetsSeq3
theorem dict_ne_declines_tuple (l b : Addr) (es : Array DictEntry) (n : Nat) (items2 : Array Value) (n2 : Nat) (dd dd2 : Option Addr) (sl sl2 : Array (Option Value)) :
    Meets (Builtin.«dict.__ne__» ⟨[.ref l, .ref b], []⟩) (fun _ R s => s.heap.get? l = some { cls := .type "dict", dict := dd, data := .dict es n, slots := sl } ∧ s.heap.get? b = some { cls := .type "tuple", dict := dd2, data := .seq items2 n2, slots := sl2 } ∧ R (.ok (.ret .notImplemented)) s) :=
  .of_wp fun prog w A R s h => by obtain ⟨hp, g, d, tk, os⟩ := s; obtain ⟨hl, hb, h⟩ := h; have f1 := F.sub_tuple_dict; wp_walk using wpAny_load hl, wpAny_load hb, wpAny_loadPart' hb; exact ⟨_, rfl, h⟩
theorem tuple_ne_declines_dict (l b : Addr) (es : Array DictEntry) (n : Nat) (items2 : Array Value) (n2 : Nat) (dd dd2 : Option Addr) (sl sl2 : Array (Option Value)) :
    Meets (Builtin.«tuple.__ne__» ⟨[.ref b, .ref l], []⟩) (fun _ R s => s.heap.get? l = some { cls := .type "dict", dict := dd, data := .dict es n, slots := sl } ∧ s.heap.get? b = some { cls := .type "tuple", dict := dd2, data := .seq items2 n2, slots := sl2 } ∧ R (.ok (.ret .notImplemented)) s) :=
  .of_wp fun prog w A R s h => by obtain ⟨hp, g, d, tk, os⟩ := s; obtain ⟨hl, hb, h⟩ := h; have f1 := F.sub_dict_tuple; wp_walk using wpAny_load hl, wpAny_load hb, wpAny_loadPart' hb; exact ⟨_, rfl, h⟩
section
variable {X : Cx} {c : Cn} {W : WX} {φ φ' : Phi} {H H' : Hp} {μ μ' : Mem}
theorem op_neDT (hu : X.A.units < cLine) : OpR X (compareOp .NotEq) (fun x y H Q => ∃ a b kvs xs, x = .ref a ∧ y = .ref b ∧ Rd H a (.dK kvs) ∧ SqT X.K H b xs ∧ Q (.bl true) H) := by
  intro pins s σ H x y v u Q I rx ry h
  obtain ⟨a, b, kvs, xs, rfl, rfl, hd, ht, q⟩ := h
  cases rx
  cases ry
  obtain ⟨_, _, vs, _, ob, es, n, h1, h2, h3⟩ := dk_rd I.hok hd
  obtain ⟨its, rv, ⟨o, ho, hc, m, ht⟩, _⟩ := I.tuple ht
  have h4 : ob.data = .dict es n := h3.1
  obtain ⟨cls, dd, data, sl⟩ := ob
  obtain ⟨cls2, dd2, data2, sl2⟩ := o
  have h5 := h2.1
  simp only at h4 h5 hc ht
  subst h4 h5 hc ht
  have hab : a ≠ b := fun z => by
    subst z
    rw [h1] at ho
    simp at ho
  show wpAny (model X.prog X.w) X.A (richCompare .NotEq (.ref a) (.ref b)) (EP X pins σ Q) X.xe s
  exact (rc_ne_decline_or (k := false) ⟨_, h1, rfl⟩ ⟨_, ho, rfl⟩ (by decide) PySem.F.sub_tuple_dict PySem.F.slot_dict_ne PySem.F.slot_tuple_ne_refl
    (fun _ hq => call_meets PySem.F.slot_dict_ne ⟨_, h1, rfl⟩ PySem.F.entry_dict_ne (PySem.F.args_dict_ne_2 _ _) (dict_ne_declines_tuple a b es n _ _ dd dd2 sl sl2) ⟨h1, ho, hq⟩)
    (fun _ hq => call_meets PySem.F.slot_tuple_ne_refl ⟨_, ho, rfl⟩ PySem.F.entry_tuple_ne (PySem.F.args_tuple_ne_2 _ _) (tuple_ne_declines_dict a b es n _ _ dd dd2 sl sl2) ⟨h1, ho, hq⟩)
    (fun _ hq => wpAny_isSame_ref_other hab h1 ho (by simp) hq) (.inr hu) ⟨.bl true, H, I, rfl, q⟩)
/-- != of any values, a dict and a tuple among them -/
def dNeT (x y : D) : M D := match x, y with
  | .dct _ _, .tup _ => pure (.bl true)
  | x, y => dNe x y
theorem opv_neT (hK : X.K = c.K) (hu : X.A.units + 64 < cLine) : OpV X c (compareOp .NotEq) dNeT := (opv_ne hK hu).or (op_neDT (Nat.lt_of_le_of_lt (Nat.le_add_right _ 64) hu)) fun φ μ H x y vx vy Q E w r1 r2 h => by
  unfold dNeT at h
  split at h
  · simp only [Rep] at r1 r2
    obtain ⟨a, vs, rfl, h1, _, _, _⟩ := r1
    obtain ⟨b, us, rfl, h2, _⟩ := r2
    rw [hK]
    exact .inl ⟨a, b, _, us, rfl, rfl, h1, by
      rcases h2 with ⟨h2, _⟩ | h2
      · exact .inl h2
      · exact sqtK h2, wp_pure h w of_bl⟩
  · exact .inr h
end
end VL

namespace VL
open PySem PySem.Spec PyProof.Rows L2 LamX OwA PySem.Builtin.Str
/-! ### a text in a text, as the kernel can reckon it -/
def occStep (s sub : Str) (hi limit i : Nat) (p : Array Nat × Nat) : Array Nat × Nat :=
  if (decide (p.1.size < limit) && decide (p.2 ≤ i) && decide (i + sub.length ≤ hi) && subAt s sub i) = true then (p.1.push i, i + sub.length) else p
def occC (s sub : Str) (lo hi limit : Nat) : List Nat := ((List.range' lo (hi + 1 - lo)).foldl (fun p i => occStep s sub hi limit i p) (#[], lo)).1.toList
theorem occ_eq (s sub : Str) (lo hi limit : Nat) : occurrences s sub lo hi limit = occC s sub lo hi limit := by
  have key : ∀ (l : List Nat) (p : Array Nat × Nat), (forIn (m := Id) l p fun i (q : Array Nat × Nat) =>
      if (decide (q.fst.size < limit) && decide (q.snd ≤ i) && decide (i + sub.length ≤ hi) && subAt s sub i) = true then pure (ForInStep.yield (q.fst.push i, i + sub.length)) else pure (ForInStep.yield (q.fst, q.snd))) = l.foldl (fun p i => occStep s sub hi limit i p) p := by
    intro l
    induction l with
    | nil => intro p; rfl
    | cons i r ih =>
      intro p
      rw [List.forIn_cons, List.foldl_cons, ← ih]
      by_cases h : (decide (p.fst.size < limit) && decide (p.snd ≤ i) && decide (i + sub.length ≤ hi) && subAt s sub i) = true
      · have e : occStep s sub hi limit i p = (p.1.push i, i + sub.length) := if_pos h
        rw [if_pos h, e]
        rfl
      · have e : occStep s sub hi limit i p = p := if_neg h
        rw [if_neg h, e]
        rfl
  unfold occurrences occC
  simp only [Id.run, Std.Legacy.Range.forIn_eq_forIn_range', Std.Legacy.Range.size, Nat.add_sub_cancel, Nat.div_one]
  show ((forIn (m := Id) (List.range' lo (hi + 1 - lo)) (#[], lo) _ : Array Nat × Nat)).1.toList = _
  rw [key]
def inBC (x y : D) : M Bool := match x, y with
  | .str a, .str b => pure (!(occC b a 0 b.length 1).isEmpty)
  | x, y => inB x y
theorem inBC_eq : inBC = inB := by
  funext x y
  unfold inBC
  split
  · rw [← occ_eq]; rfl
  · rfl
def dInC (x y : D) : M D := inBC x y >>= fun b => pure (.bl b)
def dNinC (x y : D) : M D := inBC x y >>= fun b => pure (.bl (!b))
section
variable {X : Cx} {c : Cn} {W : WX} {φ φ' : Phi} {H H' : Hp} {μ μ' : Mem}
theorem opv_inC (hK : X.K = c.K) : OpV X c (compareOp .In) dInC := by
  have e : dInC = dIn := by funext x y; unfold dInC dIn; rw [inBC_eq]
  rw [e]
  exact opv_in hK
theorem opv_ninC (hK : X.K = c.K) : OpV X c (compareOp .NotIn) dNinC := by
  have e : dNinC = dNin := by funext x y; unfold dNinC dNin; rw [inBC_eq]
  rw [e]
  exact opv_nin hK
/-- int of an int, a bool, a text of digits -/
def intSD : List D → M D
  | [.str a] => match PySem.intText? a with
    | some n => ask (decide (a.length ≤ 640)) >>= fun _ => pure (.int n)
    | none => stuck
  | ds => intD ds
theorem cv_intS : CallV X c (.type "int") intSD := cv_int.or call_int_str fun φ μ H ds vs Q E w r h => by
  unfold intSD at h
  split at h
  · split at h
    · rename_i a _ n hn
      obtain ⟨v, rfl, r0⟩ := repL1 r
      obtain ⟨hl, h⟩ := wp_ask h
      exact .inl ⟨a, n, by rw [rep_str r0], hn, of_decide_eq_true hl, wp_pure h w of_int⟩
    · exact (wp_stuck (α := VL.D) (R := Rep c) h)
  · exact .inr h
theorem ve_call00 {k : Nat} {f : Addr} {fd : FuncData} {ps : List Str} {x : Str} {p pos : Pos} {m : List VL.D → M VL.D} (F : FnOk X.prog X.w X.K X.mg X.base (L2.CX X.prog X.w) k f fd ps (spD c 0 m)) (hr : Room k X.A) (hg : Gl X x) (hm : X.mg x = some (.ref f)) (hk : PySem.W.keepIn X.K (.ref f) = true) (hb : Binds X.K fd ps [])
    (hdb : (x == ("__debug__" : Str)) = false := by decide) : VE X c W (.Call (.Name x p) [] [] pos) (fun _ => noX (m [])) :=
  ve_call0 (dds := []) F hr hg hm hk hb .nil (fun _ _ => by simp only [RepL]) (pe_call0 (E := fun _ _ _ => False) F hr hg hm hk hb .nil pass_no hdb)
end
end VL

/-! ### plain laws: what a run gives; the laws' dice -/
namespace VL
open PySem L2
section
variable {α β : Type} {μ μ' μ1 : Mem} {ρ ρ' : Env}
theorem bind_ok {m : M α} {k : α → M β} {a : α} {o : Out β} (h : m μ = .ok a μ') (h2 : k a μ' = o) : (m >>= k) μ = o := by
  show M.bind m k μ = o
  unfold M.bind
  rw [h]
  exact h2
theorem lift_ok {m : M α} {k : α → M Flow} {a : α} {o : Out Flow} (h : m μ = .ok a μ') (h2 : k a μ' = o) : liftS ρ m k μ = o := by
  unfold liftS
  rw [h]
  exact h2
theorem liftT_ok {m : M Env} {k : Env → M α} {o : Out α} (h : m μ = .ok ρ μ') (h2 : k ρ μ' = o) : liftT m k μ = o := by
  unfold liftT
  rw [h]
  exact h2
theorem seq_nx {m : M Flow} {k : Env → M Flow} {o : Out Flow} (h : m μ = .ok (.nx ρ) μ') (h2 : k ρ μ' = o) : seqM m k μ = o := bind_ok h h2
theorem seq_rt {m : M Flow} {k : Env → M Flow} {d : D} (h : m μ = .ok (.rt d) μ') : seqM m k μ = .ok (.rt d) μ' := bind_ok h rfl
theorem run_rt {n : Nat} {s : Env → M Flow} {ds : List D} {d : D} (h : s (ds.map some ++ List.replicate (n - ds.length) none) μ = .ok (.rt d) μ') : runF n s ds μ = .ok d μ' := by
  unfold runF
  rw [h]
theorem call_ok {n : Nat} {m : List D → M D} {ds : List D} {o : Out D} (hn : (ds.length == n) = true) (h : m ds μ = o) : callM n m ds μ = o := by
  unfold callM
  refine bind_ok (a := ()) (μ' := μ) ?_ h
  rw [hn]
  rfl
theorem noX_ok {m : M α} {a : α} (h : m μ = .ok a μ') : noX m μ = .ok a μ' := by unfold noX; rw [h]
theorem ask_ok {p : Bool} (h : p = true) : ask p μ = .ok () μ := by rw [h]; rfl
theorem iop_ok {ok : Int → Int → Bool} {g : Int → Int → D} {i j : Int} (h : ok i j = true) : intOp ok g (.int i) (.int j) μ = .ok (g i j) μ := bind_ok (a := ()) (ask_ok h) rfl
theorem mul_ok {i j : Int} (hi : i.natAbs < 2 ^ 200) (hj : j.natAbs < 2 ^ 200) : dMul (.int i) (.int j) μ = .ok (.int (i * j)) μ := iop_ok (by
  rw [decide_eq_true_eq]
  have f : ∀ n : Nat, n < 2 ^ 200 → n.log2 < 201 := fun n h => by
    by_cases z : n = 0
    · rw [z]; decide
    · have := (Nat.log2_lt z (k := 200)).2 h
      omega
  have := f _ hi
  have := f _ hj
  omega)
theorem div_ok {i j : Int} (h0 : 0 < j) (hj : j.natAbs < 2 ^ 200) : dDiv (.int i) (.int j) μ = .ok (.int (i / j)) μ := iop_ok (by
  rw [decide_eq_true_eq]
  have := (Nat.log2_lt (n := j.natAbs) (by omega) (k := 200)).2 hj
  exact ⟨h0, by omega⟩)
theorem mod_ok {i j : Int} (h0 : 0 < j) : dMod (.int i) (.int j) μ = .ok (.int (i % j)) μ := iop_ok (by
  rw [decide_eq_true_eq]
  exact h0)
theorem add_ok {i j : Int} : dAdd (.int i) (.int j) μ = .ok (.int (i + j)) μ := rfl
end
def fP_dice : Env → M Flow := fun ρ => seqM (liftS ρ ((((rd 1 ρ) >>= fun x => (((rd 0 ρ) >>= fun x => (pure [] : M (List D)) >>= fun r => pure (x :: r)) >>= lenD) >>= fun y => dLt x y) >>= asB) >>= fun k => if k then ((((rd 0 ρ) >>= fun x => (rd 1 ρ) >>= fun y => dIx x y) >>= fun x => (pure [] : M (List D)) >>= fun r => pure (x :: r)) >>= intD) else (((pure (D.int 89) : M D) >>= fun x => (rd 1 ρ) >>= fun y => dMul x y) >>= fun x => (pure (D.int 53) : M D) >>= fun y => dAdd x y)) fun d => pure (Flow.nx (ρ.set 2 (some d))))
    (fun ρ => seqM (liftS ρ ((((pure (D.int 0) : M D) >>= fun x => (((((rd 2 ρ) >>= fun x => (pure [] : M (List D)) >>= fun r => pure (x :: r)) >>= absD) >>= fun x => ((pure (D.int 10) : M D) >>= fun x => (pure (D.int 17) : M D) >>= fun y => dPow x y) >>= fun y => dSub x y) >>= fun x => (pure [] : M (List D)) >>= fun r => pure (x :: r)) >>= fun r => pure (x :: r)) >>= maxD) >>= fun x => (((pure (D.int 10) : M D) >>= fun x => (pure (D.int 57) : M D) >>= fun y => dPow x y) >>= fun x => ((pure (D.int 10) : M D) >>= fun x => (pure (D.int 60) : M D) >>= fun y => dPow x y) >>= fun y => dMul x y) >>= fun y => dMod x y) fun d => pure (Flow.nx (ρ.set 3 (some d))))
    (fun ρ => liftS ρ (((rd 3 ρ) >>= fun x => (((((((((rd 2 ρ) >>= fun x => (pure [] : M (List D)) >>= fun r => pure (x :: r)) >>= absD) >>= fun x => (pure (D.int 1152921504606846817) : M D) >>= fun y => dMod x y) >>= fun x => (pure (D.int 83) : M D) >>= fun y => dMul x y) >>= fun x => ((pure (D.int 1009) : M D) >>= fun x => (rd 1 ρ) >>= fun y => dMul x y) >>= fun y => dAdd x y) >>= fun x => ((pure (D.int 43) : M D) >>= fun x => ((((rd 2 ρ) >>= fun x => (pure (D.int 0) : M D) >>= fun y => dLt x y) >>= fun x => (pure [] : M (List D)) >>= fun r => pure (x :: r)) >>= intD) >>= fun y => dMul x y) >>= fun y => dAdd x y) >>= fun x => (pure (D.int 29) : M D) >>= fun y => dAdd x y) >>= fun x => ((pure (D.int 0) : M D) >>= fun x => (pure [] : M (List D)) >>= fun r => pure (x :: r)) >>= fun r => pure (x :: r)) >>= fun r => pure (x :: r)) >>= mkNew) fun d => pure (Flow.rt d)))
def mP_dice : List D → M D := runF 4 fP_dice
def fP_roll : Env → M Flow := fun ρ => seqM (liftS ρ ((((rd 0 ρ) >>= fun x => (pure (D.int 0) : M D) >>= fun y => dIx x y) >>= fun x => (pure (D.int 0) : M D) >>= fun y => dGt x y) >>= asB) fun k => if k then (seqM (liftS ρ (((((rd 0 ρ) >>= fun x => (pure (D.int 0) : M D) >>= fun y => dIx x y) >>= fun x => (pure [] : M (List D)) >>= fun r => pure (x :: r)) >>= intD) >>= fun x => (rd 1 ρ) >>= fun y => dMod x y) fun d => pure (Flow.nx (ρ.set 4 (some d))))
    (fun ρ => seqM (liftS ρ (((rd 0 ρ) >>= fun x => (pure (D.int 0) : M D) >>= fun y => dIx x y) >>= fun x => (rd 1 ρ) >>= fun y => dDiv x y) fun d => liftT ((gIx (fun ρ => (rd 0 ρ)) (fun ρ => (pure (D.int 0) : M D))) d ρ) fun ρ1 => pure (Flow.nx ρ1))
    (fun ρ => liftS ρ (rd 4 ρ) fun d => pure (Flow.rt d)))) else (pure (Flow.nx ρ)))
    (fun ρ => seqM (liftS ρ (((rd 0 ρ) >>= fun x => (pure (D.int 2) : M D) >>= fun y => dIx x y) >>= fun x => (pure (D.int 1) : M D) >>= fun y => dAdd x y) fun d => liftT ((gIx (fun ρ => (rd 0 ρ)) (fun ρ => (pure (D.int 2) : M D))) d ρ) fun ρ1 => pure (Flow.nx ρ1))
    (fun ρ => seqM (liftS ρ ((((((rd 0 ρ) >>= fun x => (pure (D.int 1) : M D) >>= fun y => dIx x y) >>= fun x => ((pure (D.int 67867979) : M D) >>= fun x => ((rd 0 ρ) >>= fun x => (pure (D.int 2) : M D) >>= fun y => dIx x y) >>= fun y => dMul x y) >>= fun y => dAdd x y) >>= fun x => (pure [] : M (List D)) >>= fun r => pure (x :: r)) >>= intD) >>= fun x => (pure (D.int 2305843009213693723) : M D) >>= fun y => dMod x y) fun d => pure (Flow.nx (ρ.set 2 (some d))))
    (fun ρ => seqM (liftS ρ ((((((((rd 2 ρ) >>= fun x => (rd 2 ρ) >>= fun y => dMul x y) >>= fun x => ((pure (D.int 113) : M D) >>= fun x => ((rd 0 ρ) >>= fun x => (pure (D.int 2) : M D) >>= fun y => dIx x y) >>= fun y => dMul x y) >>= fun y => dAdd x y) >>= fun x => (pure [] : M (List D)) >>= fun r => pure (x :: r)) >>= intD) >>= fun x => (pure (D.int 2305843009213693487) : M D) >>= fun y => dMod x y) >>= fun x => (pure (D.int 6700417) : M D) >>= fun y => dMul x y) >>= fun x => (rd 2 ρ) >>= fun y => dAdd x y) fun d => pure (Flow.nx (ρ.set 3 (some d))))
    (fun ρ => liftS ρ (((((rd 3 ρ) >>= fun x => (pure (D.int 65537) : M D) >>= fun y => dDiv x y) >>= fun x => (pure [] : M (List D)) >>= fun r => pure (x :: r)) >>= intD) >>= fun x => (rd 1 ρ) >>= fun y => dMod x y) fun d => pure (Flow.rt d)))))
def mP_roll : List D → M D := runF 5 fP_roll
def fP_pick : Env → M Flow := fun ρ => liftS ρ ((rd 1 ρ) >>= fun x => (((rd 0 ρ) >>= fun x => ((((rd 1 ρ) >>= fun x => (pure [] : M (List D)) >>= fun r => pure (x :: r)) >>= lenD) >>= fun x => (pure [] : M (List D)) >>= fun r => pure (x :: r)) >>= fun r => pure (x :: r)) >>= callM 2 mP_roll) >>= fun y => dIx x y) fun d => pure (Flow.rt d)
def mP_pick : List D → M D := runF 2 fP_pick
theorem roll_hi {l s t n : Int} {r : Mem} (h : 0 < l) (hn : 0 < n) (hb : n < 2 ^ 100) : mP_roll [.ptr 0, .int n] (.lst [.int l, .int s, .int t] :: r) = .ok (.int (l % n)) (.lst [.int (l / n), .int s, .int t] :: r) := by
  refine run_rt (seq_rt (lift_ok (a := true) (μ' := .lst [.int l, .int s, .int t] :: r) ?_ ?_))
  · show Out.ok (decide (0 < l)) _ = _
    rw [decide_eq_true h]
  · refine seq_nx (lift_ok (a := .int (l % n)) (bind_ok (a := .int l) rfl (bind_ok (a := .int n) rfl (mod_ok hn))) rfl) ?_
    refine seq_nx (lift_ok (a := .int (l / n)) (bind_ok (a := .int l) rfl (bind_ok (a := .int n) rfl (div_ok hn (by omega)))) rfl) rfl
theorem roll_lo {l s t n k : Int} {r : Mem} (h : ¬ 0 < l) (hn : 0 < n) (ht : 0 ≤ t) (hk : t < k) (hb : k < 2 ^ 100) : ∃ x, 0 ≤ x ∧ x < n ∧ mP_roll [.ptr 0, .int n] (.lst [.int l, .int s, .int t] :: r) = .ok (.int x) (.lst [.int l, .int s, .int (t + 1)] :: r) := by
  obtain ⟨x, hx⟩ : ∃ x, x = (s + 67867979 * (t + 1)) % 2305843009213693723 := ⟨_, rfl⟩
  have x0 : 0 ≤ x := by rw [hx]; exact Int.emod_nonneg _ (by decide)
  have x1 : x < 2305843009213693723 := by rw [hx]; exact Int.emod_lt_of_pos _ (by decide)
  obtain ⟨z, hz⟩ : ∃ z, z = (x * x + 113 * (t + 1)) % 2305843009213693487 := ⟨_, rfl⟩
  have z0 : 0 ≤ z := by rw [hz]; exact Int.emod_nonneg _ (by decide)
  have z1 : z < 2305843009213693487 := by rw [hz]; exact Int.emod_lt_of_pos _ (by decide)
  refine ⟨(z * 6700417 + x) / 65537 % n, Int.emod_nonneg _ (by omega), Int.emod_lt_of_pos _ hn, run_rt (seq_nx (ρ := [some (.ptr 0), some (.int n), none, none, none]) (μ' := .lst [.int l, .int s, .int t] :: r) (lift_ok (a := false) (μ' := .lst [.int l, .int s, .int t] :: r) ?_ rfl) ?_)⟩
  · show Out.ok (decide (0 < l)) _ = _
    rw [decide_eq_false h]
  · refine seq_nx (μ' := .lst [.int l, .int s, .int (t + 1)] :: r) (ρ := [some (.ptr 0), some (.int n), none, none, none]) rfl ?_
    refine seq_nx (ρ := [some (.ptr 0), some (.int n), some (.int x), none, none]) (μ' := .lst [.int l, .int s, .int (t + 1)] :: r) (lift_ok (a := .int x) (μ' := .lst [.int l, .int s, .int (t + 1)] :: r) (bind_ok (a := .int (s + 67867979 * (t + 1))) (bind_ok (a := [.int (s + 67867979 * (t + 1))]) (bind_ok (a := .int (s + 67867979 * (t + 1))) (bind_ok (a := .int s) rfl (bind_ok (a := .int (67867979 * (t + 1))) (bind_ok (a := .int 67867979) rfl (bind_ok (a := .int (t + 1)) rfl (mul_ok (by decide) (by omega)))) rfl)) rfl) rfl) (by rw [hx]; exact bind_ok (a := .int 2305843009213693723) rfl (mod_ok (by decide)))) rfl) ?_
    clear hx
    refine seq_nx (ρ := [some (.ptr 0), some (.int n), some (.int x), some (.int (z * 6700417 + x)), none]) (μ' := .lst [.int l, .int s, .int (t + 1)] :: r) (lift_ok (a := .int (z * 6700417 + x)) (μ' := .lst [.int l, .int s, .int (t + 1)] :: r) (bind_ok (a := .int (z * 6700417)) (bind_ok (a := .int z) (bind_ok (a := .int (x * x + 113 * (t + 1))) (bind_ok (a := [.int (x * x + 113 * (t + 1))]) (bind_ok (a := .int (x * x + 113 * (t + 1))) (bind_ok (a := .int (x * x)) (bind_ok (a := .int x) rfl (bind_ok (a := .int x) rfl (mul_ok (by omega) (by omega)))) (bind_ok (a := .int (113 * (t + 1))) (bind_ok (a := .int 113) rfl (bind_ok (a := .int (t + 1)) rfl (mul_ok (by decide) (by omega)))) rfl)) rfl) rfl) (by rw [hz]; exact bind_ok (a := .int 2305843009213693487) rfl (mod_ok (by decide)))) (bind_ok (a := .int 6700417) rfl (mul_ok (by omega) (by decide)))) rfl) rfl) ?_
    exact lift_ok (bind_ok (a := .int ((z * 6700417 + x) / 65537)) (bind_ok (a := [.int ((z * 6700417 + x) / 65537)]) (bind_ok (a := .int ((z * 6700417 + x) / 65537)) (bind_ok (a := .int (z * 6700417 + x)) rfl (bind_ok (a := .int 65537) rfl (div_ok (by decide) (by decide)))) rfl) rfl) (bind_ok (a := .int n) rfl (mod_ok hn))) rfl
/-- the dice: what is left, the seed, the count -/
def Dice (k : Int) (μ : Mem) (r : Mem) : Prop := ∃ l s t, 0 ≤ t ∧ t < k ∧ μ = .lst [.int l, .int s, .int t] :: r
theorem Dice.up {k j : Int} {μ r : Mem} (h : Dice k μ r) (hj : k ≤ j) : Dice j μ r := by
  obtain ⟨l, s, t, h0, h1, e⟩ := h
  exact ⟨l, s, t, h0, by omega, e⟩
theorem roll_ok {n k : Int} {μ r : Mem} (hd : Dice k μ r) (hk : k < 2 ^ 99) (hn : 0 < n) (hb : n < 2 ^ 100) : ∃ x μ', 0 ≤ x ∧ x < n ∧ Dice (k + 1) μ' r ∧ mP_roll [.ptr 0, .int n] μ = .ok (.int x) μ' := by
  obtain ⟨l, s, t, h0, h1, rfl⟩ := hd
  by_cases h : 0 < l
  · exact ⟨_, _, Int.emod_nonneg _ (by omega), Int.emod_lt_of_pos _ hn, ⟨l / n, s, t, h0, by omega, rfl⟩, roll_hi h hn hb⟩
  · obtain ⟨x, x0, x1, e⟩ := roll_lo (l := l) (s := s) (r := r) h hn h0 h1 (by omega)
    exact ⟨x, _, x0, x1, ⟨l, s, t + 1, by omega, by omega, rfl⟩, e⟩
theorem atI_ok {xs : List D} {x : Int} (h0 : 0 ≤ x) (h1 : x < xs.length) : ∃ d, atI xs x = some d ∧ d ∈ xs := by
  have hx : x.toNat < xs.length := by omega
  refine ⟨xs[x.toNat], ?_, List.getElem_mem hx⟩
  obtain ⟨m, rfl⟩ := Int.eq_ofNat_of_zero_le h0
  have hm : m < xs.length := by omega
  unfold atI ixN
  first
    | (simp [hm]; done)
    | (simp [hm]; omega)
/-- what can be picked from -/
def itemsOf : D → Option (List D)
  | .lst xs => some xs
  | .tup xs => some xs
  | _ => none
theorem pick_ok {xs : List D} {k : Int} {x : D} {μ r : Mem} (hd : Dice k μ r) (hx : itemsOf x = some xs) (hn : (!xs.isEmpty && decide (xs.length < 1000000)) = true) (hk : k < 2 ^ 99 := by decide) : ∃ d μ', d ∈ xs ∧ Dice (k + 1) μ' r ∧ mP_pick [.ptr 0, x] μ = .ok d μ' := by
  simp only [Bool.and_eq_true, decide_eq_true_eq, Bool.not_eq_true', List.isEmpty_eq_false_iff] at hn
  obtain ⟨hn, hb⟩ := hn
  have hl : 0 < xs.length := List.length_pos_iff.2 hn
  obtain ⟨y, μ', y0, y1, hd', e⟩ := roll_ok (n := (xs.length : Int)) hd hk (by omega) (by omega)
  obtain ⟨d, ed, hm⟩ := atI_ok y0 y1
  refine ⟨d, μ', hm, hd', run_rt (lift_ok (a := d) (μ' := μ') (bind_ok (a := x) (μ' := μ) rfl (bind_ok (a := .int y) (μ' := μ') (bind_ok (a := [.ptr 0, .int (xs.length : Int)]) (μ' := μ) ?_ (call_ok rfl e)) ?_)) rfl)⟩
  · refine bind_ok (a := .ptr 0) (μ' := μ) rfl (bind_ok (a := [.int (xs.length : Int)]) (μ' := μ) (bind_ok (a := .int (xs.length : Int)) (μ' := μ) (bind_ok (a := [x]) (μ' := μ) rfl ?_) rfl) rfl)
    cases x <;> simp only [itemsOf, Option.some.injEq, reduceCtorEq] at hx
    all_goals subst hx; rfl
  · cases x <;> simp only [itemsOf, Option.some.injEq, reduceCtorEq] at hx
    all_goals
      subst hx
      show atM _ y μ' = _
      unfold atM
      rw [ed]
      rfl
end VL

namespace VL
open PySem L2
theorem atI_map {ns : List Int} {i : Int} (h0 : 0 ≤ i) (h1 : i < ns.length) : ∃ x, atI (ns.map D.int) i = some (.int x) := by
  obtain ⟨d, e, hm⟩ := atI_ok (xs := ns.map D.int) h0 (by rw [List.length_map]; exact h1)
  obtain ⟨x, _, rfl⟩ := List.mem_map.1 hm
  exact ⟨x, e⟩
theorem dice_ok {ns : List Int} {i : Int} {μ : Mem} (h0 : 0 ≤ i) (h1 : i < 100) : ∃ l s, mP_dice [.scr (ns.map D.int), .int i] μ = .ok (.ptr μ.length) (μ ++ [.lst [.int l, .int s, .int 0]]) := by
  have hc : ∃ x : Int, fP_dice [some (.scr (ns.map D.int)), some (.int i), none, none] μ = (fun ρ => seqM (liftS ρ ((((pure (D.int 0) : M D) >>= fun x => (((((rd 2 ρ) >>= fun x => (pure [] : M (List D)) >>= fun r => pure (x :: r)) >>= absD) >>= fun x => ((pure (D.int 10) : M D) >>= fun x => (pure (D.int 17) : M D) >>= fun y => dPow x y) >>= fun y => dSub x y) >>= fun x => (pure [] : M (List D)) >>= fun r => pure (x :: r)) >>= fun r => pure (x :: r)) >>= maxD) >>= fun x => (((pure (D.int 10) : M D) >>= fun x => (pure (D.int 57) : M D) >>= fun y => dPow x y) >>= fun x => ((pure (D.int 10) : M D) >>= fun x => (pure (D.int 60) : M D) >>= fun y => dPow x y) >>= fun y => dMul x y) >>= fun y => dMod x y) fun d => pure (Flow.nx (ρ.set 3 (some d))))
    (fun ρ => liftS ρ (((rd 3 ρ) >>= fun x => (((((((((rd 2 ρ) >>= fun x => (pure [] : M (List D)) >>= fun r => pure (x :: r)) >>= absD) >>= fun x => (pure (D.int 1152921504606846817) : M D) >>= fun y => dMod x y) >>= fun x => (pure (D.int 83) : M D) >>= fun y => dMul x y) >>= fun x => ((pure (D.int 1009) : M D) >>= fun x => (rd 1 ρ) >>= fun y => dMul x y) >>= fun y => dAdd x y) >>= fun x => ((pure (D.int 43) : M D) >>= fun x => ((((rd 2 ρ) >>= fun x => (pure (D.int 0) : M D) >>= fun y => dLt x y) >>= fun x => (pure [] : M (List D)) >>= fun r => pure (x :: r)) >>= intD) >>= fun y => dMul x y) >>= fun y => dAdd x y) >>= fun x => (pure (D.int 29) : M D) >>= fun y => dAdd x y) >>= fun x => ((pure (D.int 0) : M D) >>= fun x => (pure [] : M (List D)) >>= fun r => pure (x :: r)) >>= fun r => pure (x :: r)) >>= fun r => pure (x :: r)) >>= mkNew) fun d => pure (Flow.rt d))) [some (.scr (ns.map D.int)), some (.int i), some (.int x), none] μ := by
    have hl : (ns.map D.int).length = ns.length := List.length_map ..
    by_cases h : i < ns.length
    · obtain ⟨x, e⟩ := atI_map h0 h
      refine ⟨x, seq_nx (lift_ok (a := .int x) (μ' := μ) (bind_ok (a := true) (μ' := μ) ?_ ?_) rfl) rfl⟩
      · show Out.ok (decide (i < ((ns.map D.int).length : Int))) μ = _
        rw [hl, decide_eq_true h]
      · refine bind_ok (a := [.int x]) (μ' := μ) (bind_ok (a := .int x) (μ' := μ) ?_ rfl) rfl
        show atM (ns.map D.int) i μ = _
        unfold atM
        rw [e]
        rfl
    · refine ⟨89 * i + 53, seq_nx (lift_ok (a := .int (89 * i + 53)) (μ' := μ) (bind_ok (a := false) (μ' := μ) ?_ ?_) rfl) rfl⟩
      · show Out.ok (decide (i < ((ns.map D.int).length : Int))) μ = _
        rw [hl, decide_eq_false h]
      · exact bind_ok (a := .int (89 * i)) (μ' := μ) (bind_ok (a := .int 89) rfl (bind_ok (a := .int i) rfl (mul_ok (by decide) (by omega)))) rfl
  obtain ⟨x, hc⟩ := hc
  obtain ⟨y, hy⟩ : ∃ y : Int, y = if x < 0 then -x else x := ⟨_, rfl⟩
  have hb : (y % 1152921504606846817).natAbs < 2 ^ 200 := by
    have := Int.emod_nonneg y (b := 1152921504606846817) (by decide)
    have := Int.emod_lt_of_pos y (b := 1152921504606846817) (by decide)
    omega
  obtain ⟨z, hz, hz2⟩ : ∃ z : Int, maxD [.int 0, .int (y - 10 ^ 17)] μ = .ok (.int z) μ ∧ True := ⟨_, rfl, trivial⟩
  have hi : (if decide (x < 0) then (1 : Int) else 0).natAbs < 2 ^ 200 := by split <;> decide
  refine ⟨z % (10 ^ 57 * 10 ^ 60), y % 1152921504606846817 * 83 + 1009 * i + 43 * (if decide (x < 0) then 1 else 0) + 29, run_rt ?_⟩
  show fP_dice [some (.scr (ns.map D.int)), some (.int i), none, none] μ = _
  rw [hc]
  have ha : absD [.int x] μ = .ok (.int y) μ := by rw [hy]; rfl
  refine seq_nx (ρ := [some (.scr (ns.map D.int)), some (.int i), some (.int x), some (.int (z % (10 ^ 57 * 10 ^ 60)))]) (μ' := μ) (lift_ok (a := .int (z % (10 ^ 57 * 10 ^ 60))) (μ' := μ) (bind_ok (a := .int z) (μ' := μ) (bind_ok (a := [.int 0, .int (y - 10 ^ 17)]) (μ' := μ) (bind_ok (a := .int 0) rfl (bind_ok (a := [.int (y - 10 ^ 17)]) (μ' := μ) (bind_ok (a := .int (y - 10 ^ 17)) (μ' := μ) (bind_ok (a := .int y) (μ' := μ) (bind_ok (a := [.int x]) (μ' := μ) rfl ha) (bind_ok (a := .int (10 ^ 17)) (μ' := μ) rfl rfl)) rfl) rfl)) hz) (bind_ok (a := .int (10 ^ 57 * 10 ^ 60)) (μ' := μ) (bind_ok (a := .int (10 ^ 57)) (μ' := μ) rfl (bind_ok (a := .int (10 ^ 60)) (μ' := μ) rfl (mul_ok (by decide) (by decide)))) (mod_ok (by decide)))) rfl) ?_
  refine lift_ok (a := .ptr μ.length) (bind_ok (a := [.int (z % (10 ^ 57 * 10 ^ 60)), .int (y % 1152921504606846817 * 83 + 1009 * i + 43 * (if decide (x < 0) then 1 else 0) + 29), .int 0]) (μ' := μ) (bind_ok (a := .int (z % (10 ^ 57 * 10 ^ 60))) (μ' := μ) rfl (bind_ok (a := [.int (y % 1152921504606846817 * 83 + 1009 * i + 43 * (if decide (x < 0) then 1 else 0) + 29), .int 0]) (μ' := μ) (bind_ok (a := .int (y % 1152921504606846817 * 83 + 1009 * i + 43 * (if decide (x < 0) then 1 else 0) + 29)) (μ' := μ) (bind_ok (a := .int (y % 1152921504606846817 * 83 + 1009 * i + 43 * (if decide (x < 0) then 1 else 0))) (μ' := μ) (bind_ok (a := .int (y % 1152921504606846817 * 83 + 1009 * i)) (μ' := μ) (bind_ok (a := .int (y % 1152921504606846817 * 83)) (μ' := μ) (bind_ok (a := .int (y % 1152921504606846817)) (μ' := μ) (bind_ok (a := .int y) (μ' := μ) (bind_ok (a := [.int x]) (μ' := μ) rfl ha) (bind_ok (a := .int 1152921504606846817) (μ' := μ) rfl (mod_ok (by decide)))) (bind_ok (a := .int 83) (μ' := μ) rfl (mul_ok hb (by decide)))) (bind_ok (a := .int (1009 * i)) (μ' := μ) (bind_ok (a := .int 1009) (μ' := μ) rfl (bind_ok (a := .int i) (μ' := μ) rfl (mul_ok (by decide) (by omega)))) rfl)) (bind_ok (a := .int (43 * (if decide (x < 0) then 1 else 0))) (μ' := μ) (bind_ok (a := .int 43) (μ' := μ) rfl (bind_ok (a := .int (if decide (x < 0) then 1 else 0)) (μ' := μ) rfl (mul_ok (by decide) hi))) rfl)) rfl) rfl) rfl)) rfl) rfl
/-- a run in a store of its own, at a pointer -/
theorem locM_ok {m : List D → M D} {k : Nat} {c c' : Cell} {μ μ' : Mem} {d : D} (hc : μ[k]? = some c) (hn : noPtrC c = true) (h : m [.ptr 0] [c] = .ok d (c' :: μ')) (hd : noPtr d = true) (hn' : noPtrC c' = true) : locM m [.ptr k] μ = .ok d (μ.set k c') := by
  unfold locM
  simp [hc, hn, h, hd, hn', noPtrL]
end VL
namespace VL
open PySem L2
/-- a cell of dice -/
def DiceC (k : Int) (c : Cell) : Prop := ∃ l s t, 0 ≤ t ∧ t < k ∧ c = .lst [.int l, .int s, .int t]
theorem DiceC.np {k : Int} {c : Cell} (h : DiceC k c) : noPtrC c = true := by
  obtain ⟨l, s, t, _, _, rfl⟩ := h
  rfl
theorem DiceC.dice {k : Int} {c : Cell} (h : DiceC k c) (r : Mem) : Dice k (c :: r) r := by
  obtain ⟨l, s, t, h0, h1, rfl⟩ := h
  exact ⟨l, s, t, h0, h1, rfl⟩
theorem Dice.cell {k : Int} {μ r : Mem} (h : Dice k μ r) : ∃ c, DiceC k c ∧ μ = c :: r := by
  obtain ⟨l, s, t, h0, h1, rfl⟩ := h
  exact ⟨_, ⟨l, s, t, h0, h1, rfl⟩, rfl⟩
theorem DiceC.up {k j : Int} {c : Cell} (h : DiceC k c) (hj : k ≤ j) : DiceC j c := by
  obtain ⟨l, s, t, h0, h1, e⟩ := h
  exact ⟨l, s, t, h0, by omega, e⟩
/-- every choice -/
def prod : List (List D) → List (List D)
  | [] => [[]]
  | xs :: r => xs.flatMap fun x => (prod r).map (x :: ·)
def Picked : List D → List (List D) → Prop
  | [], [] => True
  | d :: ds, xs :: r => d ∈ xs ∧ Picked ds r
  | _, _ => False
theorem mem_prod : ∀ (ds : List D) (xss : List (List D)), Picked ds xss → ds ∈ prod xss
  | [], [], _ => by simp [prod]
  | d :: ds, xs :: r, h => by
    simp only [prod, List.mem_flatMap, List.mem_map]
    exact ⟨d, h.1, ds, mem_prod ds r h.2, rfl⟩
  | [], _ :: _, h => h.elim
  | _ :: _, [], h => h.elim
/-- the law's answer is True; its dice lie in the first place -/
def outC : Out Flow → Option Cell
  | .ok (.rt (.bl true)) (c :: _) => some c
  | _ => none
theorem outC_ok {x : Out Flow} {c : Cell} (h : outC x = some c) : ∃ μ, x = .ok (.rt (.bl true)) (c :: μ) := by
  unfold outC at h
  split at h
  · cases h
    exact ⟨_, rfl⟩
  · cases h
theorem all_prod {xss : List (List D)} {f : List D → Option Cell} {c : Cell} {n : Nat} (h : (prod xss).map f = List.replicate n (some c)) {ds : List D} (hd : Picked ds xss) : f ds = some c :=
  List.eq_of_mem_replicate (h ▸ List.mem_map_of_mem (mem_prod ds xss hd))
/-! ### the cells -/
section
variable {it : ItD} {g : D → Env → M Env} {body : Env → M Flow} {d : D} {r : List D} {ρ ρ1 ρ2 : Env} {μ μ1 : Mem} {o : Out Flow}
theorem turn_ok (hc : it.chk = fun _ => True) (hg : g d ρ μ = .ok ρ1 μ) (hb : body ρ1 μ = .ok (.nx ρ2) μ1) (h : loopI it g body r ρ2 μ1 = o) : loopI it g body (d :: r) ρ μ = o := by
  unfold loopI chkM
  rw [if_pos (by rw [hc]; trivial)]
  exact liftT_ok hg (bind_ok hb h)
theorem turn_nil (hc : it.chk = fun _ => True) : loopI it g body [] ρ μ = .ok (.nx ρ) μ := by
  unfold loopI chkM
  rw [if_pos (by rw [hc]; trivial)]
  rfl
theorem cells_ok {E : Option D → Option D → Env} (hc : it.chk = fun _ => True) (hg : ∀ d a b μ, g d (E a b) μ = .ok (E (some d) b) μ)
    (hb : ∀ (i : Nat) b μ, i < 4 → μ.length = i → ∃ c, body (E (some (.int i)) b) μ = .ok (.nx (E (some (.int i)) (some (.ptr i)))) (μ ++ [c])) :
    (∃ c0, loopI it g body (rangeD 0 1) (E none none) [] = .ok (.nx (E (some (.int 0)) (some (.ptr 0)))) [c0]) ∧
    (∃ c0 c1, loopI it g body (rangeD 0 2) (E none none) [] = .ok (.nx (E (some (.int 1)) (some (.ptr 1)))) [c0, c1]) ∧
    (∃ c0 c1 c2, loopI it g body (rangeD 0 3) (E none none) [] = .ok (.nx (E (some (.int 2)) (some (.ptr 2)))) [c0, c1, c2]) ∧
    (∃ c0 c1 c2 c3, loopI it g body (rangeD 0 4) (E none none) [] = .ok (.nx (E (some (.int 3)) (some (.ptr 3)))) [c0, c1, c2, c3]) := by
  obtain ⟨c0, h0⟩ := hb 0 none [] (by decide) rfl
  obtain ⟨c1, h1⟩ := hb 1 (some (.ptr 0)) [c0] (by decide) rfl
  obtain ⟨c2, h2⟩ := hb 2 (some (.ptr 1)) [c0, c1] (by decide) rfl
  obtain ⟨c3, h3⟩ := hb 3 (some (.ptr 2)) [c0, c1, c2] (by decide) rfl
  have e1 : rangeD 0 1 = [.int (0 : Nat)] := rfl
  have e2 : rangeD 0 2 = [.int (0 : Nat), .int (1 : Nat)] := rfl
  have e3 : rangeD 0 3 = [.int (0 : Nat), .int (1 : Nat), .int (2 : Nat)] := rfl
  have e4 : rangeD 0 4 = [.int (0 : Nat), .int (1 : Nat), .int (2 : Nat), .int (3 : Nat)] := rfl
  refine ⟨⟨c0, ?_⟩, ⟨c0, c1, ?_⟩, ⟨c0, c1, c2, ?_⟩, ⟨c0, c1, c2, c3, ?_⟩⟩
  · rw [e1]
    exact turn_ok hc (hg _ _ _ _) h0 (turn_nil hc)
  · rw [e2]
    exact turn_ok hc (hg _ _ _ _) h0 (turn_ok hc (hg _ _ _ _) h1 (turn_nil hc))
  · rw [e3]
    exact turn_ok hc (hg _ _ _ _) h0 (turn_ok hc (hg _ _ _ _) h1 (turn_ok hc (hg _ _ _ _) h2 (turn_nil hc)))
  · rw [e4]
    exact turn_ok hc (hg _ _ _ _) h0 (turn_ok hc (hg _ _ _ _) h1 (turn_ok hc (hg _ _ _ _) h2 (turn_ok hc (hg _ _ _ _) h3 (turn_nil hc))))
/-- max(1, min(4, len(script))) -/
theorem len4 (ns : List Int) : ∃ (n : Nat) (l m : Int), (n = 1 ∨ n = 2 ∨ n = 3 ∨ n = 4) ∧ ∀ μ, lenD [.scr (ns.map D.int)] μ = .ok (.int l) μ ∧ minD [.int 4, .int l] μ = .ok (.int m) μ ∧ maxD [.int 1, .int m] μ = .ok (.int n) μ := by
  match ns with
  | [] => exact ⟨1, 0, 0, .inl rfl, fun _ => ⟨rfl, rfl, rfl⟩⟩
  | [a] => exact ⟨1, 1, 1, .inl rfl, fun _ => ⟨rfl, rfl, rfl⟩⟩
  | [a, b] => exact ⟨2, 2, 2, .inr (.inl rfl), fun _ => ⟨rfl, rfl, rfl⟩⟩
  | [a, b, c] => exact ⟨3, 3, 3, .inr (.inr (.inl rfl)), fun _ => ⟨rfl, rfl, rfl⟩⟩
  | a :: b :: c :: d :: r =>
    have h : (4 : Int) ≤ ((a :: b :: c :: d :: r).map D.int).length := by simp; omega
    generalize (a :: b :: c :: d :: r).map D.int = xs at h
    refine ⟨4, xs.length, 4, .inr (.inr (.inr rfl)), fun μ => ⟨rfl, ?_, rfl⟩⟩
    show min2D [.int 4, .int (xs.length : Int)] μ = _
    simp only [min2D]
    rw [if_neg (by omega)]
    rfl
theorem rng_ok (ns : List Int) {i : Nat} {ρ : Env} (hi : ρ[i]? = some (some (.scr (ns.map D.int)))) : ∃ n : Nat, (n = 1 ∨ n = 2 ∨ n = 3 ∨ n = 4) ∧ ∀ μ, (((((pure (D.int 1) : M D) >>= fun x => ((((pure (D.int 4) : M D) >>= fun x => ((((rd i ρ) >>= fun x => (pure [] : M (List D)) >>= fun r => pure (x :: r)) >>= lenD) >>= fun x => (pure [] : M (List D)) >>= fun r => pure (x :: r)) >>= fun r => pure (x :: r)) >>= minD) >>= fun x => (pure [] : M (List D)) >>= fun r => pure (x :: r)) >>= fun r => pure (x :: r)) >>= maxD) >>= fun x => (pure [] : M (List D)) >>= fun r => pure (x :: r)) >>= rng1) μ = .ok ⟨rangeD 0 n, fun _ => True⟩ μ := by
  obtain ⟨n, l, m, hn, h⟩ := len4 ns
  refine ⟨n, hn, fun μ => ?_⟩
  obtain ⟨h1, h2, h3⟩ := h μ
  have hr : rd i ρ = pure (.scr (ns.map D.int)) := by unfold rd; rw [hi]
  rw [hr]
  refine bind_ok (a := [.int n]) (μ' := μ) (bind_ok (a := .int n) (μ' := μ) (bind_ok (a := [.int 1, .int m]) (μ' := μ) (bind_ok (a := .int 1) (μ' := μ) rfl (bind_ok (a := [.int m]) (μ' := μ) (bind_ok (a := .int m) (μ' := μ) (bind_ok (a := [.int 4, .int l]) (μ' := μ) (bind_ok (a := .int 4) (μ' := μ) rfl (bind_ok (a := [.int l]) (μ' := μ) (bind_ok (a := .int l) (μ' := μ) (bind_ok (a := [.scr (ns.map D.int)]) (μ' := μ) rfl h1) rfl) rfl)) h2) rfl) rfl)) h3) rfl) ?_
  rcases hn with rfl | rfl | rfl | rfl <;> rfl
end
end VL
namespace VL
open PySem
section
variable {α β : Type} {μ μ' : Mem} {ρ : Env}
theorem pure_ok {a : α} : (pure a : M α) μ = .ok a μ := rfl
theorem rd_ok {i : Nat} {d : D} (h : ρ[i]? = some (some d)) : rd i ρ μ = .ok d μ := by unfold rd; rw [h]; rfl
theorem tup_ok {r : List D} (h : small r.length = true) : mkTup r μ = .ok (.tup r) μ := by unfold mkTup; exact bind_ok (a := ()) (μ' := μ) (by rw [h]; rfl) rfl
theorem lst_ok {r : List D} (h : small r.length = true) : mkLst r μ = .ok (.lst r) μ := by unfold mkLst; exact bind_ok (a := ()) (μ' := μ) (by rw [h]; rfl) rfl
theorem ask_bind {p : Bool} {k : Unit → M α} {o : Out α} (h : p = true) (h2 : k () μ = o) : (ask p >>= k) μ = o := bind_ok (ask_ok h) h2
end
end VL

namespace K44
open PySem PySem.Spec PyProof.Rows L2 LamX VL OwA

def topS (i : Nat) : Stmt := PySem.Challenge.pw_settledplay_k44_errors_of_letters_and_ba.main.body.getD i (.Pass ⟨0, 0, 0, 0⟩)
abbrev s_is_whole : Stmt := topS 9
abbrev N_is_whole : List Str := ["value"] -- 0:value
theorem sc_is_whole : FnScope N_is_whole ["value"] (defScope s_is_whole) := ⟨rfl, rfl, rfl, by decide +kernel, rfl, by decide +kernel, by decide +kernel⟩
abbrev s_is_short : Stmt := topS 10
abbrev N_is_short : List Str := ["value"] -- 0:value
theorem sc_is_short : FnScope N_is_short ["value"] (defScope s_is_short) := ⟨rfl, rfl, rfl, by decide +kernel, rfl, by decide +kernel, by decide +kernel⟩
abbrev s_is_from : Stmt := topS 11
abbrev N_is_from : List Str := ["value", "least", "most"] -- 0:value 1:least 2:most
theorem sc_is_from : FnScope N_is_from ["value", "least", "most"] (defScope s_is_from) := ⟨rfl, rfl, rfl, by decide +kernel, rfl, by decide +kernel, by decide +kernel⟩
abbrev s_is_tick : Stmt := topS 12
abbrev N_is_tick : List Str := ["value"] -- 0:value
theorem sc_is_tick : FnScope N_is_tick ["value"] (defScope s_is_tick) := ⟨rfl, rfl, rfl, by decide +kernel, rfl, by decide +kernel, by decide +kernel⟩
abbrev s_require_from : Stmt := topS 13
abbrev N_require_from : List Str := ["value", "least", "most"] -- 0:value 1:least 2:most
theorem sc_require_from : FnScope N_require_from ["value", "least", "most"] (defScope s_require_from) := ⟨rfl, rfl, rfl, by decide +kernel, rfl, by decide +kernel, by decide +kernel⟩
abbrev s_is_text : Stmt := topS 22
abbrev N_is_text : List Str := ["value", "most", "sign"] -- 0:value 1:most 2:sign
theorem sc_is_text : FnScope N_is_text ["value", "most"] (defScope s_is_text) := ⟨rfl, rfl, rfl, by decide +kernel, rfl, by decide +kernel, by decide +kernel⟩
abbrev s_require_text : Stmt := topS 23
abbrev N_require_text : List Str := ["value"] -- 0:value
theorem sc_require_text : FnScope N_require_text ["value"] (defScope s_require_text) := ⟨rfl, rfl, rfl, by decide +kernel, rfl, by decide +kernel, by decide +kernel⟩
abbrev s_length_at : Stmt := topS 25
abbrev N_length_at : List Str := ["text", "at", "most", "end", "found"] -- 0:text 1:at 2:most 3:end 4:found
theorem sc_length_at : FnScope N_length_at ["text", "at", "most"] (defScope s_length_at) := ⟨rfl, rfl, rfl, by decide +kernel, rfl, by decide +kernel, by decide +kernel⟩
abbrev s_integer_at : Stmt := topS 26
abbrev N_integer_at : List Str := ["text", "at", "start", "end"] -- 0:text 1:at 2:start 3:end
theorem sc_integer_at : FnScope N_integer_at ["text", "at"] (defScope s_integer_at) := ⟨rfl, rfl, rfl, by decide +kernel, rfl, by decide +kernel, by decide +kernel⟩
abbrev s_string_at : Stmt := topS 27
abbrev N_string_at : List Str := ["text", "at", "length"] -- 0:text 1:at 2:length
theorem sc_string_at : FnScope N_string_at ["text", "at"] (defScope s_string_at) := ⟨rfl, rfl, rfl, by decide +kernel, rfl, by decide +kernel, by decide +kernel⟩
abbrev s_leaf_at : Stmt := topS 28
abbrev N_leaf_at : List Str := ["text", "at", "sign", "found"] -- 0:text 1:at 2:sign 3:found
theorem sc_leaf_at : FnScope N_leaf_at ["text", "at"] (defScope s_leaf_at) := ⟨rfl, rfl, rfl, by decide +kernel, rfl, by decide +kernel, by decide +kernel⟩
abbrev s_value_in : Stmt := topS 29
abbrev N_value_in : List Str := ["text", "open_lists", "lacks", "at", "is_begun", "many", "found", "is_there"] -- 0:text 1:open_lists 2:lacks 3:at 4:is_begun 5:many 6:found 7:is_there
theorem sc_value_in : FnScope N_value_in ["text"] (defScope s_value_in) := ⟨rfl, rfl, rfl, by decide +kernel, rfl, by decide +kernel, by decide +kernel⟩
abbrev s_value_of : Stmt := topS 30
abbrev N_value_of : List Str := ["text", "is_there", "found"] -- 0:text 1:is_there 2:found
theorem sc_value_of : FnScope N_value_of ["text"] (defScope s_value_of) := ⟨rfl, rfl, rfl, by decide +kernel, rfl, by decide +kernel, by decide +kernel⟩
abbrev s_are_key_words : Stmt := topS 49
abbrev N_are_key_words : List Str := ["value", "word"] -- 0:value 1:word
theorem sc_are_key_words : FnScope N_are_key_words ["value"] (defScope s_are_key_words) := ⟨rfl, rfl, rfl, by decide +kernel, rfl, by decide +kernel, by decide +kernel⟩
abbrev s_is_joint : Stmt := topS 50
abbrev N_is_joint : List Str := ["value", "size", "entry"] -- 0:value 1:size 2:entry
theorem sc_is_joint : FnScope N_is_joint ["value", "size"] (defScope s_is_joint) := ⟨rfl, rfl, rfl, by decide +kernel, rfl, by decide +kernel, by decide +kernel⟩
abbrev s_are_joints : Stmt := topS 51
abbrev N_are_joints : List Str := ["value", "joint"] -- 0:value 1:joint cells value
theorem sc_are_joints : FnScope N_are_joints ["value"] (defScope s_are_joints) := ⟨rfl, rfl, rfl, by decide +kernel, rfl, by decide +kernel, by decide +kernel⟩
abbrev s_is_piece : Stmt := topS 52
abbrev N_is_piece : List Str := ["value"] -- 0:value
theorem sc_is_piece : FnScope N_is_piece ["value"] (defScope s_is_piece) := ⟨rfl, rfl, rfl, by decide +kernel, rfl, by decide +kernel, by decide +kernel⟩
abbrev s_is_right_keys : Stmt := topS 53
abbrev N_is_right_keys : List Str := ["letter"] -- 0:letter
theorem sc_is_right_keys : FnScope N_is_right_keys ["letter"] (defScope s_is_right_keys) := ⟨rfl, rfl, rfl, by decide +kernel, rfl, by decide +kernel, by decide +kernel⟩
abbrev s_is_right_piece : Stmt := topS 54
abbrev N_is_right_piece : List Str := ["letter"] -- 0:letter
theorem sc_is_right_piece : FnScope N_is_right_piece ["letter"] (defScope s_is_right_piece) := ⟨rfl, rfl, rfl, by decide +kernel, rfl, by decide +kernel, by decide +kernel⟩
abbrev s_are_right_parts : Stmt := topS 55
abbrev N_are_right_parts : List Str := ["letter"] -- 0:letter
theorem sc_are_right_parts : FnScope N_are_right_parts ["letter"] (defScope s_are_right_parts) := ⟨rfl, rfl, rfl, by decide +kernel, rfl, by decide +kernel, by decide +kernel⟩
abbrev s_is_letter_in : Stmt := topS 56
abbrev N_is_letter_in : List Str := ["value"] -- 0:value
theorem sc_is_letter_in : FnScope N_is_letter_in ["value"] (defScope s_is_letter_in) := ⟨rfl, rfl, rfl, by decide +kernel, rfl, by decide +kernel, by decide +kernel⟩
abbrev s_read_in : Stmt := topS 58
abbrev N_read_in : List Str := ["text", "found"] -- 0:text 1:found
theorem sc_read_in : FnScope N_read_in ["text"] (defScope s_read_in) := ⟨rfl, rfl, rfl, by decide +kernel, rfl, by decide +kernel, by decide +kernel⟩
abbrev s_require_letter : Stmt := topS 59
abbrev N_require_letter : List Str := ["value"] -- 0:value
theorem sc_require_letter : FnScope N_require_letter ["value"] (defScope s_require_letter) := ⟨rfl, rfl, rfl, by decide +kernel, rfl, by decide +kernel, by decide +kernel⟩
abbrev s_is_letter : Stmt := topS 60
abbrev N_is_letter : List Str := ["value"] -- 0:value
theorem sc_is_letter : FnScope N_is_letter ["value"] (defScope s_is_letter) := ⟨rfl, rfl, rfl, by decide +kernel, rfl, by decide +kernel, by decide +kernel⟩
abbrev s_goal : Stmt := topS 61
abbrev N_goal : List Str := ["letter"] -- 0:letter
theorem sc_goal : FnScope N_goal ["letter"] (defScope s_goal) := ⟨rfl, rfl, rfl, by decide +kernel, rfl, by decide +kernel, by decide +kernel⟩
abbrev s_letter_text : Stmt := topS 62
abbrev N_letter_text : List Str := ["letter"] -- 0:letter
theorem sc_letter_text : FnScope N_letter_text ["letter"] (defScope s_letter_text) := ⟨rfl, rfl, rfl, by decide +kernel, rfl, by decide +kernel, by decide +kernel⟩
abbrev s_read_letter : Stmt := topS 63
abbrev N_read_letter : List Str := ["text", "found"] -- 0:text 1:found
theorem sc_read_letter : FnScope N_read_letter ["text"] (defScope s_read_letter) := ⟨rfl, rfl, rfl, by decide +kernel, rfl, by decide +kernel, by decide +kernel⟩
abbrev s_require_letters : Stmt := topS 65
abbrev N_require_letters : List Str := ["value", "letter"] -- 0:value 1:letter
theorem sc_require_letters : FnScope N_require_letters ["value"] (defScope s_require_letters) := ⟨rfl, rfl, rfl, by decide +kernel, rfl, by decide +kernel, by decide +kernel⟩
abbrev s_Known_init : Stmt := inClass (topS 66) 1
abbrev N_Known_init : List Str := ["self", "letters"] -- 0:self 1:letters
theorem sc_Known_init : FnScope N_Known_init ["self", "letters"] (defScope s_Known_init) := ⟨rfl, rfl, rfl, by decide +kernel, rfl, by decide +kernel, by decide +kernel⟩
abbrev s_Bag_init : Stmt := inClass (topS 67) 1
abbrev N_Bag_init : List Str := ["self", "letters"] -- 0:self 1:letters
theorem sc_Bag_init : FnScope N_Bag_init ["self", "letters"] (defScope s_Bag_init) := ⟨rfl, rfl, rfl, by decide +kernel, rfl, by decide +kernel, by decide +kernel⟩
abbrev s_Bag_letters : Stmt := inClass (topS 67) 2
abbrev N_Bag_letters : List Str := ["self"] -- 0:self
theorem sc_Bag_letters : FnScope N_Bag_letters ["self"] (defScope s_Bag_letters) := ⟨rfl, rfl, rfl, by decide +kernel, rfl, by decide +kernel, by decide +kernel⟩
abbrev s_Bag_sent : Stmt := inClass (topS 67) 3
abbrev N_Bag_sent : List Str := ["self", "letter"] -- 0:self 1:letter
theorem sc_Bag_sent : FnScope N_Bag_sent ["self", "letter"] (defScope s_Bag_sent) := ⟨rfl, rfl, rfl, by decide +kernel, rfl, by decide +kernel, by decide +kernel⟩
abbrev s_Bag_sent_all : Stmt := inClass (topS 67) 4
abbrev N_Bag_sent_all : List Str := ["self", "letters"] -- 0:self 1:letters
theorem sc_Bag_sent_all : FnScope N_Bag_sent_all ["self", "letters"] (defScope s_Bag_sent_all) := ⟨rfl, rfl, rfl, by decide +kernel, rfl, by decide +kernel, by decide +kernel⟩
abbrev s_Bag_letter : Stmt := inClass (topS 67) 5
abbrev N_Bag_letter : List Str := ["self", "number"] -- 0:self 1:number
theorem sc_Bag_letter : FnScope N_Bag_letter ["self", "number"] (defScope s_Bag_letter) := ⟨rfl, rfl, rfl, by decide +kernel, rfl, by decide +kernel, by decide +kernel⟩
abbrev s_Bag_to : Stmt := inClass (topS 67) 6
abbrev N_Bag_to : List Str := ["self", "goal", "number", "letter"] -- 0:self 1:goal 2:number 3:letter cells goal
theorem sc_Bag_to : FnScope N_Bag_to ["self", "goal"] (defScope s_Bag_to) := ⟨rfl, rfl, rfl, by decide +kernel, rfl, by decide +kernel, by decide +kernel⟩
abbrev s_Bag_len : Stmt := inClass (topS 67) 7
abbrev N_Bag_len : List Str := ["self"] -- 0:self
theorem sc_Bag_len : FnScope N_Bag_len ["self"] (defScope s_Bag_len) := ⟨rfl, rfl, rfl, by decide +kernel, rfl, by decide +kernel, by decide +kernel⟩
abbrev s_Bag_eq : Stmt := inClass (topS 67) 8
abbrev N_Bag_eq : List Str := ["self", "other"] -- 0:self 1:other
theorem sc_Bag_eq : FnScope N_Bag_eq ["self", "other"] (defScope s_Bag_eq) := ⟨rfl, rfl, rfl, by decide +kernel, rfl, by decide +kernel, by decide +kernel⟩
abbrev s_Bag_str : Stmt := inClass (topS 67) 9
abbrev N_Bag_str : List Str := ["self"] -- 0:self
theorem sc_Bag_str : FnScope N_Bag_str ["self"] (defScope s_Bag_str) := ⟨rfl, rfl, rfl, by decide +kernel, rfl, by decide +kernel, by decide +kernel⟩
abbrev s_judged_handing : Stmt := topS 70
abbrev N_judged_handing : List Str := ["bag", "handing", "many", "lost", "doubled", "number"] -- 0:bag 1:handing 2:many 3:lost 4:doubled 5:number cells handing many
theorem sc_judged_handing : FnScope N_judged_handing ["bag", "handing"] (defScope s_judged_handing) := ⟨rfl, rfl, rfl, by decide +kernel, rfl, by decide +kernel, by decide +kernel⟩
abbrev s_l_dice : Stmt := topS 72
abbrev N_l_dice : List Str := ["_law_script", "_law_spot", "_law_cell", "_law_left"] -- 0:_law_script 1:_law_spot 2:_law_cell 3:_law_left
theorem sc_l_dice : FnScope N_l_dice ["_law_script", "_law_spot"] (defScope s_l_dice) := ⟨rfl, rfl, rfl, by decide +kernel, rfl, by decide +kernel, by decide +kernel⟩
abbrev s_l_roll : Stmt := topS 73
abbrev N_l_roll : List Str := ["_law_dice_here", "_law_total", "_law_one", "_law_two", "_law_found"] -- 0:_law_dice_here 1:_law_total 2:_law_one 3:_law_two 4:_law_found
theorem sc_l_roll : FnScope N_l_roll ["_law_dice_here", "_law_total"] (defScope s_l_roll) := ⟨rfl, rfl, rfl, by decide +kernel, rfl, by decide +kernel, by decide +kernel⟩
abbrev s_l_pick : Stmt := topS 74
abbrev N_l_pick : List Str := ["_law_dice_here", "_law_items"] -- 0:_law_dice_here 1:_law_items
theorem sc_l_pick : FnScope N_l_pick ["_law_dice_here", "_law_items"] (defScope s_l_pick) := ⟨rfl, rfl, rfl, by decide +kernel, rfl, by decide +kernel, by decide +kernel⟩
abbrev s_l_met : Stmt := topS 75
abbrev N_l_met : List Str := ["_law_call", "error"] -- 0:_law_call 1:error
theorem sc_l_met : FnScope N_l_met ["_law_call"] (defScope s_l_met) := ⟨rfl, rfl, rfl, by decide +kernel, rfl, by decide +kernel, by decide +kernel⟩
abbrev s_l_odd_letters : Stmt := topS 76
abbrev N_l_odd_letters : List Str := ["_law_found"] -- 0:_law_found
theorem sc_l_odd_letters : FnScope N_l_odd_letters [] (defScope s_l_odd_letters) := ⟨rfl, rfl, rfl, by decide +kernel, rfl, by decide +kernel, by decide +kernel⟩
abbrev s_l_right : Stmt := topS 77
abbrev N_l_right : List Str := ["_law_dice_here", "_law_odd", "_law_right_here", "_law_bag", "_law_number", "_law_place", "_law_text", "_law_none", "_law_handing", "_law_told", "_law_due"] -- 0:_law_dice_here 1:_law_odd 2:_law_right_here 3:_law_bag 4:_law_number 5:_law_place 6:_law_text 7:_law_none 8:_law_handing 9:_law_told 10:_law_due cells _law_bag _law_handing _law_none _law_number _law_odd _law_place _law_right_here _law_text
theorem sc_l_right : FnScope N_l_right ["_law_dice_here"] (defScope s_l_right) := ⟨rfl, rfl, rfl, by decide +kernel, rfl, by decide +kernel, by decide +kernel⟩
abbrev s_law : Stmt := topS 78
abbrev N_law : List Str := ["_law_script", "_law_spot", "_law_told", "_law_text"] -- 0:_law_script 1:_law_spot 2:_law_told 3:_law_text cells _law_text
theorem sc_law : FnScope N_law ["_law_script"] (defScope s_law) := ⟨rfl, rfl, rfl, by decide +kernel, rfl, by decide +kernel, by decide +kernel⟩
structure Tp (P : Program) (w : World) (K : PySem.W.Frag) (mg : Str → Option Value) where
  C_Known : Addr
  C_Bag : Addr
  g_Known : mg "Known" = some (.ref C_Known)
  cl_Known : SlX.SCls K C_Known
  is_Known : SlX.SIsi K C_Known
  ty_Known : PySem.W.typeIn K (.ref C_Known) = some (.type "type")
  q_Known_own_found : Addr
  t_Known_own_found : SlX.Slot1 K C_Known "own_found" q_Known_own_found 0
  k_Known_NoneType : PySem.W.subIn K (.type "NoneType") (.ref C_Known) = some false
  k_Known_bool : PySem.W.subIn K (.type "bool") (.ref C_Known) = some false
  k_Known_int : PySem.W.subIn K (.type "int") (.ref C_Known) = some false
  k_Known_str : PySem.W.subIn K (.type "str") (.ref C_Known) = some false
  k_Known_tuple : PySem.W.subIn K (.type "tuple") (.ref C_Known) = some false
  k_Known_list : PySem.W.subIn K (.type "list") (.ref C_Known) = some false
  k_Known_dict : PySem.W.subIn K (.type "dict") (.ref C_Known) = some false
  k_Known_Bag : PySem.W.subIn K (.ref C_Bag) (.ref C_Known) = some false
  kt_NoneType_Known : PySem.W.subIn K (.ref C_Known) (.type "NoneType") = some false
  kt_bool_Known : PySem.W.subIn K (.ref C_Known) (.type "bool") = some false
  kt_int_Known : PySem.W.subIn K (.ref C_Known) (.type "int") = some false
  kt_str_Known : PySem.W.subIn K (.ref C_Known) (.type "str") = some false
  kt_tuple_Known : PySem.W.subIn K (.ref C_Known) (.type "tuple") = some false
  kt_list_Known : PySem.W.subIn K (.ref C_Known) (.type "list") = some false
  kt_dict_Known : PySem.W.subIn K (.ref C_Known) (.type "dict") = some false
  kn_Bag_Known : ((Value.ref C_Bag) == Value.ref C_Known) = false
  g_Bag : mg "Bag" = some (.ref C_Bag)
  cl_Bag : SlX.SCls K C_Bag
  is_Bag : SlX.SIsi K C_Bag
  ty_Bag : PySem.W.typeIn K (.ref C_Bag) = some (.type "type")
  q_Bag_own_letters : Addr
  t_Bag_own_letters : SlX.Slot1 K C_Bag "own_letters" q_Bag_own_letters 0
  k_Bag_NoneType : PySem.W.subIn K (.type "NoneType") (.ref C_Bag) = some false
  k_Bag_bool : PySem.W.subIn K (.type "bool") (.ref C_Bag) = some false
  k_Bag_int : PySem.W.subIn K (.type "int") (.ref C_Bag) = some false
  k_Bag_str : PySem.W.subIn K (.type "str") (.ref C_Bag) = some false
  k_Bag_tuple : PySem.W.subIn K (.type "tuple") (.ref C_Bag) = some false
  k_Bag_list : PySem.W.subIn K (.type "list") (.ref C_Bag) = some false
  k_Bag_dict : PySem.W.subIn K (.type "dict") (.ref C_Bag) = some false
  k_Bag_Known : PySem.W.subIn K (.ref C_Known) (.ref C_Bag) = some false
  kt_NoneType_Bag : PySem.W.subIn K (.ref C_Bag) (.type "NoneType") = some false
  kt_bool_Bag : PySem.W.subIn K (.ref C_Bag) (.type "bool") = some false
  kt_int_Bag : PySem.W.subIn K (.ref C_Bag) (.type "int") = some false
  kt_str_Bag : PySem.W.subIn K (.ref C_Bag) (.type "str") = some false
  kt_tuple_Bag : PySem.W.subIn K (.ref C_Bag) (.type "tuple") = some false
  kt_list_Bag : PySem.W.subIn K (.ref C_Bag) (.type "list") = some false
  kt_dict_Bag : PySem.W.subIn K (.ref C_Bag) (.type "dict") = some false
  kn_Known_Bag : ((Value.ref C_Known) == Value.ref C_Bag) = false
  nf_NoneType_Bag : PySem.W.notFirst K C_Bag (.type "NoneType") = true
  nf_bool_Bag : PySem.W.notFirst K C_Bag (.type "bool") = true
  nf_int_Bag : PySem.W.notFirst K C_Bag (.type "int") = true
  nf_str_Bag : PySem.W.notFirst K C_Bag (.type "str") = true
  nf_tuple_Bag : PySem.W.notFirst K C_Bag (.type "tuple") = true
  nf_list_Bag : PySem.W.notFirst K C_Bag (.type "list") = true
  nf_dict_Bag : PySem.W.notFirst K C_Bag (.type "dict") = true
  nf_Known_Bag : PySem.W.notFirst K C_Bag (.ref C_Known) = true
  nf_Bag_Bag : PySem.W.notFirst K C_Bag (.ref C_Bag) = true
  ne_Bag : PySem.W.findIn K (.ref C_Bag) "__ne__" = some (some (.builtin "object.__ne__"))
  x_PlayError : Addr
  gx_PlayError : mg "PlayError" = some (.ref x_PlayError)
  kx_PlayError : PySem.W.keepIn K (.ref x_PlayError) = true
  bx_PlayError : PySem.W.subIn K (.ref x_PlayError) (.type "BaseException") = some true
  tx_PlayError : PySem.W.typeIn K (.ref x_PlayError) = some (.type "type")
  xc_PlayError : PySem.W.excIn K x_PlayError [.type "ValueError", .type "Exception", .type "BaseException", .type "object"] "ValueError.__new__" = true
  x_InvalidText : Addr
  gx_InvalidText : mg "InvalidText" = some (.ref x_InvalidText)
  kx_InvalidText : PySem.W.keepIn K (.ref x_InvalidText) = true
  bx_InvalidText : PySem.W.subIn K (.ref x_InvalidText) (.type "BaseException") = some true
  tx_InvalidText : PySem.W.typeIn K (.ref x_InvalidText) = some (.type "type")
  xc_InvalidText : PySem.W.excIn K x_InvalidText [.type "ValueError", .type "Exception", .type "BaseException", .type "object"] "ValueError.__new__" = true
  x_InvalidLetter : Addr
  gx_InvalidLetter : mg "InvalidLetter" = some (.ref x_InvalidLetter)
  kx_InvalidLetter : PySem.W.keepIn K (.ref x_InvalidLetter) = true
  bx_InvalidLetter : PySem.W.subIn K (.ref x_InvalidLetter) (.type "BaseException") = some true
  tx_InvalidLetter : PySem.W.typeIn K (.ref x_InvalidLetter) = some (.type "type")
  xc_InvalidLetter : PySem.W.excIn K x_InvalidLetter [.type "ValueError", .type "Exception", .type "BaseException", .type "object"] "ValueError.__new__" = true
  x_InvalidOperation : Addr
  gx_InvalidOperation : mg "InvalidOperation" = some (.ref x_InvalidOperation)
  kx_InvalidOperation : PySem.W.keepIn K (.ref x_InvalidOperation) = true
  bx_InvalidOperation : PySem.W.subIn K (.ref x_InvalidOperation) (.type "BaseException") = some true
  tx_InvalidOperation : PySem.W.typeIn K (.ref x_InvalidOperation) = some (.type "type")
  xc_InvalidOperation : PySem.W.excIn K x_InvalidOperation [.type "ValueError", .type "Exception", .type "BaseException", .type "object"] "ValueError.__new__" = true
  x_ParseError : Addr
  gx_ParseError : mg "ParseError" = some (.ref x_ParseError)
  kx_ParseError : PySem.W.keepIn K (.ref x_ParseError) = true
  bx_ParseError : PySem.W.subIn K (.ref x_ParseError) (.type "BaseException") = some true
  tx_ParseError : PySem.W.typeIn K (.ref x_ParseError) = some (.type "type")
  i_ParseError : Addr
  es_ParseError : VX.ExS P K mg "ValueError" "ValueError.__new__" "ValueError.__init__" [.type "ValueError", .type "Exception", .type "BaseException", .type "object"] x_ParseError i_ParseError "spot"
  xf_ParseError : XfC K x_ParseError
  nf_ParseError : PySem.W.findIn K (.ref x_ParseError) "spot" = some none
  x_InvalidNumber : Addr
  gx_InvalidNumber : mg "InvalidNumber" = some (.ref x_InvalidNumber)
  kx_InvalidNumber : PySem.W.keepIn K (.ref x_InvalidNumber) = true
  bx_InvalidNumber : PySem.W.subIn K (.ref x_InvalidNumber) (.type "BaseException") = some true
  tx_InvalidNumber : PySem.W.typeIn K (.ref x_InvalidNumber) = some (.type "type")
  i_InvalidNumber : Addr
  es_InvalidNumber : VX.ExS P K mg "IndexError" "IndexError.__new__" "IndexError.__init__" [.type "IndexError", .type "LookupError", .type "Exception", .type "BaseException", .type "object"] x_InvalidNumber i_InvalidNumber "given"
  xf_InvalidNumber : XfC K x_InvalidNumber
  nf_InvalidNumber : PySem.W.findIn K (.ref x_InvalidNumber) "given" = some none
  ex_PlayError_PlayError : PySem.W.exmOne K (.ref x_PlayError) (.ref x_PlayError) = some true
  ex_PlayError_InvalidText : PySem.W.exmOne K (.ref x_PlayError) (.ref x_InvalidText) = some false
  ex_PlayError_InvalidLetter : PySem.W.exmOne K (.ref x_PlayError) (.ref x_InvalidLetter) = some false
  ex_PlayError_InvalidOperation : PySem.W.exmOne K (.ref x_PlayError) (.ref x_InvalidOperation) = some false
  ex_PlayError_ParseError : PySem.W.exmOne K (.ref x_PlayError) (.ref x_ParseError) = some false
  ex_PlayError_InvalidNumber : PySem.W.exmOne K (.ref x_PlayError) (.ref x_InvalidNumber) = some false
  ex_InvalidText_PlayError : PySem.W.exmOne K (.ref x_InvalidText) (.ref x_PlayError) = some true
  ex_InvalidText_InvalidText : PySem.W.exmOne K (.ref x_InvalidText) (.ref x_InvalidText) = some true
  ex_InvalidText_InvalidLetter : PySem.W.exmOne K (.ref x_InvalidText) (.ref x_InvalidLetter) = some false
  ex_InvalidText_InvalidOperation : PySem.W.exmOne K (.ref x_InvalidText) (.ref x_InvalidOperation) = some false
  ex_InvalidText_ParseError : PySem.W.exmOne K (.ref x_InvalidText) (.ref x_ParseError) = some false
  ex_InvalidText_InvalidNumber : PySem.W.exmOne K (.ref x_InvalidText) (.ref x_InvalidNumber) = some false
  ex_InvalidLetter_PlayError : PySem.W.exmOne K (.ref x_InvalidLetter) (.ref x_PlayError) = some true
  ex_InvalidLetter_InvalidText : PySem.W.exmOne K (.ref x_InvalidLetter) (.ref x_InvalidText) = some false
  ex_InvalidLetter_InvalidLetter : PySem.W.exmOne K (.ref x_InvalidLetter) (.ref x_InvalidLetter) = some true
  ex_InvalidLetter_InvalidOperation : PySem.W.exmOne K (.ref x_InvalidLetter) (.ref x_InvalidOperation) = some false
  ex_InvalidLetter_ParseError : PySem.W.exmOne K (.ref x_InvalidLetter) (.ref x_ParseError) = some false
  ex_InvalidLetter_InvalidNumber : PySem.W.exmOne K (.ref x_InvalidLetter) (.ref x_InvalidNumber) = some false
  ex_InvalidOperation_PlayError : PySem.W.exmOne K (.ref x_InvalidOperation) (.ref x_PlayError) = some true
  ex_InvalidOperation_InvalidText : PySem.W.exmOne K (.ref x_InvalidOperation) (.ref x_InvalidText) = some false
  ex_InvalidOperation_InvalidLetter : PySem.W.exmOne K (.ref x_InvalidOperation) (.ref x_InvalidLetter) = some false
  ex_InvalidOperation_InvalidOperation : PySem.W.exmOne K (.ref x_InvalidOperation) (.ref x_InvalidOperation) = some true
  ex_InvalidOperation_ParseError : PySem.W.exmOne K (.ref x_InvalidOperation) (.ref x_ParseError) = some false
  ex_InvalidOperation_InvalidNumber : PySem.W.exmOne K (.ref x_InvalidOperation) (.ref x_InvalidNumber) = some false
  ex_ParseError_PlayError : PySem.W.exmOne K (.ref x_ParseError) (.ref x_PlayError) = some true
  ex_ParseError_InvalidText : PySem.W.exmOne K (.ref x_ParseError) (.ref x_InvalidText) = some false
  ex_ParseError_InvalidLetter : PySem.W.exmOne K (.ref x_ParseError) (.ref x_InvalidLetter) = some false
  ex_ParseError_InvalidOperation : PySem.W.exmOne K (.ref x_ParseError) (.ref x_InvalidOperation) = some false
  ex_ParseError_ParseError : PySem.W.exmOne K (.ref x_ParseError) (.ref x_ParseError) = some true
  ex_ParseError_InvalidNumber : PySem.W.exmOne K (.ref x_ParseError) (.ref x_InvalidNumber) = some false
  ex_InvalidNumber_PlayError : PySem.W.exmOne K (.ref x_InvalidNumber) (.ref x_PlayError) = some false
  ex_InvalidNumber_InvalidText : PySem.W.exmOne K (.ref x_InvalidNumber) (.ref x_InvalidText) = some false
  ex_InvalidNumber_InvalidLetter : PySem.W.exmOne K (.ref x_InvalidNumber) (.ref x_InvalidLetter) = some false
  ex_InvalidNumber_InvalidOperation : PySem.W.exmOne K (.ref x_InvalidNumber) (.ref x_InvalidOperation) = some false
  ex_InvalidNumber_ParseError : PySem.W.exmOne K (.ref x_InvalidNumber) (.ref x_ParseError) = some false
  ex_InvalidNumber_InvalidNumber : PySem.W.exmOne K (.ref x_InvalidNumber) (.ref x_InvalidNumber) = some true
  p_SIZES : Addr
  c_SIZES : mg "SIZES" = some (.ref p_SIZES)
  kd_SIZES : KTab K w p_SIZES [("keys", 5), ("rows", 4), ("piece", 6), ("word", 3)]
  q_l_right : Addr
  P_l_right : Addr
  q_law : Addr
  P_law : Addr
  uT : ∀ p ∈ ([(P_l_right, (("_law_right" : Str) ++ ".<locals>.") ++ "<lambda>"), (P_law, (("law" : Str) ++ ".<locals>.") ++ "<lambda>")] : List (Addr × Str)), ∀ p2 ∈ ([(P_l_right, (("_law_right" : Str) ++ ".<locals>.") ++ "<lambda>"), (P_law, (("law" : Str) ++ ".<locals>.") ++ "<lambda>")] : List (Addr × Str)), p.1 = p2.1 → p.2 = p2.2
  a_is_whole : Addr
  d_is_whole : FuncData
  F_is_whole : Fun K "is_whole" "is_whole" s_is_whole a_is_whole d_is_whole
  g_is_whole : mg "is_whole" = some (.ref a_is_whole)
  b_is_whole : Binds K d_is_whole ["value"] []
  a_is_short : Addr
  d_is_short : FuncData
  F_is_short : Fun K "is_short" "is_short" s_is_short a_is_short d_is_short
  g_is_short : mg "is_short" = some (.ref a_is_short)
  b_is_short : Binds K d_is_short ["value"] []
  a_is_from : Addr
  d_is_from : FuncData
  F_is_from : Fun K "is_from" "is_from" s_is_from a_is_from d_is_from
  g_is_from : mg "is_from" = some (.ref a_is_from)
  b_is_from : Binds K d_is_from ["value", "least", "most"] []
  a_is_tick : Addr
  d_is_tick : FuncData
  F_is_tick : Fun K "is_tick" "is_tick" s_is_tick a_is_tick d_is_tick
  g_is_tick : mg "is_tick" = some (.ref a_is_tick)
  b_is_tick : Binds K d_is_tick ["value"] []
  a_require_from : Addr
  d_require_from : FuncData
  F_require_from : Fun K "require_from" "require_from" s_require_from a_require_from d_require_from
  g_require_from : mg "require_from" = some (.ref a_require_from)
  b_require_from : Binds K d_require_from ["value", "least", "most"] []
  a_is_text : Addr
  d_is_text : FuncData
  F_is_text : Fun K "is_text" "is_text" s_is_text a_is_text d_is_text
  g_is_text : mg "is_text" = some (.ref a_is_text)
  b_is_text : Binds K d_is_text ["value", "most"] []
  a_require_text : Addr
  d_require_text : FuncData
  F_require_text : Fun K "require_text" "require_text" s_require_text a_require_text d_require_text
  g_require_text : mg "require_text" = some (.ref a_require_text)
  b_require_text : Binds K d_require_text ["value"] []
  a_length_at : Addr
  d_length_at : FuncData
  F_length_at : Fun K "length_at" "length_at" s_length_at a_length_at d_length_at
  g_length_at : mg "length_at" = some (.ref a_length_at)
  b_length_at : Binds K d_length_at ["text", "at", "most"] []
  a_integer_at : Addr
  d_integer_at : FuncData
  F_integer_at : Fun K "integer_at" "integer_at" s_integer_at a_integer_at d_integer_at
  g_integer_at : mg "integer_at" = some (.ref a_integer_at)
  b_integer_at : Binds K d_integer_at ["text", "at"] []
  a_string_at : Addr
  d_string_at : FuncData
  F_string_at : Fun K "string_at" "string_at" s_string_at a_string_at d_string_at
  g_string_at : mg "string_at" = some (.ref a_string_at)
  b_string_at : Binds K d_string_at ["text", "at"] []
  a_leaf_at : Addr
  d_leaf_at : FuncData
  F_leaf_at : Fun K "leaf_at" "leaf_at" s_leaf_at a_leaf_at d_leaf_at
  g_leaf_at : mg "leaf_at" = some (.ref a_leaf_at)
  b_leaf_at : Binds K d_leaf_at ["text", "at"] []
  a_value_in : Addr
  d_value_in : FuncData
  F_value_in : Fun K "value_in" "value_in" s_value_in a_value_in d_value_in
  g_value_in : mg "value_in" = some (.ref a_value_in)
  b_value_in : Binds K d_value_in ["text"] []
  a_value_of : Addr
  d_value_of : FuncData
  F_value_of : Fun K "value_of" "value_of" s_value_of a_value_of d_value_of
  g_value_of : mg "value_of" = some (.ref a_value_of)
  b_value_of : Binds K d_value_of ["text"] []
  a_are_key_words : Addr
  d_are_key_words : FuncData
  F_are_key_words : Fun K "are_key_words" "are_key_words" s_are_key_words a_are_key_words d_are_key_words
  g_are_key_words : mg "are_key_words" = some (.ref a_are_key_words)
  b_are_key_words : Binds K d_are_key_words ["value"] []
  a_is_joint : Addr
  d_is_joint : FuncData
  F_is_joint : Fun K "is_joint" "is_joint" s_is_joint a_is_joint d_is_joint
  g_is_joint : mg "is_joint" = some (.ref a_is_joint)
  b_is_joint : Binds K d_is_joint ["value", "size"] []
  a_are_joints : Addr
  d_are_joints : FuncData
  F_are_joints : Fun K "are_joints" "are_joints" s_are_joints a_are_joints d_are_joints
  g_are_joints : mg "are_joints" = some (.ref a_are_joints)
  b_are_joints : Binds K d_are_joints ["value"] []
  a_is_piece : Addr
  d_is_piece : FuncData
  F_is_piece : Fun K "is_piece" "is_piece" s_is_piece a_is_piece d_is_piece
  g_is_piece : mg "is_piece" = some (.ref a_is_piece)
  b_is_piece : Binds K d_is_piece ["value"] []
  a_is_right_keys : Addr
  d_is_right_keys : FuncData
  F_is_right_keys : Fun K "is_right_keys" "is_right_keys" s_is_right_keys a_is_right_keys d_is_right_keys
  g_is_right_keys : mg "is_right_keys" = some (.ref a_is_right_keys)
  b_is_right_keys : Binds K d_is_right_keys ["letter"] []
  a_is_right_piece : Addr
  d_is_right_piece : FuncData
  F_is_right_piece : Fun K "is_right_piece" "is_right_piece" s_is_right_piece a_is_right_piece d_is_right_piece
  g_is_right_piece : mg "is_right_piece" = some (.ref a_is_right_piece)
  b_is_right_piece : Binds K d_is_right_piece ["letter"] []
  a_are_right_parts : Addr
  d_are_right_parts : FuncData
  F_are_right_parts : Fun K "are_right_parts" "are_right_parts" s_are_right_parts a_are_right_parts d_are_right_parts
  g_are_right_parts : mg "are_right_parts" = some (.ref a_are_right_parts)
  b_are_right_parts : Binds K d_are_right_parts ["letter"] []
  a_is_letter_in : Addr
  d_is_letter_in : FuncData
  F_is_letter_in : Fun K "is_letter_in" "is_letter_in" s_is_letter_in a_is_letter_in d_is_letter_in
  g_is_letter_in : mg "is_letter_in" = some (.ref a_is_letter_in)
  b_is_letter_in : Binds K d_is_letter_in ["value"] []
  a_read_in : Addr
  d_read_in : FuncData
  F_read_in : Fun K "read_in" "read_in" s_read_in a_read_in d_read_in
  g_read_in : mg "read_in" = some (.ref a_read_in)
  b_read_in : Binds K d_read_in ["text"] []
  a_require_letter : Addr
  d_require_letter : FuncData
  F_require_letter : Fun K "require_letter" "require_letter" s_require_letter a_require_letter d_require_letter
  g_require_letter : mg "require_letter" = some (.ref a_require_letter)
  b_require_letter : Binds K d_require_letter ["value"] []
  a_is_letter : Addr
  d_is_letter : FuncData
  F_is_letter : Fun K "is_letter" "is_letter" s_is_letter a_is_letter d_is_letter
  g_is_letter : mg "is_letter" = some (.ref a_is_letter)
  b_is_letter : Binds K d_is_letter ["value"] []
  a_goal : Addr
  d_goal : FuncData
  F_goal : Fun K "goal" "goal" s_goal a_goal d_goal
  g_goal : mg "goal" = some (.ref a_goal)
  b_goal : Binds K d_goal ["letter"] []
  a_letter_text : Addr
  d_letter_text : FuncData
  F_letter_text : Fun K "letter_text" "letter_text" s_letter_text a_letter_text d_letter_text
  g_letter_text : mg "letter_text" = some (.ref a_letter_text)
  b_letter_text : Binds K d_letter_text ["letter"] []
  a_read_letter : Addr
  d_read_letter : FuncData
  F_read_letter : Fun K "read_letter" "read_letter" s_read_letter a_read_letter d_read_letter
  g_read_letter : mg "read_letter" = some (.ref a_read_letter)
  b_read_letter : Binds K d_read_letter ["text"] []
  a_require_letters : Addr
  d_require_letters : FuncData
  F_require_letters : Fun K "require_letters" "require_letters" s_require_letters a_require_letters d_require_letters
  g_require_letters : mg "require_letters" = some (.ref a_require_letters)
  b_require_letters : Binds K d_require_letters ["value"] []
  a_Known_init : Addr
  d_Known_init : FuncData
  F_Known_init : Fun K "__init__" "Known.__init__" s_Known_init a_Known_init d_Known_init
  m_Known_init : Meth K C_Known "__init__" a_Known_init
  b_Known_init : Binds K d_Known_init ["self", "letters"] []
  a_Bag_init : Addr
  d_Bag_init : FuncData
  e0_Bag_init : Addr
  se0_Bag_init : ∀ H, SqT K H e0_Bag_init []
  F_Bag_init : FunD K "__init__" "Bag.__init__" (defArgs s_Bag_init) (defBody s_Bag_init) (defScope s_Bag_init) [.ref e0_Bag_init] [] a_Bag_init d_Bag_init
  m_Bag_init : Meth K C_Bag "__init__" a_Bag_init
  b_Bag_init : Binds K d_Bag_init ["self", "letters"] []
  bd_Bag_init : ∃ ds, Vals [.ref e0_Bag_init] ds ∧ Binds K d_Bag_init ["self", "letters"] ds
  a_Bag_letters : Addr
  d_Bag_letters : FuncData
  F_Bag_letters : Fun K "letters" "Bag.letters" s_Bag_letters a_Bag_letters d_Bag_letters
  pa_Bag_letters : Addr
  p_Bag_letters : PropOf K C_Bag "letters" pa_Bag_letters a_Bag_letters
  b_Bag_letters : Binds K d_Bag_letters ["self"] []
  a_Bag_sent : Addr
  d_Bag_sent : FuncData
  F_Bag_sent : Fun K "sent" "Bag.sent" s_Bag_sent a_Bag_sent d_Bag_sent
  m_Bag_sent : Meth K C_Bag "sent" a_Bag_sent
  b_Bag_sent : Binds K d_Bag_sent ["self", "letter"] []
  a_Bag_sent_all : Addr
  d_Bag_sent_all : FuncData
  F_Bag_sent_all : Fun K "sent_all" "Bag.sent_all" s_Bag_sent_all a_Bag_sent_all d_Bag_sent_all
  m_Bag_sent_all : Meth K C_Bag "sent_all" a_Bag_sent_all
  b_Bag_sent_all : Binds K d_Bag_sent_all ["self", "letters"] []
  a_Bag_letter : Addr
  d_Bag_letter : FuncData
  F_Bag_letter : Fun K "letter" "Bag.letter" s_Bag_letter a_Bag_letter d_Bag_letter
  m_Bag_letter : Meth K C_Bag "letter" a_Bag_letter
  b_Bag_letter : Binds K d_Bag_letter ["self", "number"] []
  a_Bag_to : Addr
  d_Bag_to : FuncData
  F_Bag_to : Fun K "to" "Bag.to" s_Bag_to a_Bag_to d_Bag_to
  m_Bag_to : Meth K C_Bag "to" a_Bag_to
  b_Bag_to : Binds K d_Bag_to ["self", "goal"] []
  a_Bag_len : Addr
  d_Bag_len : FuncData
  F_Bag_len : Fun K "__len__" "Bag.__len__" s_Bag_len a_Bag_len d_Bag_len
  m_Bag_len : Meth K C_Bag "__len__" a_Bag_len
  b_Bag_len : Binds K d_Bag_len ["self"] []
  a_Bag_eq : Addr
  d_Bag_eq : FuncData
  F_Bag_eq : Fun K "__eq__" "Bag.__eq__" s_Bag_eq a_Bag_eq d_Bag_eq
  m_Bag_eq : Meth K C_Bag "__eq__" a_Bag_eq
  b_Bag_eq : Binds K d_Bag_eq ["self", "other"] []
  a_Bag_str : Addr
  d_Bag_str : FuncData
  F_Bag_str : Fun K "__str__" "Bag.__str__" s_Bag_str a_Bag_str d_Bag_str
  m_Bag_str : Meth K C_Bag "__str__" a_Bag_str
  b_Bag_str : Binds K d_Bag_str ["self"] []
  a_judged_handing : Addr
  d_judged_handing : FuncData
  F_judged_handing : Fun K "judged_handing" "judged_handing" s_judged_handing a_judged_handing d_judged_handing
  g_judged_handing : mg "judged_handing" = some (.ref a_judged_handing)
  b_judged_handing : Binds K d_judged_handing ["bag", "handing"] []
  a_l_dice : Addr
  d_l_dice : FuncData
  F_l_dice : Fun K "_law_dice" "_law_dice" s_l_dice a_l_dice d_l_dice
  g_l_dice : mg "_law_dice" = some (.ref a_l_dice)
  b_l_dice : Binds K d_l_dice ["_law_script", "_law_spot"] []
  a_l_roll : Addr
  d_l_roll : FuncData
  F_l_roll : Fun K "_law_roll" "_law_roll" s_l_roll a_l_roll d_l_roll
  g_l_roll : mg "_law_roll" = some (.ref a_l_roll)
  b_l_roll : Binds K d_l_roll ["_law_dice_here", "_law_total"] []
  a_l_pick : Addr
  d_l_pick : FuncData
  F_l_pick : Fun K "_law_pick" "_law_pick" s_l_pick a_l_pick d_l_pick
  g_l_pick : mg "_law_pick" = some (.ref a_l_pick)
  b_l_pick : Binds K d_l_pick ["_law_dice_here", "_law_items"] []
  a_l_met : Addr
  d_l_met : FuncData
  F_l_met : Fun K "_law_met" "_law_met" s_l_met a_l_met d_l_met
  cv_l_met : Value
  FC_l_met : FunC K "_law_met" "_law_met" s_l_met a_l_met d_l_met cv_l_met
  g_l_met : mg "_law_met" = some (.ref a_l_met)
  b_l_met : Binds K d_l_met ["_law_call"] []
  a_l_odd_letters : Addr
  d_l_odd_letters : FuncData
  F_l_odd_letters : Fun K "_law_odd_letters" "_law_odd_letters" s_l_odd_letters a_l_odd_letters d_l_odd_letters
  g_l_odd_letters : mg "_law_odd_letters" = some (.ref a_l_odd_letters)
  b_l_odd_letters : Binds K d_l_odd_letters [] []
  a_l_right : Addr
  d_l_right : FuncData
  F_l_right : Fun K "_law_right" "_law_right" s_l_right a_l_right d_l_right
  FC_l_right : FunC K "_law_right" "_law_right" s_l_right a_l_right d_l_right (.ref q_l_right)
  g_l_right : mg "_law_right" = some (.ref a_l_right)
  b_l_right : Binds K d_l_right ["_law_dice_here"] []
  a_law : Addr
  d_law : FuncData
  F_law : Fun K "law" "law" s_law a_law d_law
  FC_law : FunC K "law" "law" s_law a_law d_law (.ref q_law)
  g_law : mg "law" = some (.ref a_law)
  b_law : Binds K d_law ["_law_script"] []
  mk_Known : Mk K C_Known a_Known_init
  mk_Bag : Mk K C_Bag a_Bag_init
  m_abs : mg "abs" = none
  m_all : mg "all" = none
  m_bool : mg "bool" = none
  m_enumerate : mg "enumerate" = none
  m_int : mg "int" = none
  m_isinstance : mg "isinstance" = none
  m_len : mg "len" = none
  m_max : mg "max" = none
  m_min : mg "min" = none
  m_range : mg "range" = none
  m_repr : mg "repr" = none
  m_sorted : mg "sorted" = none
  m_str : mg "str" = none
  m_tuple : mg "tuple" = none
  t_GREATEST : Tok
  c_GREATEST : mg "GREATEST" = some (.int (10 ^ 60) t_GREATEST)
  t_MOST_TEXT : Tok
  c_MOST_TEXT : mg "MOST_TEXT" = some (.int 20000 t_MOST_TEXT)
  t_MOST_LONG : Tok
  c_MOST_LONG : mg "MOST_LONG" = some (.int 2000 t_MOST_LONG)
  t_MOST_DEEP : Tok
  c_MOST_DEEP : mg "MOST_DEEP" = some (.int 200 t_MOST_DEEP)
  t_MOST_DIGITS : Tok
  c_MOST_DIGITS : mg "MOST_DIGITS" = some (.int 60 t_MOST_DIGITS)
  t_FIRST_SIGN : Tok
  c_FIRST_SIGN : mg "FIRST_SIGN" = some (.str " " t_FIRST_SIGN)
  t_LAST_SIGN : Tok
  c_LAST_SIGN : mg "LAST_SIGN" = some (.str "~" t_LAST_SIGN)
  t_DIGITS : Tok
  c_DIGITS : mg "DIGITS" = some (.str "0123456789" t_DIGITS)
  t_HOST : Tok
  c_HOST : mg "HOST" = some (.int (-1) t_HOST)
  t_MOST_SEAT : Tok
  c_MOST_SEAT : mg "MOST_SEAT" = some (.int 5 t_MOST_SEAT)
  t_MOST_WORDS : Tok
  c_MOST_WORDS : mg "MOST_WORDS" = some (.int 20 t_MOST_WORDS)
  t_MOST_STRETCH : Tok
  c_MOST_STRETCH : mg "MOST_STRETCH" = some (.int 32 t_MOST_STRETCH)
  t_MOST_PIECES : Tok
  c_MOST_PIECES : mg "MOST_PIECES" = some (.int 100 t_MOST_PIECES)
  t_MOST_PIECE : Tok
  c_MOST_PIECE : mg "MOST_PIECE" = some (.int 200 t_MOST_PIECE)
  t_MOST_KEYS : Tok
  c_MOST_KEYS : mg "MOST_KEYS" = some (.int 63 t_MOST_KEYS)
  t_MOST_PRINT : Tok
  c_MOST_PRINT : mg "MOST_PRINT" = some (.int 999999936 t_MOST_PRINT)
  t_MOST_ENTRY : Tok
  c_MOST_ENTRY : mg "MOST_ENTRY" = some (.int 127 t_MOST_ENTRY)
  t_MOST_SEATS : Tok
  c_MOST_SEATS : mg "MOST_SEATS" = some (.int 4 t_MOST_SEATS)
  t_ABSENT : Tok
  c_ABSENT : mg "ABSENT" = some (.int (-1) t_ABSENT)
  t_KEYS : Tok
  c_KEYS : mg "KEYS" = some (.str "keys" t_KEYS)
  t_ROWS : Tok
  c_ROWS : mg "ROWS" = some (.str "rows" t_ROWS)
  t_PIECE : Tok
  c_PIECE : mg "PIECE" = some (.str "piece" t_PIECE)
  t_WORD : Tok
  c_WORD : mg "WORD" = some (.str "word" t_WORD)
  p_WORDS : Addr
  c_WORDS : mg "WORDS" = some (.ref p_WORDS)
  s_WORDS : ∀ H, SqT K H p_WORDS [.str "come", .str "go"]
namespace Tp
variable {P : Program} {w : World} {K : PySem.W.Frag} {mg : Str → Option Value} (T : Tp P w K mg)
theorem r_GREATEST : RelV (.int (10 ^ 60)) (.int (10 ^ 60) T.t_GREATEST) := ⟨_, rfl⟩
theorem r_MOST_TEXT : RelV (.int 20000) (.int 20000 T.t_MOST_TEXT) := ⟨_, rfl⟩
theorem r_MOST_LONG : RelV (.int 2000) (.int 2000 T.t_MOST_LONG) := ⟨_, rfl⟩
theorem r_MOST_DEEP : RelV (.int 200) (.int 200 T.t_MOST_DEEP) := ⟨_, rfl⟩
theorem r_MOST_DIGITS : RelV (.int 60) (.int 60 T.t_MOST_DIGITS) := ⟨_, rfl⟩
theorem r_FIRST_SIGN : RelV (.str " ") (.str " " T.t_FIRST_SIGN) := ⟨_, rfl⟩
theorem r_LAST_SIGN : RelV (.str "~") (.str "~" T.t_LAST_SIGN) := ⟨_, rfl⟩
theorem r_DIGITS : RelV (.str "0123456789") (.str "0123456789" T.t_DIGITS) := ⟨_, rfl⟩
theorem r_HOST : RelV (.int (-1)) (.int (-1) T.t_HOST) := ⟨_, rfl⟩
theorem r_MOST_SEAT : RelV (.int 5) (.int 5 T.t_MOST_SEAT) := ⟨_, rfl⟩
theorem r_MOST_WORDS : RelV (.int 20) (.int 20 T.t_MOST_WORDS) := ⟨_, rfl⟩
theorem r_MOST_STRETCH : RelV (.int 32) (.int 32 T.t_MOST_STRETCH) := ⟨_, rfl⟩
theorem r_MOST_PIECES : RelV (.int 100) (.int 100 T.t_MOST_PIECES) := ⟨_, rfl⟩
theorem r_MOST_PIECE : RelV (.int 200) (.int 200 T.t_MOST_PIECE) := ⟨_, rfl⟩
theorem r_MOST_KEYS : RelV (.int 63) (.int 63 T.t_MOST_KEYS) := ⟨_, rfl⟩
theorem r_MOST_PRINT : RelV (.int 999999936) (.int 999999936 T.t_MOST_PRINT) := ⟨_, rfl⟩
theorem r_MOST_ENTRY : RelV (.int 127) (.int 127 T.t_MOST_ENTRY) := ⟨_, rfl⟩
theorem r_MOST_SEATS : RelV (.int 4) (.int 4 T.t_MOST_SEATS) := ⟨_, rfl⟩
theorem r_ABSENT : RelV (.int (-1)) (.int (-1) T.t_ABSENT) := ⟨_, rfl⟩
theorem r_KEYS : RelV (.str "keys") (.str "keys" T.t_KEYS) := ⟨_, rfl⟩
theorem r_ROWS : RelV (.str "rows") (.str "rows" T.t_ROWS) := ⟨_, rfl⟩
theorem r_PIECE : RelV (.str "piece") (.str "piece" T.t_PIECE) := ⟨_, rfl⟩
theorem r_WORD : RelV (.str "word") (.str "word" T.t_WORD) := ⟨_, rfl⟩
theorem r_WORDS : RelV (.ref T.p_WORDS) (.ref T.p_WORDS) := rfl
end Tp
namespace Tp
variable {P : Program} {w : World} {K : PySem.W.Frag} {mg : Str → Option Value} (T : Tp P w K mg)
abbrev cn : Cn := ⟨K, fun s => if s = "Known" then T.C_Known else if s = "Bag" then T.C_Bag else if s = "PlayError" then T.x_PlayError else if s = "InvalidText" then T.x_InvalidText else if s = "InvalidLetter" then T.x_InvalidLetter else if s = "InvalidOperation" then T.x_InvalidOperation else if s = "ParseError" then T.x_ParseError else if s = "InvalidNumber" then T.x_InvalidNumber else 0, fun s => if s = "goal" then T.a_goal else 0, ([(T.P_l_right, (("_law_right" : Str) ++ ".<locals>.") ++ "<lambda>"), (T.P_law, (("law" : Str) ++ ".<locals>.") ++ "<lambda>")] : List (Addr × Str)), none⟩
end Tp
structure Tb {P : Program} {w : World} {K : PySem.W.Frag} {mg : Str → Option Value} (T : Tp P w K mg) (base : Heap) : Prop where
  b_l_right : LamX.TabB base mg T.q_l_right T.P_l_right
  b_law : LamX.TabB base mg T.q_law T.P_law
def xo_PlayError (n : String) : Option Bool := if n = "PlayError" then some true else if n = "InvalidText" then some true else if n = "InvalidLetter" then some true else if n = "InvalidOperation" then some true else if n = "ParseError" then some true else if n = "InvalidNumber" then some false else none
theorem Tp.exO_PlayError {P : Program} {w : World} {K : PySem.W.Frag} {mg : Str → Option Value} (T : Tp P w K mg) : ∀ n b, xo_PlayError n = some b → PySem.W.exmOne K (.ref (T.cn.cl n)) (.ref (T.cn.cl "PlayError")) = some b := fun n b h => by
  unfold xo_PlayError at h
  by_cases e : n = "PlayError"
  · subst e; rw [if_pos rfl] at h; cases h; exact T.ex_PlayError_PlayError
  rw [if_neg e] at h; clear e
  by_cases e : n = "InvalidText"
  · subst e; rw [if_pos rfl] at h; cases h; exact T.ex_InvalidText_PlayError
  rw [if_neg e] at h; clear e
  by_cases e : n = "InvalidLetter"
  · subst e; rw [if_pos rfl] at h; cases h; exact T.ex_InvalidLetter_PlayError
  rw [if_neg e] at h; clear e
  by_cases e : n = "InvalidOperation"
  · subst e; rw [if_pos rfl] at h; cases h; exact T.ex_InvalidOperation_PlayError
  rw [if_neg e] at h; clear e
  by_cases e : n = "ParseError"
  · subst e; rw [if_pos rfl] at h; cases h; exact T.ex_ParseError_PlayError
  rw [if_neg e] at h; clear e
  by_cases e : n = "InvalidNumber"
  · subst e; rw [if_pos rfl] at h; cases h; exact T.ex_InvalidNumber_PlayError
  rw [if_neg e] at h; clear e
  cases h
def xo_InvalidText (n : String) : Option Bool := if n = "PlayError" then some false else if n = "InvalidText" then some true else if n = "InvalidLetter" then some false else if n = "InvalidOperation" then some false else if n = "ParseError" then some false else if n = "InvalidNumber" then some false else none
theorem Tp.exO_InvalidText {P : Program} {w : World} {K : PySem.W.Frag} {mg : Str → Option Value} (T : Tp P w K mg) : ∀ n b, xo_InvalidText n = some b → PySem.W.exmOne K (.ref (T.cn.cl n)) (.ref (T.cn.cl "InvalidText")) = some b := fun n b h => by
  unfold xo_InvalidText at h
  by_cases e : n = "PlayError"
  · subst e; rw [if_pos rfl] at h; cases h; exact T.ex_PlayError_InvalidText
  rw [if_neg e] at h; clear e
  by_cases e : n = "InvalidText"
  · subst e; rw [if_pos rfl] at h; cases h; exact T.ex_InvalidText_InvalidText
  rw [if_neg e] at h; clear e
  by_cases e : n = "InvalidLetter"
  · subst e; rw [if_pos rfl] at h; cases h; exact T.ex_InvalidLetter_InvalidText
  rw [if_neg e] at h; clear e
  by_cases e : n = "InvalidOperation"
  · subst e; rw [if_pos rfl] at h; cases h; exact T.ex_InvalidOperation_InvalidText
  rw [if_neg e] at h; clear e
  by_cases e : n = "ParseError"
  · subst e; rw [if_pos rfl] at h; cases h; exact T.ex_ParseError_InvalidText
  rw [if_neg e] at h; clear e
  by_cases e : n = "InvalidNumber"
  · subst e; rw [if_pos rfl] at h; cases h; exact T.ex_InvalidNumber_InvalidText
  rw [if_neg e] at h; clear e
  cases h
def xo_InvalidLetter (n : String) : Option Bool := if n = "PlayError" then some false else if n = "InvalidText" then some false else if n = "InvalidLetter" then some true else if n = "InvalidOperation" then some false else if n = "ParseError" then some false else if n = "InvalidNumber" then some false else none
theorem Tp.exO_InvalidLetter {P : Program} {w : World} {K : PySem.W.Frag} {mg : Str → Option Value} (T : Tp P w K mg) : ∀ n b, xo_InvalidLetter n = some b → PySem.W.exmOne K (.ref (T.cn.cl n)) (.ref (T.cn.cl "InvalidLetter")) = some b := fun n b h => by
  unfold xo_InvalidLetter at h
  by_cases e : n = "PlayError"
  · subst e; rw [if_pos rfl] at h; cases h; exact T.ex_PlayError_InvalidLetter
  rw [if_neg e] at h; clear e
  by_cases e : n = "InvalidText"
  · subst e; rw [if_pos rfl] at h; cases h; exact T.ex_InvalidText_InvalidLetter
  rw [if_neg e] at h; clear e
  by_cases e : n = "InvalidLetter"
  · subst e; rw [if_pos rfl] at h; cases h; exact T.ex_InvalidLetter_InvalidLetter
  rw [if_neg e] at h; clear e
  by_cases e : n = "InvalidOperation"
  · subst e; rw [if_pos rfl] at h; cases h; exact T.ex_InvalidOperation_InvalidLetter
  rw [if_neg e] at h; clear e
  by_cases e : n = "ParseError"
  · subst e; rw [if_pos rfl] at h; cases h; exact T.ex_ParseError_InvalidLetter
  rw [if_neg e] at h; clear e
  by_cases e : n = "InvalidNumber"
  · subst e; rw [if_pos rfl] at h; cases h; exact T.ex_InvalidNumber_InvalidLetter
  rw [if_neg e] at h; clear e
  cases h
def xo_InvalidOperation (n : String) : Option Bool := if n = "PlayError" then some false else if n = "InvalidText" then some false else if n = "InvalidLetter" then some false else if n = "InvalidOperation" then some true else if n = "ParseError" then some false else if n = "InvalidNumber" then some false else none
theorem Tp.exO_InvalidOperation {P : Program} {w : World} {K : PySem.W.Frag} {mg : Str → Option Value} (T : Tp P w K mg) : ∀ n b, xo_InvalidOperation n = some b → PySem.W.exmOne K (.ref (T.cn.cl n)) (.ref (T.cn.cl "InvalidOperation")) = some b := fun n b h => by
  unfold xo_InvalidOperation at h
  by_cases e : n = "PlayError"
  · subst e; rw [if_pos rfl] at h; cases h; exact T.ex_PlayError_InvalidOperation
  rw [if_neg e] at h; clear e
  by_cases e : n = "InvalidText"
  · subst e; rw [if_pos rfl] at h; cases h; exact T.ex_InvalidText_InvalidOperation
  rw [if_neg e] at h; clear e
  by_cases e : n = "InvalidLetter"
  · subst e; rw [if_pos rfl] at h; cases h; exact T.ex_InvalidLetter_InvalidOperation
  rw [if_neg e] at h; clear e
  by_cases e : n = "InvalidOperation"
  · subst e; rw [if_pos rfl] at h; cases h; exact T.ex_InvalidOperation_InvalidOperation
  rw [if_neg e] at h; clear e
  by_cases e : n = "ParseError"
  · subst e; rw [if_pos rfl] at h; cases h; exact T.ex_ParseError_InvalidOperation
  rw [if_neg e] at h; clear e
  by_cases e : n = "InvalidNumber"
  · subst e; rw [if_pos rfl] at h; cases h; exact T.ex_InvalidNumber_InvalidOperation
  rw [if_neg e] at h; clear e
  cases h
def xo_ParseError (n : String) : Option Bool := if n = "PlayError" then some false else if n = "InvalidText" then some false else if n = "InvalidLetter" then some false else if n = "InvalidOperation" then some false else if n = "ParseError" then some true else if n = "InvalidNumber" then some false else none
theorem Tp.exO_ParseError {P : Program} {w : World} {K : PySem.W.Frag} {mg : Str → Option Value} (T : Tp P w K mg) : ∀ n b, xo_ParseError n = some b → PySem.W.exmOne K (.ref (T.cn.cl n)) (.ref (T.cn.cl "ParseError")) = some b := fun n b h => by
  unfold xo_ParseError at h
  by_cases e : n = "PlayError"
  · subst e; rw [if_pos rfl] at h; cases h; exact T.ex_PlayError_ParseError
  rw [if_neg e] at h; clear e
  by_cases e : n = "InvalidText"
  · subst e; rw [if_pos rfl] at h; cases h; exact T.ex_InvalidText_ParseError
  rw [if_neg e] at h; clear e
  by_cases e : n = "InvalidLetter"
  · subst e; rw [if_pos rfl] at h; cases h; exact T.ex_InvalidLetter_ParseError
  rw [if_neg e] at h; clear e
  by_cases e : n = "InvalidOperation"
  · subst e; rw [if_pos rfl] at h; cases h; exact T.ex_InvalidOperation_ParseError
  rw [if_neg e] at h; clear e
  by_cases e : n = "ParseError"
  · subst e; rw [if_pos rfl] at h; cases h; exact T.ex_ParseError_ParseError
  rw [if_neg e] at h; clear e
  by_cases e : n = "InvalidNumber"
  · subst e; rw [if_pos rfl] at h; cases h; exact T.ex_InvalidNumber_ParseError
  rw [if_neg e] at h; clear e
  cases h
def xo_InvalidNumber (n : String) : Option Bool := if n = "PlayError" then some false else if n = "InvalidText" then some false else if n = "InvalidLetter" then some false else if n = "InvalidOperation" then some false else if n = "ParseError" then some false else if n = "InvalidNumber" then some true else none
theorem Tp.exO_InvalidNumber {P : Program} {w : World} {K : PySem.W.Frag} {mg : Str → Option Value} (T : Tp P w K mg) : ∀ n b, xo_InvalidNumber n = some b → PySem.W.exmOne K (.ref (T.cn.cl n)) (.ref (T.cn.cl "InvalidNumber")) = some b := fun n b h => by
  unfold xo_InvalidNumber at h
  by_cases e : n = "PlayError"
  · subst e; rw [if_pos rfl] at h; cases h; exact T.ex_PlayError_InvalidNumber
  rw [if_neg e] at h; clear e
  by_cases e : n = "InvalidText"
  · subst e; rw [if_pos rfl] at h; cases h; exact T.ex_InvalidText_InvalidNumber
  rw [if_neg e] at h; clear e
  by_cases e : n = "InvalidLetter"
  · subst e; rw [if_pos rfl] at h; cases h; exact T.ex_InvalidLetter_InvalidNumber
  rw [if_neg e] at h; clear e
  by_cases e : n = "InvalidOperation"
  · subst e; rw [if_pos rfl] at h; cases h; exact T.ex_InvalidOperation_InvalidNumber
  rw [if_neg e] at h; clear e
  by_cases e : n = "ParseError"
  · subst e; rw [if_pos rfl] at h; cases h; exact T.ex_ParseError_InvalidNumber
  rw [if_neg e] at h; clear e
  by_cases e : n = "InvalidNumber"
  · subst e; rw [if_pos rfl] at h; cases h; exact T.ex_InvalidNumber_InvalidNumber
  rw [if_neg e] at h; clear e
  cases h
abbrev k_GREATEST : D := D.int (10 ^ 60)
theorem Tp.q_GREATEST {P : Program} {w : World} {K : PySem.W.Frag} {mg : Str → Option Value} (T : Tp P w K mg) (φ : Phi) (H : Hp) : Rep T.cn φ H k_GREATEST (.int (10 ^ 60)) := by simp only [Rep]
abbrev k_MOST_TEXT : D := D.int 20000
theorem Tp.q_MOST_TEXT {P : Program} {w : World} {K : PySem.W.Frag} {mg : Str → Option Value} (T : Tp P w K mg) (φ : Phi) (H : Hp) : Rep T.cn φ H k_MOST_TEXT (.int 20000) := by simp only [Rep]
abbrev k_MOST_LONG : D := D.int 2000
theorem Tp.q_MOST_LONG {P : Program} {w : World} {K : PySem.W.Frag} {mg : Str → Option Value} (T : Tp P w K mg) (φ : Phi) (H : Hp) : Rep T.cn φ H k_MOST_LONG (.int 2000) := by simp only [Rep]
abbrev k_MOST_DEEP : D := D.int 200
theorem Tp.q_MOST_DEEP {P : Program} {w : World} {K : PySem.W.Frag} {mg : Str → Option Value} (T : Tp P w K mg) (φ : Phi) (H : Hp) : Rep T.cn φ H k_MOST_DEEP (.int 200) := by simp only [Rep]
abbrev k_MOST_DIGITS : D := D.int 60
theorem Tp.q_MOST_DIGITS {P : Program} {w : World} {K : PySem.W.Frag} {mg : Str → Option Value} (T : Tp P w K mg) (φ : Phi) (H : Hp) : Rep T.cn φ H k_MOST_DIGITS (.int 60) := by simp only [Rep]
abbrev k_FIRST_SIGN : D := D.str " "
theorem Tp.q_FIRST_SIGN {P : Program} {w : World} {K : PySem.W.Frag} {mg : Str → Option Value} (T : Tp P w K mg) (φ : Phi) (H : Hp) : Rep T.cn φ H k_FIRST_SIGN (.str " ") := by simp only [Rep]
abbrev k_LAST_SIGN : D := D.str "~"
theorem Tp.q_LAST_SIGN {P : Program} {w : World} {K : PySem.W.Frag} {mg : Str → Option Value} (T : Tp P w K mg) (φ : Phi) (H : Hp) : Rep T.cn φ H k_LAST_SIGN (.str "~") := by simp only [Rep]
abbrev k_DIGITS : D := D.str "0123456789"
theorem Tp.q_DIGITS {P : Program} {w : World} {K : PySem.W.Frag} {mg : Str → Option Value} (T : Tp P w K mg) (φ : Phi) (H : Hp) : Rep T.cn φ H k_DIGITS (.str "0123456789") := by simp only [Rep]
abbrev k_HOST : D := D.int (-1)
theorem Tp.q_HOST {P : Program} {w : World} {K : PySem.W.Frag} {mg : Str → Option Value} (T : Tp P w K mg) (φ : Phi) (H : Hp) : Rep T.cn φ H k_HOST (.int (-1)) := by simp only [Rep]
abbrev k_MOST_SEAT : D := D.int 5
theorem Tp.q_MOST_SEAT {P : Program} {w : World} {K : PySem.W.Frag} {mg : Str → Option Value} (T : Tp P w K mg) (φ : Phi) (H : Hp) : Rep T.cn φ H k_MOST_SEAT (.int 5) := by simp only [Rep]
abbrev k_MOST_WORDS : D := D.int 20
theorem Tp.q_MOST_WORDS {P : Program} {w : World} {K : PySem.W.Frag} {mg : Str → Option Value} (T : Tp P w K mg) (φ : Phi) (H : Hp) : Rep T.cn φ H k_MOST_WORDS (.int 20) := by simp only [Rep]
abbrev k_MOST_STRETCH : D := D.int 32
theorem Tp.q_MOST_STRETCH {P : Program} {w : World} {K : PySem.W.Frag} {mg : Str → Option Value} (T : Tp P w K mg) (φ : Phi) (H : Hp) : Rep T.cn φ H k_MOST_STRETCH (.int 32) := by simp only [Rep]
abbrev k_MOST_PIECES : D := D.int 100
theorem Tp.q_MOST_PIECES {P : Program} {w : World} {K : PySem.W.Frag} {mg : Str → Option Value} (T : Tp P w K mg) (φ : Phi) (H : Hp) : Rep T.cn φ H k_MOST_PIECES (.int 100) := by simp only [Rep]
abbrev k_MOST_PIECE : D := D.int 200
theorem Tp.q_MOST_PIECE {P : Program} {w : World} {K : PySem.W.Frag} {mg : Str → Option Value} (T : Tp P w K mg) (φ : Phi) (H : Hp) : Rep T.cn φ H k_MOST_PIECE (.int 200) := by simp only [Rep]
abbrev k_MOST_KEYS : D := D.int 63
theorem Tp.q_MOST_KEYS {P : Program} {w : World} {K : PySem.W.Frag} {mg : Str → Option Value} (T : Tp P w K mg) (φ : Phi) (H : Hp) : Rep T.cn φ H k_MOST_KEYS (.int 63) := by simp only [Rep]
abbrev k_MOST_PRINT : D := D.int 999999936
theorem Tp.q_MOST_PRINT {P : Program} {w : World} {K : PySem.W.Frag} {mg : Str → Option Value} (T : Tp P w K mg) (φ : Phi) (H : Hp) : Rep T.cn φ H k_MOST_PRINT (.int 999999936) := by simp only [Rep]
abbrev k_MOST_ENTRY : D := D.int 127
theorem Tp.q_MOST_ENTRY {P : Program} {w : World} {K : PySem.W.Frag} {mg : Str → Option Value} (T : Tp P w K mg) (φ : Phi) (H : Hp) : Rep T.cn φ H k_MOST_ENTRY (.int 127) := by simp only [Rep]
abbrev k_MOST_SEATS : D := D.int 4
theorem Tp.q_MOST_SEATS {P : Program} {w : World} {K : PySem.W.Frag} {mg : Str → Option Value} (T : Tp P w K mg) (φ : Phi) (H : Hp) : Rep T.cn φ H k_MOST_SEATS (.int 4) := by simp only [Rep]
abbrev k_ABSENT : D := D.int (-1)
theorem Tp.q_ABSENT {P : Program} {w : World} {K : PySem.W.Frag} {mg : Str → Option Value} (T : Tp P w K mg) (φ : Phi) (H : Hp) : Rep T.cn φ H k_ABSENT (.int (-1)) := by simp only [Rep]
abbrev k_KEYS : D := D.str "keys"
theorem Tp.q_KEYS {P : Program} {w : World} {K : PySem.W.Frag} {mg : Str → Option Value} (T : Tp P w K mg) (φ : Phi) (H : Hp) : Rep T.cn φ H k_KEYS (.str "keys") := by simp only [Rep]
abbrev k_ROWS : D := D.str "rows"
theorem Tp.q_ROWS {P : Program} {w : World} {K : PySem.W.Frag} {mg : Str → Option Value} (T : Tp P w K mg) (φ : Phi) (H : Hp) : Rep T.cn φ H k_ROWS (.str "rows") := by simp only [Rep]
abbrev k_PIECE : D := D.str "piece"
theorem Tp.q_PIECE {P : Program} {w : World} {K : PySem.W.Frag} {mg : Str → Option Value} (T : Tp P w K mg) (φ : Phi) (H : Hp) : Rep T.cn φ H k_PIECE (.str "piece") := by simp only [Rep]
abbrev k_WORD : D := D.str "word"
theorem Tp.q_WORD {P : Program} {w : World} {K : PySem.W.Frag} {mg : Str → Option Value} (T : Tp P w K mg) (φ : Phi) (H : Hp) : Rep T.cn φ H k_WORD (.str "word") := by simp only [Rep]
abbrev k_WORDS : D := D.tup [D.str "come", D.str "go"]
theorem Tp.q_WORDS {P : Program} {w : World} {K : PySem.W.Frag} {mg : Str → Option Value} (T : Tp P w K mg) (φ : Phi) (H : Hp) : Rep T.cn φ H k_WORDS (.ref T.p_WORDS) := by
  simp only [Rep]
  exact ⟨_, _, rfl, .inr (T.s_WORDS _), by simp [RepL, Rep]⟩
def st_own_found : List (String × Nat) := [("Known", 0)]
theorem Tp.st_own_found {P : Program} {w : World} {K : PySem.W.Frag} {mg : Str → Option Value} (T : Tp P w K mg) : SlT T.cn.K T.cn.cl "own_found" st_own_found := (.cons (C := "Known") T.cl_Known T.t_Known_own_found .nil)
def st_own_letters : List (String × Nat) := [("Bag", 0)]
theorem Tp.st_own_letters {P : Program} {w : World} {K : PySem.W.Frag} {mg : Str → Option Value} (T : Tp P w K mg) : SlT T.cn.K T.cn.cl "own_letters" st_own_letters := (.cons (C := "Bag") T.cl_Bag T.t_Bag_own_letters .nil)
abbrev ownL : List String := ["Known", "Bag"]
namespace Tp
variable {P : Program} {w : World} {K : PySem.W.Frag} {mg : Str → Option Value} (T : Tp P w K mg)
theorem cn_Known : T.cn.cl "Known" = T.C_Known := rfl
theorem cn_Bag : T.cn.cl "Bag" = T.C_Bag := rfl
theorem ownAll {P : String → Prop} (h_Known : P "Known") (h_Bag : P "Bag") : ∀ C ∈ ownL, P C := fun C h => by
  simp only [ownL, List.mem_cons, List.not_mem_nil, or_false] at h
  rcases h with rfl | rfl <;> assumption
theorem tyAll {P : String → Prop} (h0 : P "NoneType") (h1 : P "bool") (h2 : P "int") (h3 : P "str") (h4 : P "tuple") (h5 : P "list") (h6 : P "dict") : ∀ n ∈ tyNames, P n := fun n h => by
  simp only [tyNames, List.mem_cons, List.not_mem_nil, or_false] at h
  rcases h with rfl | rfl | rfl | rfl | rfl | rfl | rfl <;> assumption
theorem ownK : OwnK T.cn ownL where
  cls := ownAll ⟨T.cl_Known, T.is_Known⟩ ⟨T.cl_Bag, T.is_Bag⟩
  bt := ownAll (tyAll (kit_own T.cl_Known.ic T.ty_Known T.k_Known_NoneType rfl) (kit_own T.cl_Known.ic T.ty_Known T.k_Known_bool rfl) (kit_own T.cl_Known.ic T.ty_Known T.k_Known_int rfl) (kit_own T.cl_Known.ic T.ty_Known T.k_Known_str rfl) (kit_own T.cl_Known.ic T.ty_Known T.k_Known_tuple rfl) (kit_own T.cl_Known.ic T.ty_Known T.k_Known_list rfl) (kit_own T.cl_Known.ic T.ty_Known T.k_Known_dict rfl)) (tyAll (kit_own T.cl_Bag.ic T.ty_Bag T.k_Bag_NoneType rfl) (kit_own T.cl_Bag.ic T.ty_Bag T.k_Bag_bool rfl) (kit_own T.cl_Bag.ic T.ty_Bag T.k_Bag_int rfl) (kit_own T.cl_Bag.ic T.ty_Bag T.k_Bag_str rfl) (kit_own T.cl_Bag.ic T.ty_Bag T.k_Bag_tuple rfl) (kit_own T.cl_Bag.ic T.ty_Bag T.k_Bag_list rfl) (kit_own T.cl_Bag.ic T.ty_Bag T.k_Bag_dict rfl))
  tb := ownAll (tyAll (kit_tb rfl T.kt_NoneType_Known) (kit_tb rfl T.kt_bool_Known) (kit_tb rfl T.kt_int_Known) (kit_tb rfl T.kt_str_Known) (kit_tb rfl T.kt_tuple_Known) (kit_tb rfl T.kt_list_Known) (kit_tb rfl T.kt_dict_Known)) (tyAll (kit_tb rfl T.kt_NoneType_Bag) (kit_tb rfl T.kt_bool_Bag) (kit_tb rfl T.kt_int_Bag) (kit_tb rfl T.kt_str_Bag) (kit_tb rfl T.kt_tuple_Bag) (kit_tb rfl T.kt_list_Bag) (kit_tb rfl T.kt_dict_Bag))
  oo := ownAll (ownAll kit_self (kit_own T.cl_Known.ic T.ty_Known T.k_Known_Bag T.kn_Bag_Known)) (ownAll (kit_own T.cl_Bag.ic T.ty_Bag T.k_Bag_Known T.kn_Known_Bag) kit_self)
theorem nf_Bag : Nf T.cn ownL "Bag" := ⟨tyAll T.nf_NoneType_Bag T.nf_bool_Bag T.nf_int_Bag T.nf_str_Bag T.nf_tuple_Bag T.nf_list_Bag T.nf_dict_Bag, ownAll T.nf_Known_Bag T.nf_Bag_Bag⟩
end Tp
section
variable {P : Program} {w : World} {K : PySem.W.Frag} {mg : Str → Option Value} {base : Heap}
noncomputable def f_is_whole : VL.Env → M VL.Flow := fun ρ => liftS ρ (andD ((((rd 0 ρ) >>= fun x => ((pure (D.ty "int") : M D) >>= fun x => (pure [] : M (List D)) >>= fun r => pure (x :: r)) >>= fun r => pure (x :: r)) >>= (isiO ownL))) (((((rd 0 ρ) >>= fun x => ((pure (D.ty "bool") : M D) >>= fun x => (pure [] : M (List D)) >>= fun r => pure (x :: r)) >>= fun r => pure (x :: r)) >>= (isiO ownL)) >>= notD))) fun d => pure (VL.Flow.rt d)
noncomputable def m_is_whole : List D → M D := runF 1 f_is_whole
theorem ok_is_whole (T : Tp P w K mg) : FnOk P w K mg base (L2.CX P w) 1 T.a_is_whole T.d_is_whole ["value"] (spD T.cn 1 m_is_whole) :=
  fnv_ok (c := T.cn) T.F_is_whole rfl sc_is_whole fun cdv A outer s0 H E hr => (vb_one (vs_ret (ve_and (ve_callB (cv_isiO rfl T.ownK) (by rfl) T.m_isinstance (by decide +kernel) (vl_cons (vv 0 (lo_none rfl)) (vl_cons (ve_bltn (n := "int") (by rfl) T.m_int (by decide +kernel)) vl_nil)) (fun _ _ p q => pe_callB p (by rfl) T.m_isinstance (by decide +kernel) q)) (ve_one (ve_not (ve_callB (cv_isiO rfl T.ownK) (by rfl) T.m_isinstance (by decide +kernel) (vl_cons (vv 0 (lo_none rfl)) (vl_cons (ve_bltn (n := "bool") (by rfl) T.m_bool (by decide +kernel)) vl_nil)) (fun _ _ p q => pe_callB p (by rfl) T.m_isinstance (by decide +kernel) q)))))))
noncomputable def f_is_short : VL.Env → M VL.Flow := fun ρ => liftS ρ (andD ((((rd 0 ρ) >>= fun x => (pure [] : M (List D)) >>= fun r => pure (x :: r)) >>= callM 1 m_is_whole)) ((((pure k_GREATEST : M D) >>= negD) >>= fun x => (rd 0 ρ) >>= fun y => andD (dLt x y) ((pure k_GREATEST : M D) >>= fun z => dLt y z)))) fun d => pure (VL.Flow.rt d)
noncomputable def m_is_short : List D → M D := runF 1 f_is_short
theorem ok_is_short (T : Tp P w K mg) : FnOk P w K mg base (L2.CX P w) 2 T.a_is_short T.d_is_short ["value"] (spD T.cn 1 m_is_short) :=
  fnv_ok (c := T.cn) T.F_is_short rfl sc_is_short fun cdv A outer s0 H E hr => (vb_one (vs_ret (ve_and (ve_call (ok_is_whole T) (hr.mono (by decide)) (by rfl) T.g_is_whole T.F_is_whole.kp T.b_is_whole (takes_of rfl rfl rfl rfl) (vl_cons (vv 0 (lo_none rfl)) vl_nil) (fun _ z => pe_callS (ok_is_whole T) (hr.mono (by decide)) (by rfl) T.g_is_whole T.F_is_whole.kp T.b_is_whole (fun σ => passAt (takes_of rfl rfl rfl rfl) σ) z)) (ve_one (ve_chain opv_lt opv_lt (ve_neg (ve_glob (d := k_GREATEST) (by rfl) T.c_GREATEST T.r_GREATEST T.q_GREATEST)) (vv 0 (lo_none rfl)) (ve_glob (d := k_GREATEST) (by rfl) T.c_GREATEST T.r_GREATEST T.q_GREATEST) (fun _ _ _ _ _ a b c d e => pe_chain a b c d e))))))
noncomputable def f_is_from : VL.Env → M VL.Flow := fun ρ => liftS ρ (andD ((((rd 0 ρ) >>= fun x => (pure [] : M (List D)) >>= fun r => pure (x :: r)) >>= callM 1 m_is_whole)) (((rd 1 ρ) >>= fun x => (rd 0 ρ) >>= fun y => andD (dLe x y) ((rd 2 ρ) >>= fun z => dLe y z)))) fun d => pure (VL.Flow.rt d)
noncomputable def m_is_from : List D → M D := runF 3 f_is_from
theorem ok_is_from (T : Tp P w K mg) : FnOk P w K mg base (L2.CX P w) 2 T.a_is_from T.d_is_from ["value", "least", "most"] (spD T.cn 3 m_is_from) :=
  fnv_ok (c := T.cn) T.F_is_from rfl sc_is_from fun cdv A outer s0 H E hr => (vb_one (vs_ret (ve_and (ve_call (ok_is_whole T) (hr.mono (by decide)) (by rfl) T.g_is_whole T.F_is_whole.kp T.b_is_whole (takes_of rfl rfl rfl rfl) (vl_cons (vv 0 (lo_none rfl)) vl_nil) (fun _ z => pe_callS (ok_is_whole T) (hr.mono (by decide)) (by rfl) T.g_is_whole T.F_is_whole.kp T.b_is_whole (fun σ => passAt (takes_of rfl rfl rfl rfl) σ) z)) (ve_one (ve_chain opv_le opv_le (vv 1 (lo_none rfl)) (vv 0 (lo_none rfl)) (vv 2 (lo_none rfl)) (fun _ _ _ _ _ a b c d e => pe_chain a b c d e))))))
noncomputable def f_is_tick : VL.Env → M VL.Flow := fun ρ => liftS ρ (andD ((((rd 0 ρ) >>= fun x => (pure [] : M (List D)) >>= fun r => pure (x :: r)) >>= callM 1 m_is_short)) (((rd 0 ρ) >>= fun x => (pure (D.int 0) : M D) >>= fun y => dGe x y))) fun d => pure (VL.Flow.rt d)
noncomputable def m_is_tick : List D → M D := runF 1 f_is_tick
theorem ok_is_tick (T : Tp P w K mg) : FnOk P w K mg base (L2.CX P w) 3 T.a_is_tick T.d_is_tick ["value"] (spD T.cn 1 m_is_tick) :=
  fnv_ok (c := T.cn) T.F_is_tick rfl sc_is_tick fun cdv A outer s0 H E hr => (vb_one (vs_ret (ve_and (ve_call (ok_is_short T) (hr.mono (by decide)) (by rfl) T.g_is_short T.F_is_short.kp T.b_is_short (takes_of rfl rfl rfl rfl) (vl_cons (vv 0 (lo_none rfl)) vl_nil) (fun _ z => pe_callS (ok_is_short T) (hr.mono (by decide)) (by rfl) T.g_is_short T.F_is_short.kp T.b_is_short (fun σ => passAt (takes_of rfl rfl rfl rfl) σ) z)) (ve_one (ve_cmp opv_ge (vv 0 (lo_none rfl)) ve_int (nomark _))))))
noncomputable def f_require_from : VL.Env → M VL.Flow := fun ρ => liftS ρ (((((rd 0 ρ) >>= fun x => ((rd 1 ρ) >>= fun x => ((rd 2 ρ) >>= fun x => (pure [] : M (List D)) >>= fun r => pure (x :: r)) >>= fun r => pure (x :: r)) >>= fun r => pure (x :: r)) >>= callM 3 m_is_from) >>= asB) >>= fun b => pure (!b)) fun k => if k then (liftS ρ ((rd 0 ρ) >>= fun x => (pure [] : M (List D)) >>= fun r => pure (x :: r)) (xcF "InvalidNumber" "given" ρ)) else (pure (VL.Flow.nx ρ))
noncomputable def m_require_from : List D → M D := runF 3 f_require_from
theorem ok_require_from (T : Tp P w K mg) : FnOk P w K mg base (L2.CX P w) 3 T.a_require_from T.d_require_from ["value", "least", "most"] (spD T.cn 3 m_require_from) :=
  fnv_ok (c := T.cn) T.F_require_from rfl sc_require_from fun cdv A outer s0 H E hr => (vb_one (vs_if (vt_not (vt_val (ve_call (ok_is_from T) (hr.mono (by decide)) (by rfl) T.g_is_from T.F_is_from.kp T.b_is_from (takes_of rfl rfl rfl rfl) (vl_cons (vv 0 (lo_none rfl)) (vl_cons (vv 1 (lo_none rfl)) (vl_cons (vv 2 (lo_none rfl)) vl_nil))) (fun _ z => pe_callS (ok_is_from T) (hr.mono (by decide)) (by rfl) T.g_is_from T.F_is_from.kp T.b_is_from (fun σ => passAt (takes_of rfl rfl rfl rfl) σ) z)))) (vb_one (vs_raiseF (C := "InvalidNumber") (fld := "given") rfl (takes_of rfl rfl rfl rfl) (vl_cons (vv 0 (lo_none rfl)) vl_nil) (fun _ z => pmk_fld T.es_InvalidNumber T.gx_InvalidNumber T.kx_InvalidNumber (raises_own T.bx_InvalidNumber T.tx_InvalidNumber) hr z (by rfl)))) vb_nil))
noncomputable def f_is_text : VL.Env → M VL.Flow := fun ρ => liftS ρ (andD ((((rd 0 ρ) >>= fun x => ((pure (D.ty "str") : M D) >>= fun x => (pure [] : M (List D)) >>= fun r => pure (x :: r)) >>= fun r => pure (x :: r)) >>= (isiO ownL))) ((andD (((((rd 0 ρ) >>= fun x => (pure [] : M (List D)) >>= fun r => pure (x :: r)) >>= lenD) >>= fun x => (rd 1 ρ) >>= fun y => dLe x y)) ((((((rd 0 ρ) >>= itOf) >>= fun it => ask (small it.items.length) >>= fun _ => loopC it (gN 2) (fun _ => pure true) (fun ρ => ((pure k_FIRST_SIGN : M D) >>= fun x => (rd 2 ρ) >>= fun y => andD (dLe x y) ((pure k_LAST_SIGN : M D) >>= fun z => dLe y z))) (wipeE ρ [2]) it.items [] >>= frzL) >>= fun x => (pure [] : M (List D)) >>= fun r => pure (x :: r)) >>= (allD fun bs => bs.all id)))))) fun d => pure (VL.Flow.rt d)
noncomputable def m_is_text : List D → M D := runF 3 f_is_text
theorem ok_is_text (T : Tp P w K mg) : FnOk P w K mg base (L2.CX P w) 1 T.a_is_text T.d_is_text ["value", "most"] (spD T.cn 2 m_is_text) :=
  fnv_ok (c := T.cn) T.F_is_text rfl sc_is_text fun cdv A outer s0 H E hr => (vb_one (vs_ret (ve_and (ve_callB (cv_isiO rfl T.ownK) (by rfl) T.m_isinstance (by decide +kernel) (vl_cons (vv 0 (lo_none rfl)) (vl_cons (ve_bltn (n := "str") (by rfl) T.m_str (by decide +kernel)) vl_nil)) (fun _ _ p q => pe_callB p (by rfl) T.m_isinstance (by decide +kernel) q)) (ve_and (ve_cmp opv_le (ve_callB (cv_len rfl) (by rfl) T.m_len (by decide +kernel) (vl_cons (vv 0 (lo_none rfl)) vl_nil) (fun _ _ p q => pe_callB p (by rfl) T.m_len (by decide +kernel) q)) (vv 1 (lo_none rfl)) (nomark _)) (ve_one (ve_callB (cv_all rfl rfl) (by rfl) T.m_all (by decide +kernel) (vl_cons (ve_lc fin_frz (own := [("sign", 2)]) (fun i hi => ⟨lo_none rfl, fun z => absurd rfl z⟩) (by rfl) sc_is_text.nd (blkOk_by (own := [("sign", 2)]) (N := N_is_text) (sc := defScope s_is_text) (by decide +kernel)) (vi_seq rfl (vv 0 (lo_none rfl))) (fun _ _ _ _ _ => (vg_name (i := 2) (lo_none rfl) (fun z => absurd rfl z) sc_is_text.nd rfl (Or.inl rfl))) (fun _ _ _ _ _ => vts_nil) (fun _ _ _ _ _ => (ve_chain opv_le opv_le (ve_glob (d := k_FIRST_SIGN) (by rfl) T.c_FIRST_SIGN T.r_FIRST_SIGN T.q_FIRST_SIGN) (vv 2 (lo_none rfl)) (ve_glob (d := k_LAST_SIGN) (by rfl) T.c_LAST_SIGN T.r_LAST_SIGN T.q_LAST_SIGN) (fun _ _ _ _ _ a b c d e => pe_chain a b c d e))) (by decide)) vl_nil) (fun _ _ p q => pe_callB p (by rfl) T.m_all (by decide +kernel) q)))))))
noncomputable def f_require_text : VL.Env → M VL.Flow := fun ρ => liftS ρ (((((rd 0 ρ) >>= fun x => ((pure k_MOST_TEXT : M D) >>= fun x => (pure [] : M (List D)) >>= fun r => pure (x :: r)) >>= fun r => pure (x :: r)) >>= callM 2 m_is_text) >>= asB) >>= fun b => pure (!b)) fun k => if k then (pure (VL.Flow.xc ρ ⟨"InvalidText", none⟩)) else (pure (VL.Flow.nx ρ))
noncomputable def m_require_text : List D → M D := runF 1 f_require_text
theorem ok_require_text (T : Tp P w K mg) : FnOk P w K mg base (L2.CX P w) 2 T.a_require_text T.d_require_text ["value"] (spD T.cn 1 m_require_text) :=
  fnv_ok (c := T.cn) T.F_require_text rfl sc_require_text fun cdv A outer s0 H E hr => (vb_one (vs_if (vt_not (vt_val (ve_call (ok_is_text T) (hr.mono (by decide)) (by rfl) T.g_is_text T.F_is_text.kp T.b_is_text (takes_of rfl rfl rfl rfl) (vl_cons (vv 0 (lo_none rfl)) (vl_cons (ve_glob (d := k_MOST_TEXT) (by rfl) T.c_MOST_TEXT T.r_MOST_TEXT T.q_MOST_TEXT) vl_nil)) (fun _ z => pe_callS (ok_is_text T) (hr.mono (by decide)) (by rfl) T.g_is_text T.F_is_text.kp T.b_is_text (fun σ => passAt (takes_of rfl rfl rfl rfl) σ) z)))) (vb_one (vs_raise (C := "InvalidText") rfl (takes_of rfl rfl rfl rfl) (pmk_own PySem.F.excBase_ValueError T.xc_InvalidText T.gx_InvalidText T.kx_InvalidText (raises_own T.bx_InvalidText T.tx_InvalidText) (by rfl)))) vb_nil))
noncomputable def f_length_at : VL.Env → M VL.Flow := fun ρ => seqM (liftS ρ ((rd 1 ρ) >>= fun x => ((pure (D.int 0) : M D) >>= fun x => (pure [] : M (List D)) >>= fun r => pure (x :: r)) >>= fun r => pure (x :: r)) fun ds => set2 ρ 3 4 ds)
    (fun ρ => seqM (whileF 2000 (fun ρ => (tAnd ((((rd 3 ρ) >>= fun x => (((rd 0 ρ) >>= fun x => (pure [] : M (List D)) >>= fun r => pure (x :: r)) >>= lenD) >>= fun y => dLt x y) >>= asB)) ((tAnd (((((rd 0 ρ) >>= fun x => (rd 3 ρ) >>= fun y => dIx x y) >>= fun x => (pure k_DIGITS : M D) >>= fun y => dInC x y) >>= asB)) ((tOr ((((rd 3 ρ) >>= fun x => (rd 1 ρ) >>= fun y => dEq x y) >>= asB)) ((((rd 4 ρ) >>= fun x => (pure (D.int 0) : M D) >>= fun y => dGt x y) >>= asB)))))))) (fun ρ => seqM (liftS ρ (((((pure (D.int 10) : M D) >>= fun x => (rd 4 ρ) >>= fun y => dMul x y) >>= fun x => ((((rd 0 ρ) >>= fun x => (rd 3 ρ) >>= fun y => dIx x y) >>= fun x => (pure [] : M (List D)) >>= fun r => pure (x :: r)) >>= intSD) >>= fun y => dAdd x y) >>= fun x => (rd 2 ρ) >>= fun y => dGt x y) >>= asB) fun k => if k then (liftS ρ (((pure D.non : M D) >>= fun x => ((rd 3 ρ) >>= fun x => (pure [] : M (List D)) >>= fun r => pure (x :: r)) >>= fun r => pure (x :: r)) >>= mkTup) fun d => pure (VL.Flow.rt d)) else (pure (VL.Flow.nx ρ)))
    (fun ρ => liftS ρ ((((pure (D.int 10) : M D) >>= fun x => (rd 4 ρ) >>= fun y => dMul x y) >>= fun x => ((((rd 0 ρ) >>= fun x => (rd 3 ρ) >>= fun y => dIx x y) >>= fun x => (pure [] : M (List D)) >>= fun r => pure (x :: r)) >>= intSD) >>= fun y => dAdd x y) >>= fun x => (((rd 3 ρ) >>= fun x => (pure (D.int 1) : M D) >>= fun y => dAdd x y) >>= fun x => (pure [] : M (List D)) >>= fun r => pure (x :: r)) >>= fun r => pure (x :: r)) fun ds => set2 ρ 4 3 ds)) ρ)
    (fun ρ => seqM (liftS ρ (tOr ((((rd 3 ρ) >>= fun x => (rd 1 ρ) >>= fun y => dEq x y) >>= asB)) (((((rd 0 ρ) >>= fun x => ((rd 3 ρ) >>= asPart) >>= fun l => (((rd 3 ρ) >>= fun x => (pure (D.int 1) : M D) >>= fun y => dAdd x y) >>= asPart) >>= fun h => dSl x l h) >>= fun x => (pure (D.str ":") : M D) >>= fun y => dNe x y) >>= asB))) fun k => if k then (liftS ρ (((pure D.non : M D) >>= fun x => ((rd 3 ρ) >>= fun x => (pure [] : M (List D)) >>= fun r => pure (x :: r)) >>= fun r => pure (x :: r)) >>= mkTup) fun d => pure (VL.Flow.rt d)) else (pure (VL.Flow.nx ρ)))
    (fun ρ => liftS ρ (((rd 4 ρ) >>= fun x => (((rd 3 ρ) >>= fun x => (pure (D.int 1) : M D) >>= fun y => dAdd x y) >>= fun x => (pure [] : M (List D)) >>= fun r => pure (x :: r)) >>= fun r => pure (x :: r)) >>= mkTup) fun d => pure (VL.Flow.rt d))))
noncomputable def m_length_at : List D → M D := runF 5 f_length_at
theorem ok_length_at (T : Tp P w K mg) : FnOk P w K mg base (L2.CX P w) 1 T.a_length_at T.d_length_at ["text", "at", "most"] (spD T.cn 3 m_length_at) :=
  fnv_ok (c := T.cn) T.F_length_at rfl sc_length_at fun cdv A outer s0 H E hr => (vb_cons (vs_par (i := 3) (j := 4) ⟨(lo_none rfl), (fun z => absurd rfl z)⟩ ⟨(lo_none rfl), (fun z => absurd rfl z)⟩ (vl_cons (vv 1 (lo_none rfl)) (vl_cons ve_int vl_nil)) (fun _ z => ps_par (by rfl) sc_length_at.nd rfl rfl (by decide) rfl rfl z (by rfl)))
    (vb_cons (vs_whileN 2000 (vt_of (vw_and (vt_cmp opv_lt (vv 3 (lo_none rfl)) (ve_callB (cv_len rfl) (by rfl) T.m_len (by decide +kernel) (vl_cons (vv 0 (lo_none rfl)) vl_nil) (fun _ _ p q => pe_callB p (by rfl) T.m_len (by decide +kernel) q)) (nomark _)) (vw_and (vt_cmp (opv_inC rfl) (ve_ix rfl (vv 0 (lo_none rfl)) (vv 3 (lo_none rfl)) (fun _ _ => rfl)) (ve_glob (d := k_DIGITS) (by rfl) T.c_DIGITS T.r_DIGITS T.q_DIGITS) (by rfl)) (vw_and1 (vt_of (vw_or (vt_cmp (opv_eq rfl hr.units) (vv 3 (lo_none rfl)) (vv 1 (lo_none rfl)) (nomark _)) (vw_or1 (vt_cmp opv_gt (vv 4 (lo_none rfl)) ve_int (nomark _))))))))) (vb_cons (vs_if (vt_cmp opv_gt (ve_op (opv_add rfl) (ve_op opv_mul ve_int (vv 4 (lo_none rfl))) (ve_callT cv_intS (by rfl) T.m_int (by decide +kernel) (vl_cons (ve_ix rfl (vv 0 (lo_none rfl)) (vv 3 (lo_none rfl)) (fun _ _ => rfl)) vl_nil) (fun _ _ p q => pe_callTy p (by rfl) T.m_int (by decide +kernel) q))) (vv 2 (lo_none rfl)) (nomark _)) (vb_one (vs_ret (ve_tup (vl_cons ve_non (vl_cons (vv 3 (lo_none rfl)) vl_nil))))) vb_nil)
    (vb_one (vs_par (i := 4) (j := 3) ⟨(lo_none rfl), (fun z => absurd rfl z)⟩ ⟨(lo_none rfl), (fun z => absurd rfl z)⟩ (vl_cons (ve_op (opv_add rfl) (ve_op opv_mul ve_int (vv 4 (lo_none rfl))) (ve_callT cv_intS (by rfl) T.m_int (by decide +kernel) (vl_cons (ve_ix rfl (vv 0 (lo_none rfl)) (vv 3 (lo_none rfl)) (fun _ _ => rfl)) vl_nil) (fun _ _ p q => pe_callTy p (by rfl) T.m_int (by decide +kernel) q))) (vl_cons (ve_op (opv_add rfl) (vv 3 (lo_none rfl)) ve_int) vl_nil)) (fun _ z => ps_par (by rfl) sc_length_at.nd rfl rfl (by decide) rfl rfl z (by rfl))))) (fun _ _ p q => ps_while (passes_of rfl) p q))
    (vb_cons (vs_if (vt_of (vw_or (vt_cmp (opv_eq rfl hr.units) (vv 3 (lo_none rfl)) (vv 1 (lo_none rfl)) (nomark _)) (vw_or1 (vt_cmp (opv_ne rfl hr.units) (ve_slice rfl (vv 0 (lo_none rfl)) (vo_some (vv 3 (lo_none rfl))) (vo_some (ve_op (opv_add rfl) (vv 3 (lo_none rfl)) ve_int))) ve_str (nomark _))))) (vb_one (vs_ret (ve_tup (vl_cons ve_non (vl_cons (vv 3 (lo_none rfl)) vl_nil))))) vb_nil)
    (vb_one (vs_ret (ve_tup (vl_cons (vv 4 (lo_none rfl)) (vl_cons (ve_op (opv_add rfl) (vv 3 (lo_none rfl)) ve_int) vl_nil))))))))
noncomputable def f_integer_at : VL.Env → M VL.Flow := fun ρ => seqM (liftS ρ (((((rd 0 ρ) >>= fun x => ((rd 1 ρ) >>= asPart) >>= fun l => (((rd 1 ρ) >>= fun x => (pure (D.int 1) : M D) >>= fun y => dAdd x y) >>= asPart) >>= fun h => dSl x l h) >>= fun x => (pure (D.str "-") : M D) >>= fun y => dEq x y) >>= asB) >>= fun k => if k then ((rd 1 ρ) >>= fun x => (pure (D.int 1) : M D) >>= fun y => dAdd x y) else (rd 1 ρ)) fun d => pure (VL.Flow.nx (ρ.set 2 (some d))))
    (fun ρ => seqM (liftS ρ (rd 2 ρ) fun d => pure (VL.Flow.nx (ρ.set 3 (some d))))
    (fun ρ => seqM (whileF 2000 (fun ρ => (tAnd ((((rd 3 ρ) >>= fun x => (((rd 0 ρ) >>= fun x => (pure [] : M (List D)) >>= fun r => pure (x :: r)) >>= lenD) >>= fun y => dLt x y) >>= asB)) ((tAnd ((((rd 3 ρ) >>= fun x => ((rd 2 ρ) >>= fun x => (pure k_MOST_DIGITS : M D) >>= fun y => dAdd x y) >>= fun y => dLt x y) >>= asB)) ((tAnd (((((rd 0 ρ) >>= fun x => (rd 3 ρ) >>= fun y => dIx x y) >>= fun x => (pure k_DIGITS : M D) >>= fun y => dInC x y) >>= asB)) (((((rd 0 ρ) >>= fun x => ((rd 2 ρ) >>= asPart) >>= fun l => ((rd 3 ρ) >>= asPart) >>= fun h => dSl x l h) >>= fun x => (pure (D.str "0") : M D) >>= fun y => dNe x y) >>= asB)))))))) (fun ρ => seqM (liftS ρ (tAnd ((((rd 2 ρ) >>= fun x => (rd 1 ρ) >>= fun y => dGt x y) >>= asB)) ((tAnd ((((rd 3 ρ) >>= fun x => (rd 2 ρ) >>= fun y => dEq x y) >>= asB)) (((((rd 0 ρ) >>= fun x => (rd 3 ρ) >>= fun y => dIx x y) >>= fun x => (pure (D.str "0") : M D) >>= fun y => dEq x y) >>= asB))))) fun k => if k then (liftS ρ (((pure D.non : M D) >>= fun x => ((rd 3 ρ) >>= fun x => (pure [] : M (List D)) >>= fun r => pure (x :: r)) >>= fun r => pure (x :: r)) >>= mkTup) fun d => pure (VL.Flow.rt d)) else (pure (VL.Flow.nx ρ)))
    (fun ρ => liftS ρ (rd 3 ρ >>= fun x => (pure (D.int 1) : M D) >>= fun y => (intOp0 fun i j => D.int (i + j)) x y) fun d => pure (VL.Flow.nx (ρ.set 3 (some d))))) ρ)
    (fun ρ => seqM (liftS ρ (tOr ((((rd 3 ρ) >>= fun x => (rd 2 ρ) >>= fun y => dEq x y) >>= asB)) (((((rd 0 ρ) >>= fun x => ((rd 3 ρ) >>= asPart) >>= fun l => (((rd 3 ρ) >>= fun x => (pure (D.int 1) : M D) >>= fun y => dAdd x y) >>= asPart) >>= fun h => dSl x l h) >>= fun x => (pure (D.str ";") : M D) >>= fun y => dNe x y) >>= asB))) fun k => if k then (liftS ρ (((pure D.non : M D) >>= fun x => ((rd 3 ρ) >>= fun x => (pure [] : M (List D)) >>= fun r => pure (x :: r)) >>= fun r => pure (x :: r)) >>= mkTup) fun d => pure (VL.Flow.rt d)) else (pure (VL.Flow.nx ρ)))
    (fun ρ => liftS ρ ((((((rd 0 ρ) >>= fun x => ((rd 1 ρ) >>= asPart) >>= fun l => ((rd 3 ρ) >>= asPart) >>= fun h => dSl x l h) >>= fun x => (pure [] : M (List D)) >>= fun r => pure (x :: r)) >>= intSD) >>= fun x => (((rd 3 ρ) >>= fun x => (pure (D.int 1) : M D) >>= fun y => dAdd x y) >>= fun x => (pure [] : M (List D)) >>= fun r => pure (x :: r)) >>= fun r => pure (x :: r)) >>= mkTup) fun d => pure (VL.Flow.rt d)))))
noncomputable def m_integer_at : List D → M D := runF 4 f_integer_at
theorem ok_integer_at (T : Tp P w K mg) : FnOk P w K mg base (L2.CX P w) 1 T.a_integer_at T.d_integer_at ["text", "at"] (spD T.cn 2 m_integer_at) :=
  fnv_ok (c := T.cn) T.F_integer_at rfl sc_integer_at fun cdv A outer s0 H E hr => (vb_cons (vs_set (i := 2) (lo_none rfl) (fun z => absurd rfl z) sc_integer_at.nd rfl (Or.inl rfl) (ve_if (vt_cmp (opv_eq rfl hr.units) (ve_slice rfl (vv 0 (lo_none rfl)) (vo_some (vv 1 (lo_none rfl))) (vo_some (ve_op (opv_add rfl) (vv 1 (lo_none rfl)) ve_int))) ve_str (nomark _)) (ve_op (opv_add rfl) (vv 1 (lo_none rfl)) ve_int) (vv 1 (lo_none rfl))))
    (vb_cons (vs_set (i := 3) (lo_none rfl) (fun z => absurd rfl z) sc_integer_at.nd rfl (Or.inl rfl) (vv 2 (lo_none rfl)))
    (vb_cons (vs_whileN 2000 (vt_of (vw_and (vt_cmp opv_lt (vv 3 (lo_none rfl)) (ve_callB (cv_len rfl) (by rfl) T.m_len (by decide +kernel) (vl_cons (vv 0 (lo_none rfl)) vl_nil) (fun _ _ p q => pe_callB p (by rfl) T.m_len (by decide +kernel) q)) (nomark _)) (vw_and (vt_cmp opv_lt (vv 3 (lo_none rfl)) (ve_op (opv_add rfl) (vv 2 (lo_none rfl)) (ve_glob (d := k_MOST_DIGITS) (by rfl) T.c_MOST_DIGITS T.r_MOST_DIGITS T.q_MOST_DIGITS)) (nomark _)) (vw_and (vt_cmp (opv_inC rfl) (ve_ix rfl (vv 0 (lo_none rfl)) (vv 3 (lo_none rfl)) (fun _ _ => rfl)) (ve_glob (d := k_DIGITS) (by rfl) T.c_DIGITS T.r_DIGITS T.q_DIGITS) (by rfl)) (vw_and1 (vt_cmp (opv_ne rfl hr.units) (ve_slice rfl (vv 0 (lo_none rfl)) (vo_some (vv 2 (lo_none rfl))) (vo_some (vv 3 (lo_none rfl)))) ve_str (nomark _))))))) (vb_cons (vs_if (vt_of (vw_and (vt_cmp opv_gt (vv 2 (lo_none rfl)) (vv 1 (lo_none rfl)) (nomark _)) (vw_and (vt_cmp (opv_eq rfl hr.units) (vv 3 (lo_none rfl)) (vv 2 (lo_none rfl)) (nomark _)) (vw_and1 (vt_cmp (opv_eq rfl hr.units) (ve_ix rfl (vv 0 (lo_none rfl)) (vv 3 (lo_none rfl)) (fun _ _ => rfl)) ve_str (nomark _)))))) (vb_one (vs_ret (ve_tup (vl_cons ve_non (vl_cons (vv 3 (lo_none rfl)) vl_nil))))) vb_nil)
    (vb_one (vs_aug (i := 3) ⟨(lo_none rfl), (fun z => absurd rfl z)⟩ ve_int ipv_add (fun _ _ p q => ps_aug sc_integer_at.nd rfl (Or.inl rfl) p q)))) (fun _ _ p q => ps_while (passes_of rfl) p q))
    (vb_cons (vs_if (vt_of (vw_or (vt_cmp (opv_eq rfl hr.units) (vv 3 (lo_none rfl)) (vv 2 (lo_none rfl)) (nomark _)) (vw_or1 (vt_cmp (opv_ne rfl hr.units) (ve_slice rfl (vv 0 (lo_none rfl)) (vo_some (vv 3 (lo_none rfl))) (vo_some (ve_op (opv_add rfl) (vv 3 (lo_none rfl)) ve_int))) ve_str (nomark _))))) (vb_one (vs_ret (ve_tup (vl_cons ve_non (vl_cons (vv 3 (lo_none rfl)) vl_nil))))) vb_nil)
    (vb_one (vs_ret (ve_tup (vl_cons (ve_callT cv_intS (by rfl) T.m_int (by decide +kernel) (vl_cons (ve_slice rfl (vv 0 (lo_none rfl)) (vo_some (vv 1 (lo_none rfl))) (vo_some (vv 3 (lo_none rfl)))) vl_nil) (fun _ _ p q => pe_callTy p (by rfl) T.m_int (by decide +kernel) q)) (vl_cons (ve_op (opv_add rfl) (vv 3 (lo_none rfl)) ve_int) vl_nil)))))))))
noncomputable def f_string_at : VL.Env → M VL.Flow := fun ρ => seqM (liftS ρ (((rd 0 ρ) >>= fun x => ((rd 1 ρ) >>= fun x => ((pure k_MOST_LONG : M D) >>= fun x => (pure [] : M (List D)) >>= fun r => pure (x :: r)) >>= fun r => pure (x :: r)) >>= fun r => pure (x :: r)) >>= callM 3 m_length_at) fun d => liftT ((gT 2 (gsCons (gN 2) (gsCons (gN 1) gsNil))) d ρ) fun ρ1 => pure (VL.Flow.nx ρ1))
    (fun ρ => seqM (liftS ρ (tOr (((rd 2 ρ) >>= fun x => pure (isN x))) (((((rd 1 ρ) >>= fun x => (rd 2 ρ) >>= fun y => dAdd x y) >>= fun x => (((rd 0 ρ) >>= fun x => (pure [] : M (List D)) >>= fun r => pure (x :: r)) >>= lenD) >>= fun y => dGt x y) >>= asB))) fun k => if k then (liftS ρ (((pure D.non : M D) >>= fun x => ((((rd 2 ρ) >>= fun x => pure (isN x)) >>= fun k => if k then (rd 1 ρ) else (((rd 0 ρ) >>= fun x => (pure [] : M (List D)) >>= fun r => pure (x :: r)) >>= lenD)) >>= fun x => (pure [] : M (List D)) >>= fun r => pure (x :: r)) >>= fun r => pure (x :: r)) >>= mkTup) fun d => pure (VL.Flow.rt d)) else (pure (VL.Flow.nx ρ)))
    (fun ρ => liftS ρ ((((rd 0 ρ) >>= fun x => ((rd 1 ρ) >>= asPart) >>= fun l => (((rd 1 ρ) >>= fun x => (rd 2 ρ) >>= fun y => dAdd x y) >>= asPart) >>= fun h => dSl x l h) >>= fun x => (((rd 1 ρ) >>= fun x => (rd 2 ρ) >>= fun y => dAdd x y) >>= fun x => (pure [] : M (List D)) >>= fun r => pure (x :: r)) >>= fun r => pure (x :: r)) >>= mkTup) fun d => pure (VL.Flow.rt d)))
noncomputable def m_string_at : List D → M D := runF 3 f_string_at
theorem ok_string_at (T : Tp P w K mg) : FnOk P w K mg base (L2.CX P w) 2 T.a_string_at T.d_string_at ["text", "at"] (spD T.cn 2 m_string_at) :=
  fnv_ok (c := T.cn) T.F_string_at rfl sc_string_at fun cdv A outer s0 H E hr => (vb_cons (vs_asg (ve_call (ok_length_at T) (hr.mono (by decide)) (by rfl) T.g_length_at T.F_length_at.kp T.b_length_at (takes_of rfl rfl rfl rfl) (vl_cons (vv 0 (lo_none rfl)) (vl_cons (vv 1 (lo_none rfl)) (vl_cons (ve_glob (d := k_MOST_LONG) (by rfl) T.c_MOST_LONG T.r_MOST_LONG T.q_MOST_LONG) vl_nil))) (fun _ z => pe_callS (ok_length_at T) (hr.mono (by decide)) (by rfl) T.g_length_at T.F_length_at.kp T.b_length_at (fun σ => passAt (takes_of rfl rfl rfl rfl) σ) z)) (vg_tup rfl (vgs_cons (vg_name (i := 2) (lo_none rfl) (fun z => absurd rfl z) sc_string_at.nd rfl (Or.inl rfl)) (vgs_cons (vg_name (i := 1) (lo_none rfl) (fun z => absurd rfl z) sc_string_at.nd rfl (Or.inl rfl)) vgs_nil)) (fun _ z => pg_tup (by rfl) z)))
    (vb_cons (vs_if (vt_of (vw_or (vt_isN (vv 2 (lo_none rfl))) (vw_or1 (vt_cmp opv_gt (ve_op (opv_add rfl) (vv 1 (lo_none rfl)) (vv 2 (lo_none rfl))) (ve_callB (cv_len rfl) (by rfl) T.m_len (by decide +kernel) (vl_cons (vv 0 (lo_none rfl)) vl_nil) (fun _ _ p q => pe_callB p (by rfl) T.m_len (by decide +kernel) q)) (nomark _))))) (vb_one (vs_ret (ve_tup (vl_cons ve_non (vl_cons (ve_if (vt_isN (vv 2 (lo_none rfl))) (vv 1 (lo_none rfl)) (ve_callB (cv_len rfl) (by rfl) T.m_len (by decide +kernel) (vl_cons (vv 0 (lo_none rfl)) vl_nil) (fun _ _ p q => pe_callB p (by rfl) T.m_len (by decide +kernel) q))) vl_nil))))) vb_nil)
    (vb_one (vs_ret (ve_tup (vl_cons (ve_slice rfl (vv 0 (lo_none rfl)) (vo_some (vv 1 (lo_none rfl))) (vo_some (ve_op (opv_add rfl) (vv 1 (lo_none rfl)) (vv 2 (lo_none rfl))))) (vl_cons (ve_op (opv_add rfl) (vv 1 (lo_none rfl)) (vv 2 (lo_none rfl))) vl_nil)))))))
noncomputable def f_leaf_at : VL.Env → M VL.Flow := fun ρ => seqM (liftS ρ ((rd 0 ρ) >>= fun x => ((rd 1 ρ) >>= asPart) >>= fun l => (((rd 1 ρ) >>= fun x => (pure (D.int 1) : M D) >>= fun y => dAdd x y) >>= asPart) >>= fun h => dSl x l h) fun d => pure (VL.Flow.nx (ρ.set 2 (some d))))
    (fun ρ => seqM (liftS ρ (((rd 2 ρ) >>= fun x => (pure (D.str "n") : M D) >>= fun y => dEq x y) >>= asB) fun k => if k then (liftS ρ (((pure (D.bl true) : M D) >>= fun x => ((pure D.non : M D) >>= fun x => (((rd 1 ρ) >>= fun x => (pure (D.int 1) : M D) >>= fun y => dAdd x y) >>= fun x => (pure [] : M (List D)) >>= fun r => pure (x :: r)) >>= fun r => pure (x :: r)) >>= fun r => pure (x :: r)) >>= mkTup) fun d => pure (VL.Flow.rt d)) else (pure (VL.Flow.nx ρ)))
    (fun ρ => seqM (liftS ρ (((rd 2 ρ) >>= fun x => (((pure (D.str "i") : M D) >>= fun x => ((pure (D.str "s") : M D) >>= fun x => (pure [] : M (List D)) >>= fun r => pure (x :: r)) >>= fun r => pure (x :: r)) >>= mkTup) >>= fun y => dNinC x y) >>= asB) fun k => if k then (liftS ρ (((pure (D.bl false) : M D) >>= fun x => ((pure D.non : M D) >>= fun x => ((rd 1 ρ) >>= fun x => (pure [] : M (List D)) >>= fun r => pure (x :: r)) >>= fun r => pure (x :: r)) >>= fun r => pure (x :: r)) >>= mkTup) fun d => pure (VL.Flow.rt d)) else (pure (VL.Flow.nx ρ)))
    (fun ρ => seqM (liftS ρ ((((rd 2 ρ) >>= fun x => (pure (D.str "i") : M D) >>= fun y => dEq x y) >>= asB) >>= fun k => if k then (((rd 0 ρ) >>= fun x => (((rd 1 ρ) >>= fun x => (pure (D.int 1) : M D) >>= fun y => dAdd x y) >>= fun x => (pure [] : M (List D)) >>= fun r => pure (x :: r)) >>= fun r => pure (x :: r)) >>= callM 2 m_integer_at) else (((rd 0 ρ) >>= fun x => (((rd 1 ρ) >>= fun x => (pure (D.int 1) : M D) >>= fun y => dAdd x y) >>= fun x => (pure [] : M (List D)) >>= fun r => pure (x :: r)) >>= fun r => pure (x :: r)) >>= callM 2 m_string_at)) fun d => liftT ((gT 2 (gsCons (gN 3) (gsCons (gN 1) gsNil))) d ρ) fun ρ1 => pure (VL.Flow.nx ρ1))
    (fun ρ => liftS ρ ((((rd 3 ρ) >>= fun x => pure (D.bl (!isN x))) >>= fun x => ((rd 3 ρ) >>= fun x => ((rd 1 ρ) >>= fun x => (pure [] : M (List D)) >>= fun r => pure (x :: r)) >>= fun r => pure (x :: r)) >>= fun r => pure (x :: r)) >>= mkTup) fun d => pure (VL.Flow.rt d)))))
noncomputable def m_leaf_at : List D → M D := runF 4 f_leaf_at
theorem ok_leaf_at (T : Tp P w K mg) : FnOk P w K mg base (L2.CX P w) 3 T.a_leaf_at T.d_leaf_at ["text", "at"] (spD T.cn 2 m_leaf_at) :=
  fnv_ok (c := T.cn) T.F_leaf_at rfl sc_leaf_at fun cdv A outer s0 H E hr => (vb_cons (vs_set (i := 2) (lo_none rfl) (fun z => absurd rfl z) sc_leaf_at.nd rfl (Or.inl rfl) (ve_slice rfl (vv 0 (lo_none rfl)) (vo_some (vv 1 (lo_none rfl))) (vo_some (ve_op (opv_add rfl) (vv 1 (lo_none rfl)) ve_int))))
    (vb_cons (vs_if (vt_cmp (opv_eq rfl hr.units) (vv 2 (lo_none rfl)) ve_str (nomark _)) (vb_one (vs_ret (ve_tup (vl_cons ve_bl (vl_cons ve_non (vl_cons (ve_op (opv_add rfl) (vv 1 (lo_none rfl)) ve_int) vl_nil)))))) vb_nil)
    (vb_cons (vs_if (vt_cmp (opv_ninC rfl) (vv 2 (lo_none rfl)) (ve_tup (vl_cons ve_str (vl_cons ve_str vl_nil))) (by rfl)) (vb_one (vs_ret (ve_tup (vl_cons ve_bl (vl_cons ve_non (vl_cons (vv 1 (lo_none rfl)) vl_nil)))))) vb_nil)
    (vb_cons (vs_asg (ve_if (vt_cmp (opv_eq rfl hr.units) (vv 2 (lo_none rfl)) ve_str (nomark _)) (ve_call (ok_integer_at T) (hr.mono (by decide)) (by rfl) T.g_integer_at T.F_integer_at.kp T.b_integer_at (takes_of rfl rfl rfl rfl) (vl_cons (vv 0 (lo_none rfl)) (vl_cons (ve_op (opv_add rfl) (vv 1 (lo_none rfl)) ve_int) vl_nil)) (fun _ z => pe_callS (ok_integer_at T) (hr.mono (by decide)) (by rfl) T.g_integer_at T.F_integer_at.kp T.b_integer_at (fun σ => passAt (takes_of rfl rfl rfl rfl) σ) z)) (ve_call (ok_string_at T) (hr.mono (by decide)) (by rfl) T.g_string_at T.F_string_at.kp T.b_string_at (takes_of rfl rfl rfl rfl) (vl_cons (vv 0 (lo_none rfl)) (vl_cons (ve_op (opv_add rfl) (vv 1 (lo_none rfl)) ve_int) vl_nil)) (fun _ z => pe_callS (ok_string_at T) (hr.mono (by decide)) (by rfl) T.g_string_at T.F_string_at.kp T.b_string_at (fun σ => passAt (takes_of rfl rfl rfl rfl) σ) z))) (vg_tup rfl (vgs_cons (vg_name (i := 3) (lo_none rfl) (fun z => absurd rfl z) sc_leaf_at.nd rfl (Or.inl rfl)) (vgs_cons (vg_name (i := 1) (lo_none rfl) (fun z => absurd rfl z) sc_leaf_at.nd rfl (Or.inl rfl)) vgs_nil)) (fun _ z => pg_tup (by rfl) z)))
    (vb_one (vs_ret (ve_tup (vl_cons (ve_notN (vv 3 (lo_none rfl))) (vl_cons (vv 3 (lo_none rfl)) (vl_cons (vv 1 (lo_none rfl)) vl_nil))))))))))
noncomputable def f_value_in : VL.Env → M VL.Flow := fun ρ => seqM (liftS ρ ((((pure [] : M (List D)) >>= mkNew) >>= fun x => (((pure [] : M (List D)) >>= mkNew) >>= fun x => ((pure (D.int 0) : M D) >>= fun x => ((pure (D.bl false) : M D) >>= fun x => (pure [] : M (List D)) >>= fun r => pure (x :: r)) >>= fun r => pure (x :: r)) >>= fun r => pure (x :: r)) >>= fun r => pure (x :: r)) >>= mkTup) fun d => liftT ((gT 4 (gsCons (gN 1) (gsCons (gN 2) (gsCons (gN 3) (gsCons (gN 4) gsNil))))) d ρ) fun ρ1 => pure (VL.Flow.nx ρ1))
    (fun ρ => seqM (whileF 2000 (fun ρ => (tOr ((((rd 4 ρ) >>= asB) >>= fun b => pure (!b))) ((((rd 1 ρ) >>= fun x => ((pure [] : M (List D)) >>= mkNew) >>= fun y => dNe2 x y) >>= asB)))) (fun ρ => seqM (liftS ρ (pure (D.bl true) : M D) fun d => pure (VL.Flow.nx (ρ.set 4 (some d))))
    (fun ρ => seqM (liftS ρ (tAnd (((((rd 0 ρ) >>= fun x => ((rd 3 ρ) >>= asPart) >>= fun l => (((rd 3 ρ) >>= fun x => (pure (D.int 1) : M D) >>= fun y => dAdd x y) >>= asPart) >>= fun h => dSl x l h) >>= fun x => (pure (D.str "t") : M D) >>= fun y => dEq x y) >>= asB)) ((((((rd 1 ρ) >>= fun x => (pure [] : M (List D)) >>= fun r => pure (x :: r)) >>= lenD) >>= fun x => (pure k_MOST_DEEP : M D) >>= fun y => dLt x y) >>= asB))) fun k => if k then (seqM (liftS ρ (((rd 0 ρ) >>= fun x => (((rd 3 ρ) >>= fun x => (pure (D.int 1) : M D) >>= fun y => dAdd x y) >>= fun x => ((pure k_MOST_LONG : M D) >>= fun x => (pure [] : M (List D)) >>= fun r => pure (x :: r)) >>= fun r => pure (x :: r)) >>= fun r => pure (x :: r)) >>= callM 3 m_length_at) fun d => liftT ((gT 2 (gsCons (gN 5) (gsCons (gN 3) gsNil))) d ρ) fun ρ1 => pure (VL.Flow.nx ρ1))
    (fun ρ => seqM (liftS ρ ((rd 5 ρ) >>= fun x => pure (isN x)) fun k => if k then (liftS ρ (((pure (D.bl false) : M D) >>= fun x => ((rd 3 ρ) >>= fun x => (pure [] : M (List D)) >>= fun r => pure (x :: r)) >>= fun r => pure (x :: r)) >>= mkTup) fun d => pure (VL.Flow.rt d)) else (pure (VL.Flow.nx ρ)))
    (fun ρ => seqM (liftS ρ ((rd 1 ρ) >>= fun x => tyM "list" x >>= fun _ => (((pure [] : M (List D)) >>= mkNew) >>= fun x => (pure [] : M (List D)) >>= fun r => pure (x :: r)) >>= fun xs => appM x xs) fun _ => pure (VL.Flow.nx ρ))
    (fun ρ => seqM (liftS ρ ((rd 2 ρ) >>= fun x => tyM "list" x >>= fun _ => ((rd 5 ρ) >>= fun x => (pure [] : M (List D)) >>= fun r => pure (x :: r)) >>= fun xs => appM x xs) fun _ => pure (VL.Flow.nx ρ))
    (fun ρ => liftS ρ (pure D.non : M D) fun d => pure (VL.Flow.nx (ρ.set 6 (some d)))))))) else (seqM (liftS ρ (((rd 0 ρ) >>= fun x => ((rd 3 ρ) >>= fun x => (pure [] : M (List D)) >>= fun r => pure (x :: r)) >>= fun r => pure (x :: r)) >>= callM 2 m_leaf_at) fun d => liftT ((gT 3 (gsCons (gN 7) (gsCons (gN 6) (gsCons (gN 3) gsNil)))) d ρ) fun ρ1 => pure (VL.Flow.nx ρ1))
    (fun ρ => seqM (liftS ρ (((rd 7 ρ) >>= asB) >>= fun b => pure (!b)) fun k => if k then (liftS ρ (((pure (D.bl false) : M D) >>= fun x => ((rd 3 ρ) >>= fun x => (pure [] : M (List D)) >>= fun r => pure (x :: r)) >>= fun r => pure (x :: r)) >>= mkTup) fun d => pure (VL.Flow.rt d)) else (pure (VL.Flow.nx ρ)))
    (fun ρ => seqM (liftS ρ (((rd 1 ρ) >>= fun x => ((pure [] : M (List D)) >>= mkNew) >>= fun y => dEq2 x y) >>= asB) fun k => if k then (liftS ρ ((((rd 3 ρ) >>= fun x => (((rd 0 ρ) >>= fun x => (pure [] : M (List D)) >>= fun r => pure (x :: r)) >>= lenD) >>= fun y => dEq x y) >>= fun x => (((((rd 3 ρ) >>= fun x => (((rd 0 ρ) >>= fun x => (pure [] : M (List D)) >>= fun r => pure (x :: r)) >>= lenD) >>= fun y => dEq x y) >>= asB) >>= fun k => if k then (rd 6 ρ) else (rd 3 ρ)) >>= fun x => (pure [] : M (List D)) >>= fun r => pure (x :: r)) >>= fun r => pure (x :: r)) >>= mkTup) fun d => pure (VL.Flow.rt d)) else (pure (VL.Flow.nx ρ)))
    (fun ρ => seqM (liftS ρ (((rd 1 ρ) >>= fun x => ((pure (D.int 1) : M D) >>= negD) >>= fun y => dIx x y) >>= fun x => tyM "list" x >>= fun _ => ((rd 6 ρ) >>= fun x => (pure [] : M (List D)) >>= fun r => pure (x :: r)) >>= fun xs => appM x xs) fun _ => pure (VL.Flow.nx ρ))
    (fun ρ => liftS ρ ((rd 2 ρ) >>= fun x => ((pure (D.int 1) : M D) >>= negD) >>= fun y => getIx x y >>= fun old => (pure (D.int 1) : M D) >>= fun z => (intOp0 fun i j => D.int (i - j)) old z >>= fun w => setIx x y w) fun _ => pure (VL.Flow.nx ρ)))))))
    (fun ρ => whileF 2000 (fun ρ => (tAnd ((((rd 2 ρ) >>= fun x => ((pure [] : M (List D)) >>= mkNew) >>= fun y => dNe x y) >>= asB)) (((((rd 2 ρ) >>= fun x => ((pure (D.int 1) : M D) >>= negD) >>= fun y => dIx x y) >>= fun x => (pure (D.int 0) : M D) >>= fun y => dEq x y) >>= asB)))) (fun ρ => seqM (liftS ρ ((((rd 1 ρ) >>= fun x => tyM "list" x >>= fun _ => popM x []) >>= fun x => (pure [] : M (List D)) >>= fun r => pure (x :: r)) >>= tupleD) fun d => pure (VL.Flow.nx (ρ.set 6 (some d))))
    (fun ρ => seqM (liftS ρ ((rd 2 ρ) >>= fun x => tyM "list" x >>= fun _ => popM x []) fun _ => pure (VL.Flow.nx ρ))
    (fun ρ => liftS ρ (((rd 1 ρ) >>= fun x => ((pure [] : M (List D)) >>= mkNew) >>= fun y => dNe2 x y) >>= asB) fun k => if k then (seqM (liftS ρ (((rd 1 ρ) >>= fun x => ((pure (D.int 1) : M D) >>= negD) >>= fun y => dIx x y) >>= fun x => tyM "list" x >>= fun _ => ((rd 6 ρ) >>= fun x => (pure [] : M (List D)) >>= fun r => pure (x :: r)) >>= fun xs => appM x xs) fun _ => pure (VL.Flow.nx ρ))
    (fun ρ => liftS ρ ((rd 2 ρ) >>= fun x => ((pure (D.int 1) : M D) >>= negD) >>= fun y => getIx x y >>= fun old => (pure (D.int 1) : M D) >>= fun z => (intOp0 fun i j => D.int (i - j)) old z >>= fun w => setIx x y w) fun _ => pure (VL.Flow.nx ρ))) else (pure (VL.Flow.nx ρ))))) ρ))) ρ)
    (fun ρ => liftS ρ ((((rd 3 ρ) >>= fun x => (((rd 0 ρ) >>= fun x => (pure [] : M (List D)) >>= fun r => pure (x :: r)) >>= lenD) >>= fun y => dEq x y) >>= fun x => (((((rd 3 ρ) >>= fun x => (((rd 0 ρ) >>= fun x => (pure [] : M (List D)) >>= fun r => pure (x :: r)) >>= lenD) >>= fun y => dEq x y) >>= asB) >>= fun k => if k then (rd 6 ρ) else (rd 3 ρ)) >>= fun x => (pure [] : M (List D)) >>= fun r => pure (x :: r)) >>= fun r => pure (x :: r)) >>= mkTup) fun d => pure (VL.Flow.rt d)))
noncomputable def m_value_in : List D → M D := runF 8 f_value_in
theorem ok_value_in (T : Tp P w K mg) : FnOk P w K mg base (L2.CX P w) 4 T.a_value_in T.d_value_in ["text"] (spD T.cn 1 m_value_in) :=
  fnv_ok (c := T.cn) T.F_value_in rfl sc_value_in fun cdv A outer s0 H E hr => (vb_cons (vs_asg (ve_tup (vl_cons (ve_lstM vl_nil) (vl_cons (ve_lstM vl_nil) (vl_cons ve_int (vl_cons ve_bl vl_nil))))) (vg_tup rfl (vgs_cons (vg_name (i := 1) (lo_none rfl) (fun z => absurd rfl z) sc_value_in.nd rfl (Or.inl rfl)) (vgs_cons (vg_name (i := 2) (lo_none rfl) (fun z => absurd rfl z) sc_value_in.nd rfl (Or.inl rfl)) (vgs_cons (vg_name (i := 3) (lo_none rfl) (fun z => absurd rfl z) sc_value_in.nd rfl (Or.inl rfl)) (vgs_cons (vg_name (i := 4) (lo_none rfl) (fun z => absurd rfl z) sc_value_in.nd rfl (Or.inl rfl)) vgs_nil)))) (fun _ z => pg_tup (by rfl) z)))
    (vb_cons (vs_whileN 2000 (vt_of (vw_or (vt_not (vt_val (vv 4 (lo_none rfl)))) (vw_or1 (vt_cmp (opv_ne2 rfl hr.units) (vv 1 (lo_none rfl)) (ve_lstM vl_nil) (nomark _))))) (vb_cons (vs_set (i := 4) (lo_none rfl) (fun z => absurd rfl z) sc_value_in.nd rfl (Or.inl rfl) ve_bl)
    (vb_cons (vs_if (vt_of (vw_and (vt_cmp (opv_eq rfl hr.units) (ve_slice rfl (vv 0 (lo_none rfl)) (vo_some (vv 3 (lo_none rfl))) (vo_some (ve_op (opv_add rfl) (vv 3 (lo_none rfl)) ve_int))) ve_str (nomark _)) (vw_and1 (vt_cmp opv_lt (ve_callB (cv_len rfl) (by rfl) T.m_len (by decide +kernel) (vl_cons (vv 1 (lo_none rfl)) vl_nil) (fun _ _ p q => pe_callB p (by rfl) T.m_len (by decide +kernel) q)) (ve_glob (d := k_MOST_DEEP) (by rfl) T.c_MOST_DEEP T.r_MOST_DEEP T.q_MOST_DEEP) (nomark _))))) (vb_cons (vs_asg (ve_call (ok_length_at T) (hr.mono (by decide)) (by rfl) T.g_length_at T.F_length_at.kp T.b_length_at (takes_of rfl rfl rfl rfl) (vl_cons (vv 0 (lo_none rfl)) (vl_cons (ve_op (opv_add rfl) (vv 3 (lo_none rfl)) ve_int) (vl_cons (ve_glob (d := k_MOST_LONG) (by rfl) T.c_MOST_LONG T.r_MOST_LONG T.q_MOST_LONG) vl_nil))) (fun _ z => pe_callS (ok_length_at T) (hr.mono (by decide)) (by rfl) T.g_length_at T.F_length_at.kp T.b_length_at (fun σ => passAt (takes_of rfl rfl rfl rfl) σ) z)) (vg_tup rfl (vgs_cons (vg_name (i := 5) (lo_none rfl) (fun z => absurd rfl z) sc_value_in.nd rfl (Or.inl rfl)) (vgs_cons (vg_name (i := 3) (lo_none rfl) (fun z => absurd rfl z) sc_value_in.nd rfl (Or.inl rfl)) vgs_nil)) (fun _ z => pg_tup (by rfl) z)))
    (vb_cons (vs_if (vt_isN (vv 5 (lo_none rfl))) (vb_one (vs_ret (ve_tup (vl_cons ve_bl (vl_cons (vv 3 (lo_none rfl)) vl_nil))))) vb_nil)
    (vb_cons (vs_expr (ve_bm rfl PySem.F.plainAttrs_list PySem.F.slot_list_append PySem.F.type_list_append mv_append (vv 1 (lo_none rfl)) (vl_cons (ve_lstM vl_nil) vl_nil) (fun _ _ _ p q z => pe_bm PySem.F.plainAttrs_list PySem.F.slot_list_append PySem.F.type_list_append p q z)))
    (vb_cons (vs_expr (ve_bm rfl PySem.F.plainAttrs_list PySem.F.slot_list_append PySem.F.type_list_append mv_append (vv 2 (lo_none rfl)) (vl_cons (vv 5 (lo_none rfl)) vl_nil) (fun _ _ _ p q z => pe_bm PySem.F.plainAttrs_list PySem.F.slot_list_append PySem.F.type_list_append p q z)))
    (vb_one (vs_set (i := 6) (lo_none rfl) (fun z => absurd rfl z) sc_value_in.nd rfl (Or.inl rfl) ve_non)))))) (vb_cons (vs_asg (ve_call (ok_leaf_at T) (hr.mono (by decide)) (by rfl) T.g_leaf_at T.F_leaf_at.kp T.b_leaf_at (takes_of rfl rfl rfl rfl) (vl_cons (vv 0 (lo_none rfl)) (vl_cons (vv 3 (lo_none rfl)) vl_nil)) (fun _ z => pe_callS (ok_leaf_at T) (hr.mono (by decide)) (by rfl) T.g_leaf_at T.F_leaf_at.kp T.b_leaf_at (fun σ => passAt (takes_of rfl rfl rfl rfl) σ) z)) (vg_tup rfl (vgs_cons (vg_name (i := 7) (lo_none rfl) (fun z => absurd rfl z) sc_value_in.nd rfl (Or.inl rfl)) (vgs_cons (vg_name (i := 6) (lo_none rfl) (fun z => absurd rfl z) sc_value_in.nd rfl (Or.inl rfl)) (vgs_cons (vg_name (i := 3) (lo_none rfl) (fun z => absurd rfl z) sc_value_in.nd rfl (Or.inl rfl)) vgs_nil))) (fun _ z => pg_tup (by rfl) z)))
    (vb_cons (vs_if (vt_not (vt_val (vv 7 (lo_none rfl)))) (vb_one (vs_ret (ve_tup (vl_cons ve_bl (vl_cons (vv 3 (lo_none rfl)) vl_nil))))) vb_nil)
    (vb_cons (vs_if (vt_cmp (opv_eq2 rfl hr.units) (vv 1 (lo_none rfl)) (ve_lstM vl_nil) (nomark _)) (vb_one (vs_ret (ve_tup (vl_cons (ve_cmp (opv_eq rfl hr.units) (vv 3 (lo_none rfl)) (ve_callB (cv_len rfl) (by rfl) T.m_len (by decide +kernel) (vl_cons (vv 0 (lo_none rfl)) vl_nil) (fun _ _ p q => pe_callB p (by rfl) T.m_len (by decide +kernel) q)) (nomark _)) (vl_cons (ve_if (vt_cmp (opv_eq rfl hr.units) (vv 3 (lo_none rfl)) (ve_callB (cv_len rfl) (by rfl) T.m_len (by decide +kernel) (vl_cons (vv 0 (lo_none rfl)) vl_nil) (fun _ _ p q => pe_callB p (by rfl) T.m_len (by decide +kernel) q)) (nomark _)) (vv 6 (lo_none rfl)) (vv 3 (lo_none rfl))) vl_nil))))) vb_nil)
    (vb_cons (vs_expr (ve_bm rfl PySem.F.plainAttrs_list PySem.F.slot_list_append PySem.F.type_list_append mv_append (ve_ix rfl (vv 1 (lo_none rfl)) (ve_neg ve_int) (fun _ _ => rfl)) (vl_cons (vv 6 (lo_none rfl)) vl_nil) (fun _ _ _ p q z => pe_bm PySem.F.plainAttrs_list PySem.F.slot_list_append PySem.F.type_list_append p q z)))
    (vb_one (vs_augIx rfl (vv 2 (lo_none rfl)) (ve_neg ve_int) ve_int ipv_sub (fun p q r s => ps_augS p q get_list r s set_list))))))))
    (vb_one (vs_whileN 2000 (vt_of (vw_and (vt_cmp (opv_ne rfl hr.units) (vv 2 (lo_none rfl)) (ve_lstM vl_nil) (nomark _)) (vw_and1 (vt_cmp (opv_eq rfl hr.units) (ve_ix rfl (vv 2 (lo_none rfl)) (ve_neg ve_int) (fun _ _ => rfl)) ve_int (nomark _))))) (vb_cons (vs_set (i := 6) (lo_none rfl) (fun z => absurd rfl z) sc_value_in.nd rfl (Or.inl rfl) (ve_callT (cv_tuple rfl) (by rfl) T.m_tuple (by decide +kernel) (vl_cons (ve_bm0 rfl PySem.F.plainAttrs_list PySem.F.slot_list_pop PySem.F.type_list_pop mv_pop (vv 1 (lo_none rfl)) (fun _ _ p q => pe_bm0 PySem.F.plainAttrs_list PySem.F.slot_list_pop PySem.F.type_list_pop p q)) vl_nil) (fun _ _ p q => pe_callTy p (by rfl) T.m_tuple (by decide +kernel) q)))
    (vb_cons (vs_expr (ve_bm0 rfl PySem.F.plainAttrs_list PySem.F.slot_list_pop PySem.F.type_list_pop mv_pop (vv 2 (lo_none rfl)) (fun _ _ p q => pe_bm0 PySem.F.plainAttrs_list PySem.F.slot_list_pop PySem.F.type_list_pop p q)))
    (vb_one (vs_if (vt_cmp (opv_ne2 rfl hr.units) (vv 1 (lo_none rfl)) (ve_lstM vl_nil) (nomark _)) (vb_cons (vs_expr (ve_bm rfl PySem.F.plainAttrs_list PySem.F.slot_list_append PySem.F.type_list_append mv_append (ve_ix rfl (vv 1 (lo_none rfl)) (ve_neg ve_int) (fun _ _ => rfl)) (vl_cons (vv 6 (lo_none rfl)) vl_nil) (fun _ _ _ p q z => pe_bm PySem.F.plainAttrs_list PySem.F.slot_list_append PySem.F.type_list_append p q z)))
    (vb_one (vs_augIx rfl (vv 2 (lo_none rfl)) (ve_neg ve_int) ve_int ipv_sub (fun p q r s => ps_augS p q get_list r s set_list)))) vb_nil)))) (fun _ _ p q => ps_while (passes_of rfl) p q))))) (fun _ _ p q => ps_while (passes_of rfl) p q))
    (vb_one (vs_ret (ve_tup (vl_cons (ve_cmp (opv_eq rfl hr.units) (vv 3 (lo_none rfl)) (ve_callB (cv_len rfl) (by rfl) T.m_len (by decide +kernel) (vl_cons (vv 0 (lo_none rfl)) vl_nil) (fun _ _ p q => pe_callB p (by rfl) T.m_len (by decide +kernel) q)) (nomark _)) (vl_cons (ve_if (vt_cmp (opv_eq rfl hr.units) (vv 3 (lo_none rfl)) (ve_callB (cv_len rfl) (by rfl) T.m_len (by decide +kernel) (vl_cons (vv 0 (lo_none rfl)) vl_nil) (fun _ _ p q => pe_callB p (by rfl) T.m_len (by decide +kernel) q)) (nomark _)) (vv 6 (lo_none rfl)) (vv 3 (lo_none rfl))) vl_nil)))))))
noncomputable def f_value_of : VL.Env → M VL.Flow := fun ρ => seqM (liftS ρ (((rd 0 ρ) >>= fun x => (pure [] : M (List D)) >>= fun r => pure (x :: r)) >>= callM 1 m_require_text) fun _ => pure (VL.Flow.nx ρ))
    (fun ρ => seqM (liftS ρ (((rd 0 ρ) >>= fun x => (pure [] : M (List D)) >>= fun r => pure (x :: r)) >>= callM 1 m_value_in) fun d => liftT ((gT 2 (gsCons (gN 1) (gsCons (gN 2) gsNil))) d ρ) fun ρ1 => pure (VL.Flow.nx ρ1))
    (fun ρ => seqM (liftS ρ (((rd 1 ρ) >>= asB) >>= fun b => pure (!b)) fun k => if k then (liftS ρ ((rd 2 ρ) >>= fun x => (pure [] : M (List D)) >>= fun r => pure (x :: r)) (xcF "ParseError" "spot" ρ)) else (pure (VL.Flow.nx ρ)))
    (fun ρ => liftS ρ (rd 2 ρ) fun d => pure (VL.Flow.rt d))))
noncomputable def m_value_of : List D → M D := runF 3 f_value_of
theorem ok_value_of (T : Tp P w K mg) : FnOk P w K mg base (L2.CX P w) 5 T.a_value_of T.d_value_of ["text"] (spD T.cn 1 m_value_of) :=
  fnv_ok (c := T.cn) T.F_value_of rfl sc_value_of fun cdv A outer s0 H E hr => (vb_cons (vs_expr (ve_call (ok_require_text T) (hr.mono (by decide)) (by rfl) T.g_require_text T.F_require_text.kp T.b_require_text (takes_of rfl rfl rfl rfl) (vl_cons (vv 0 (lo_none rfl)) vl_nil) (fun _ z => pe_callS (ok_require_text T) (hr.mono (by decide)) (by rfl) T.g_require_text T.F_require_text.kp T.b_require_text (fun σ => passAt (takes_of rfl rfl rfl rfl) σ) z)))
    (vb_cons (vs_asg (ve_call (ok_value_in T) (hr.mono (by decide)) (by rfl) T.g_value_in T.F_value_in.kp T.b_value_in (takes_of rfl rfl rfl rfl) (vl_cons (vv 0 (lo_none rfl)) vl_nil) (fun _ z => pe_callS (ok_value_in T) (hr.mono (by decide)) (by rfl) T.g_value_in T.F_value_in.kp T.b_value_in (fun σ => passAt (takes_of rfl rfl rfl rfl) σ) z)) (vg_tup rfl (vgs_cons (vg_name (i := 1) (lo_none rfl) (fun z => absurd rfl z) sc_value_of.nd rfl (Or.inl rfl)) (vgs_cons (vg_name (i := 2) (lo_none rfl) (fun z => absurd rfl z) sc_value_of.nd rfl (Or.inl rfl)) vgs_nil)) (fun _ z => pg_tup (by rfl) z)))
    (vb_cons (vs_if (vt_not (vt_val (vv 1 (lo_none rfl)))) (vb_one (vs_raiseF (C := "ParseError") (fld := "spot") rfl (takes_of rfl rfl rfl rfl) (vl_cons (vv 2 (lo_none rfl)) vl_nil) (fun _ z => pmk_fld T.es_ParseError T.gx_ParseError T.kx_ParseError (raises_own T.bx_ParseError T.tx_ParseError) hr z (by rfl)))) vb_nil)
    (vb_one (vs_ret (vv 2 (lo_none rfl)))))))
noncomputable def f_are_key_words : VL.Env → M VL.Flow := fun ρ => seqM (liftS ρ (tOr ((((((rd 0 ρ) >>= fun x => ((pure (D.ty "tuple") : M D) >>= fun x => (pure [] : M (List D)) >>= fun r => pure (x :: r)) >>= fun r => pure (x :: r)) >>= (isiO ownL)) >>= asB) >>= fun b => pure (!b))) ((((((rd 0 ρ) >>= fun x => (pure [] : M (List D)) >>= fun r => pure (x :: r)) >>= lenD) >>= fun x => (pure k_MOST_WORDS : M D) >>= fun y => dGt x y) >>= asB))) fun k => if k then (liftS ρ (pure (D.bl false) : M D) fun d => pure (VL.Flow.rt d)) else (pure (VL.Flow.nx ρ)))
    (fun ρ => liftS ρ (((((rd 0 ρ) >>= itOf) >>= fun it => ask (small it.items.length) >>= fun _ => loopC it (gN 1) (fun _ => pure true) (fun ρ => (((rd 1 ρ) >>= fun x => ((pure (D.int 0) : M D) >>= fun x => ((pure k_MOST_KEYS : M D) >>= fun x => (pure [] : M (List D)) >>= fun r => pure (x :: r)) >>= fun r => pure (x :: r)) >>= fun r => pure (x :: r)) >>= callM 3 m_is_from)) (wipeE ρ [1]) it.items [] >>= frzL) >>= fun x => (pure [] : M (List D)) >>= fun r => pure (x :: r)) >>= (allD fun bs => bs.all id)) fun d => pure (VL.Flow.rt d))
noncomputable def m_are_key_words : List D → M D := runF 2 f_are_key_words
theorem ok_are_key_words (T : Tp P w K mg) : FnOk P w K mg base (L2.CX P w) 3 T.a_are_key_words T.d_are_key_words ["value"] (spD T.cn 1 m_are_key_words) :=
  fnv_ok (c := T.cn) T.F_are_key_words rfl sc_are_key_words fun cdv A outer s0 H E hr => (vb_cons (vs_if (vt_of (vw_or (vt_not (vt_val (ve_callB (cv_isiO rfl T.ownK) (by rfl) T.m_isinstance (by decide +kernel) (vl_cons (vv 0 (lo_none rfl)) (vl_cons (ve_bltn (n := "tuple") (by rfl) T.m_tuple (by decide +kernel)) vl_nil)) (fun _ _ p q => pe_callB p (by rfl) T.m_isinstance (by decide +kernel) q)))) (vw_or1 (vt_cmp opv_gt (ve_callB (cv_len rfl) (by rfl) T.m_len (by decide +kernel) (vl_cons (vv 0 (lo_none rfl)) vl_nil) (fun _ _ p q => pe_callB p (by rfl) T.m_len (by decide +kernel) q)) (ve_glob (d := k_MOST_WORDS) (by rfl) T.c_MOST_WORDS T.r_MOST_WORDS T.q_MOST_WORDS) (nomark _))))) (vb_one (vs_ret ve_bl)) vb_nil)
    (vb_one (vs_ret (ve_callB (cv_all rfl rfl) (by rfl) T.m_all (by decide +kernel) (vl_cons (ve_lc fin_frz (own := [("word", 1)]) (fun i hi => ⟨lo_none rfl, fun z => absurd rfl z⟩) (by rfl) sc_are_key_words.nd (blkOk_by (own := [("word", 1)]) (N := N_are_key_words) (sc := defScope s_are_key_words) (by decide +kernel)) (vi_seq rfl (vv 0 (lo_none rfl))) (fun _ _ _ _ _ => (vg_name (i := 1) (lo_none rfl) (fun z => absurd rfl z) sc_are_key_words.nd rfl (Or.inl rfl))) (fun _ _ _ _ _ => vts_nil) (fun _ _ _ _ _ => (ve_call (ok_is_from T) (hr.mono (by decide)) (by rfl) T.g_is_from T.F_is_from.kp T.b_is_from takes_none5 (vl_cons (vv 1 (lo_none rfl)) (vl_cons ve_int (vl_cons (ve_glob (d := k_MOST_KEYS) (by rfl) T.c_MOST_KEYS T.r_MOST_KEYS T.q_MOST_KEYS) vl_nil))) (fun _ z => pe_callS (ok_is_from T) (hr.mono (by decide)) (by rfl) T.g_is_from T.F_is_from.kp T.b_is_from (fun σ => passAt takes_none5 σ) z))) (by decide)) vl_nil) (fun _ _ p q => pe_callB p (by rfl) T.m_all (by decide +kernel) q)))))
noncomputable def f_is_joint : VL.Env → M VL.Flow := fun ρ => seqM (liftS ρ (tOr ((((((rd 0 ρ) >>= fun x => ((pure (D.ty "tuple") : M D) >>= fun x => (pure [] : M (List D)) >>= fun r => pure (x :: r)) >>= fun r => pure (x :: r)) >>= (isiO ownL)) >>= asB) >>= fun b => pure (!b))) ((((((rd 0 ρ) >>= fun x => (pure [] : M (List D)) >>= fun r => pure (x :: r)) >>= lenD) >>= fun x => (rd 1 ρ) >>= fun y => dNe x y) >>= asB))) fun k => if k then (liftS ρ (pure (D.bl false) : M D) fun d => pure (VL.Flow.rt d)) else (pure (VL.Flow.nx ρ)))
    (fun ρ => liftS ρ (((((rd 0 ρ) >>= itOf) >>= fun it => ask (small it.items.length) >>= fun _ => loopC it (gN 2) (fun _ => pure true) (fun ρ => (((rd 2 ρ) >>= fun x => ((pure k_ABSENT : M D) >>= fun x => ((pure k_MOST_ENTRY : M D) >>= fun x => (pure [] : M (List D)) >>= fun r => pure (x :: r)) >>= fun r => pure (x :: r)) >>= fun r => pure (x :: r)) >>= callM 3 m_is_from)) (wipeE ρ [2]) it.items [] >>= frzL) >>= fun x => (pure [] : M (List D)) >>= fun r => pure (x :: r)) >>= (allD fun bs => bs.all id)) fun d => pure (VL.Flow.rt d))
noncomputable def m_is_joint : List D → M D := runF 3 f_is_joint
theorem ok_is_joint (T : Tp P w K mg) : FnOk P w K mg base (L2.CX P w) 3 T.a_is_joint T.d_is_joint ["value", "size"] (spD T.cn 2 m_is_joint) :=
  fnv_ok (c := T.cn) T.F_is_joint rfl sc_is_joint fun cdv A outer s0 H E hr => (vb_cons (vs_if (vt_of (vw_or (vt_not (vt_val (ve_callB (cv_isiO rfl T.ownK) (by rfl) T.m_isinstance (by decide +kernel) (vl_cons (vv 0 (lo_none rfl)) (vl_cons (ve_bltn (n := "tuple") (by rfl) T.m_tuple (by decide +kernel)) vl_nil)) (fun _ _ p q => pe_callB p (by rfl) T.m_isinstance (by decide +kernel) q)))) (vw_or1 (vt_cmp (opv_ne rfl hr.units) (ve_callB (cv_len rfl) (by rfl) T.m_len (by decide +kernel) (vl_cons (vv 0 (lo_none rfl)) vl_nil) (fun _ _ p q => pe_callB p (by rfl) T.m_len (by decide +kernel) q)) (vv 1 (lo_none rfl)) (nomark _))))) (vb_one (vs_ret ve_bl)) vb_nil)
    (vb_one (vs_ret (ve_callB (cv_all rfl rfl) (by rfl) T.m_all (by decide +kernel) (vl_cons (ve_lc fin_frz (own := [("entry", 2)]) (fun i hi => ⟨lo_none rfl, fun z => absurd rfl z⟩) (by rfl) sc_is_joint.nd (blkOk_by (own := [("entry", 2)]) (N := N_is_joint) (sc := defScope s_is_joint) (by decide +kernel)) (vi_seq rfl (vv 0 (lo_none rfl))) (fun _ _ _ _ _ => (vg_name (i := 2) (lo_none rfl) (fun z => absurd rfl z) sc_is_joint.nd rfl (Or.inl rfl))) (fun _ _ _ _ _ => vts_nil) (fun _ _ _ _ _ => (ve_call (ok_is_from T) (hr.mono (by decide)) (by rfl) T.g_is_from T.F_is_from.kp T.b_is_from takes_none5 (vl_cons (vv 2 (lo_none rfl)) (vl_cons (ve_glob (d := k_ABSENT) (by rfl) T.c_ABSENT T.r_ABSENT T.q_ABSENT) (vl_cons (ve_glob (d := k_MOST_ENTRY) (by rfl) T.c_MOST_ENTRY T.r_MOST_ENTRY T.q_MOST_ENTRY) vl_nil))) (fun _ z => pe_callS (ok_is_from T) (hr.mono (by decide)) (by rfl) T.g_is_from T.F_is_from.kp T.b_is_from (fun σ => passAt takes_none5 σ) z))) (by decide)) vl_nil) (fun _ _ p q => pe_callB p (by rfl) T.m_all (by decide +kernel) q)))))
noncomputable def f_are_joints : VL.Env → M VL.Flow := fun ρ => seqM (liftS ρ (tOr ((((((rd 0 ρ) >>= fun x => ((pure (D.ty "tuple") : M D) >>= fun x => (pure [] : M (List D)) >>= fun r => pure (x :: r)) >>= fun r => pure (x :: r)) >>= (isiO ownL)) >>= asB) >>= fun b => pure (!b))) ((((((rd 0 ρ) >>= fun x => (pure [] : M (List D)) >>= fun r => pure (x :: r)) >>= lenD) >>= fun x => (pure k_MOST_STRETCH : M D) >>= fun y => dGt x y) >>= asB))) fun k => if k then (liftS ρ (pure (D.bl false) : M D) fun d => pure (VL.Flow.rt d)) else (pure (VL.Flow.nx ρ)))
    (fun ρ => seqM (liftS ρ (((rd 0 ρ) >>= fun x => ((pure [] : M (List D)) >>= mkTup) >>= fun y => dEq x y) >>= asB) fun k => if k then (liftS ρ (pure (D.bl true) : M D) fun d => pure (VL.Flow.rt d)) else (pure (VL.Flow.nx ρ)))
    (fun ρ => seqM (liftS ρ (tOr (((((((rd 0 ρ) >>= fun x => (pure (D.int 0) : M D) >>= fun y => dIx x y) >>= fun x => ((pure (D.ty "tuple") : M D) >>= fun x => (pure [] : M (List D)) >>= fun r => pure (x :: r)) >>= fun r => pure (x :: r)) >>= (isiO ownL)) >>= asB) >>= fun b => pure (!b))) (((((pure (D.int 1) : M D) >>= fun x => ((((rd 0 ρ) >>= fun x => (pure (D.int 0) : M D) >>= fun y => dIx x y) >>= fun x => (pure [] : M (List D)) >>= fun r => pure (x :: r)) >>= lenD) >>= fun y => andD (dLe x y) ((pure k_MOST_SEATS : M D) >>= fun z => dLe y z)) >>= asB) >>= fun b => pure (!b)))) fun k => if k then (liftS ρ (pure (D.bl false) : M D) fun d => pure (VL.Flow.rt d)) else (pure (VL.Flow.nx ρ)))
    (fun ρ => liftS ρ (((((rd 0 ρ) >>= itOf) >>= fun it => ask (small it.items.length) >>= fun _ => loopC it (gN 1) (fun _ => pure true) (fun ρ => (((rd 1 ρ) >>= fun x => (((((rd 0 ρ) >>= fun x => (pure (D.int 0) : M D) >>= fun y => dIx x y) >>= fun x => (pure [] : M (List D)) >>= fun r => pure (x :: r)) >>= lenD) >>= fun x => (pure [] : M (List D)) >>= fun r => pure (x :: r)) >>= fun r => pure (x :: r)) >>= callM 2 m_is_joint)) (wipeE ρ [1]) it.items [] >>= frzL) >>= fun x => (pure [] : M (List D)) >>= fun r => pure (x :: r)) >>= (allD fun bs => bs.all id)) fun d => pure (VL.Flow.rt d))))
noncomputable def m_are_joints : List D → M D := runF 2 f_are_joints
theorem ok_are_joints (T : Tp P w K mg) : FnOk P w K mg base (L2.CX P w) 4 T.a_are_joints T.d_are_joints ["value"] (spD T.cn 1 m_are_joints) :=
  fnv_ok (c := T.cn) T.F_are_joints rfl sc_are_joints fun cdv A outer s0 H E hr => (vb_cons (vs_if (vt_of (vw_or (vt_not (vt_val (ve_callB (cv_isiO rfl T.ownK) (by rfl) T.m_isinstance (by decide +kernel) (vl_cons (vv 0 (lo_none rfl)) (vl_cons (ve_bltn (n := "tuple") (by rfl) T.m_tuple (by decide +kernel)) vl_nil)) (fun _ _ p q => pe_callB p (by rfl) T.m_isinstance (by decide +kernel) q)))) (vw_or1 (vt_cmp opv_gt (ve_callB (cv_len rfl) (by rfl) T.m_len (by decide +kernel) (vl_cons (vv 0 (lo_none rfl)) vl_nil) (fun _ _ p q => pe_callB p (by rfl) T.m_len (by decide +kernel) q)) (ve_glob (d := k_MOST_STRETCH) (by rfl) T.c_MOST_STRETCH T.r_MOST_STRETCH T.q_MOST_STRETCH) (nomark _))))) (vb_one (vs_ret ve_bl)) vb_nil)
    (vb_cons (vs_if (vt_cmp (opv_eq rfl hr.units) (vv 0 (lo_none rfl)) (ve_tup vl_nil) (nomark _)) (vb_one (vs_ret ve_bl)) vb_nil)
    (vb_cons (vs_if (vt_of (vw_or (vt_not (vt_val (ve_callB (cv_isiO rfl T.ownK) (by rfl) T.m_isinstance (by decide +kernel) (vl_cons (ve_ix rfl (vv 0 (lo_none rfl)) ve_int (fun _ _ => rfl)) (vl_cons (ve_bltn (n := "tuple") (by rfl) T.m_tuple (by decide +kernel)) vl_nil)) (fun _ _ p q => pe_callB p (by rfl) T.m_isinstance (by decide +kernel) q)))) (vw_or1 (vt_not (vt_chain opv_le opv_le ve_int (ve_callB (cv_len rfl) (by rfl) T.m_len (by decide +kernel) (vl_cons (ve_ix rfl (vv 0 (lo_none rfl)) ve_int (fun _ _ => rfl)) vl_nil) (fun _ _ p q => pe_callB p (by rfl) T.m_len (by decide +kernel) q)) (ve_glob (d := k_MOST_SEATS) (by rfl) T.c_MOST_SEATS T.r_MOST_SEATS T.q_MOST_SEATS) (fun _ _ _ _ _ a b c d e => pt_chain a b c d e)))))) (vb_one (vs_ret ve_bl)) vb_nil)
    (vb_one (vs_ret (ve_callB (cv_all rfl rfl) (by rfl) T.m_all (by decide +kernel) (vl_cons (ve_lc fin_frz (own := [("joint", 1)]) (fun i hi => ⟨lo_none rfl, fun z => absurd rfl z⟩) (by rfl) sc_are_joints.nd (blkOk_by (own := [("joint", 1)]) (N := N_are_joints) (sc := defScope s_are_joints) (by decide +kernel)) (vi_seq rfl (vv 0 (lo_none rfl))) (fun _ _ _ _ _ => (vg_name (i := 1) (lo_none rfl) (fun z => absurd rfl z) sc_are_joints.nd rfl (Or.inl rfl))) (fun _ _ _ _ _ => vts_nil) (fun _ _ _ _ _ => (ve_call (ok_is_joint T) (hr.mono (by decide)) (by rfl) T.g_is_joint T.F_is_joint.kp T.b_is_joint takes_none5 (vl_cons (vv 1 (lo_none rfl)) (vl_cons (ve_callB (cv_len rfl) (by rfl) T.m_len (by decide +kernel) (vl_cons (ve_ix rfl (vv 0 (lo_none rfl)) ve_int (fun _ _ => rfl)) vl_nil) (fun _ _ p q => pe_callB p (by rfl) T.m_len (by decide +kernel) q)) vl_nil)) (fun _ z => pe_callS (ok_is_joint T) (hr.mono (by decide)) (by rfl) T.g_is_joint T.F_is_joint.kp T.b_is_joint (fun σ => passAt takes_none5 σ) z))) (by decide)) vl_nil) (fun _ _ p q => pe_callB p (by rfl) T.m_all (by decide +kernel) q)))))))
noncomputable def f_is_piece : VL.Env → M VL.Flow := fun ρ => liftS ρ (andD ((((rd 0 ρ) >>= fun x => ((pure k_MOST_PIECE : M D) >>= fun x => (pure [] : M (List D)) >>= fun r => pure (x :: r)) >>= fun r => pure (x :: r)) >>= callM 2 m_is_text)) (((rd 0 ρ) >>= fun x => (pure (D.str "") : M D) >>= fun y => dNe x y))) fun d => pure (VL.Flow.rt d)
noncomputable def m_is_piece : List D → M D := runF 1 f_is_piece
theorem ok_is_piece (T : Tp P w K mg) : FnOk P w K mg base (L2.CX P w) 2 T.a_is_piece T.d_is_piece ["value"] (spD T.cn 1 m_is_piece) :=
  fnv_ok (c := T.cn) T.F_is_piece rfl sc_is_piece fun cdv A outer s0 H E hr => (vb_one (vs_ret (ve_and (ve_call (ok_is_text T) (hr.mono (by decide)) (by rfl) T.g_is_text T.F_is_text.kp T.b_is_text (takes_of rfl rfl rfl rfl) (vl_cons (vv 0 (lo_none rfl)) (vl_cons (ve_glob (d := k_MOST_PIECE) (by rfl) T.c_MOST_PIECE T.r_MOST_PIECE T.q_MOST_PIECE) vl_nil)) (fun _ z => pe_callS (ok_is_text T) (hr.mono (by decide)) (by rfl) T.g_is_text T.F_is_text.kp T.b_is_text (fun σ => passAt (takes_of rfl rfl rfl rfl) σ) z)) (ve_one (ve_cmp (opv_ne rfl hr.units) (vv 0 (lo_none rfl)) ve_str (nomark _))))))
noncomputable def f_is_right_keys : VL.Env → M VL.Flow := fun ρ => liftS ρ (andD (((((rd 0 ρ) >>= fun x => (pure (D.int 2) : M D) >>= fun y => dIx x y) >>= fun x => (pure [] : M (List D)) >>= fun r => pure (x :: r)) >>= callM 1 m_is_tick)) ((andD (((((rd 0 ρ) >>= fun x => (pure (D.int 3) : M D) >>= fun y => dIx x y) >>= fun x => (pure [] : M (List D)) >>= fun r => pure (x :: r)) >>= callM 1 m_are_key_words)) (((((rd 0 ρ) >>= fun x => (pure (D.int 4) : M D) >>= fun y => dIx x y) >>= fun x => ((pure (D.int 0) : M D) >>= fun x => ((pure k_MOST_PRINT : M D) >>= fun x => (pure [] : M (List D)) >>= fun r => pure (x :: r)) >>= fun r => pure (x :: r)) >>= fun r => pure (x :: r)) >>= callM 3 m_is_from))))) fun d => pure (VL.Flow.rt d)
noncomputable def m_is_right_keys : List D → M D := runF 1 f_is_right_keys
theorem ok_is_right_keys (T : Tp P w K mg) : FnOk P w K mg base (L2.CX P w) 4 T.a_is_right_keys T.d_is_right_keys ["letter"] (spD T.cn 1 m_is_right_keys) :=
  fnv_ok (c := T.cn) T.F_is_right_keys rfl sc_is_right_keys fun cdv A outer s0 H E hr => (vb_one (vs_ret (ve_and (ve_call (ok_is_tick T) (hr.mono (by decide)) (by rfl) T.g_is_tick T.F_is_tick.kp T.b_is_tick (takes_of rfl rfl rfl rfl) (vl_cons (ve_ix rfl (vv 0 (lo_none rfl)) ve_int (fun _ _ => rfl)) vl_nil) (fun _ z => pe_callS (ok_is_tick T) (hr.mono (by decide)) (by rfl) T.g_is_tick T.F_is_tick.kp T.b_is_tick (fun σ => passAt (takes_of rfl rfl rfl rfl) σ) z)) (ve_and (ve_call (ok_are_key_words T) (hr.mono (by decide)) (by rfl) T.g_are_key_words T.F_are_key_words.kp T.b_are_key_words (takes_of rfl rfl rfl rfl) (vl_cons (ve_ix rfl (vv 0 (lo_none rfl)) ve_int (fun _ _ => rfl)) vl_nil) (fun _ z => pe_callS (ok_are_key_words T) (hr.mono (by decide)) (by rfl) T.g_are_key_words T.F_are_key_words.kp T.b_are_key_words (fun σ => passAt (takes_of rfl rfl rfl rfl) σ) z)) (ve_one (ve_call (ok_is_from T) (hr.mono (by decide)) (by rfl) T.g_is_from T.F_is_from.kp T.b_is_from (takes_of rfl rfl rfl rfl) (vl_cons (ve_ix rfl (vv 0 (lo_none rfl)) ve_int (fun _ _ => rfl)) (vl_cons ve_int (vl_cons (ve_glob (d := k_MOST_PRINT) (by rfl) T.c_MOST_PRINT T.r_MOST_PRINT T.q_MOST_PRINT) vl_nil))) (fun _ z => pe_callS (ok_is_from T) (hr.mono (by decide)) (by rfl) T.g_is_from T.F_is_from.kp T.b_is_from (fun σ => passAt (takes_of rfl rfl rfl rfl) σ) z)))))))
noncomputable def f_is_right_piece : VL.Env → M VL.Flow := fun ρ => seqM (liftS ρ (tOr (((((((rd 0 ρ) >>= fun x => (pure (D.int 2) : M D) >>= fun y => dIx x y) >>= fun x => (pure [] : M (List D)) >>= fun r => pure (x :: r)) >>= callM 1 m_is_tick) >>= asB) >>= fun b => pure (!b))) (((((((rd 0 ρ) >>= fun x => (pure (D.int 4) : M D) >>= fun y => dIx x y) >>= fun x => ((pure (D.int 1) : M D) >>= fun x => ((pure k_MOST_PIECES : M D) >>= fun x => (pure [] : M (List D)) >>= fun r => pure (x :: r)) >>= fun r => pure (x :: r)) >>= fun r => pure (x :: r)) >>= callM 3 m_is_from) >>= asB) >>= fun b => pure (!b)))) fun k => if k then (liftS ρ (pure (D.bl false) : M D) fun d => pure (VL.Flow.rt d)) else (pure (VL.Flow.nx ρ)))
    (fun ρ => liftS ρ (andD (((((rd 0 ρ) >>= fun x => (pure (D.int 3) : M D) >>= fun y => dIx x y) >>= fun x => ((pure (D.int 0) : M D) >>= fun x => ((((rd 0 ρ) >>= fun x => (pure (D.int 4) : M D) >>= fun y => dIx x y) >>= fun x => (pure (D.int 1) : M D) >>= fun y => dSub x y) >>= fun x => (pure [] : M (List D)) >>= fun r => pure (x :: r)) >>= fun r => pure (x :: r)) >>= fun r => pure (x :: r)) >>= callM 3 m_is_from)) (((((rd 0 ρ) >>= fun x => (pure (D.int 5) : M D) >>= fun y => dIx x y) >>= fun x => (pure [] : M (List D)) >>= fun r => pure (x :: r)) >>= callM 1 m_is_piece))) fun d => pure (VL.Flow.rt d))
noncomputable def m_is_right_piece : List D → M D := runF 1 f_is_right_piece
theorem ok_is_right_piece (T : Tp P w K mg) : FnOk P w K mg base (L2.CX P w) 4 T.a_is_right_piece T.d_is_right_piece ["letter"] (spD T.cn 1 m_is_right_piece) :=
  fnv_ok (c := T.cn) T.F_is_right_piece rfl sc_is_right_piece fun cdv A outer s0 H E hr => (vb_cons (vs_if (vt_of (vw_or (vt_not (vt_val (ve_call (ok_is_tick T) (hr.mono (by decide)) (by rfl) T.g_is_tick T.F_is_tick.kp T.b_is_tick (takes_of rfl rfl rfl rfl) (vl_cons (ve_ix rfl (vv 0 (lo_none rfl)) ve_int (fun _ _ => rfl)) vl_nil) (fun _ z => pe_callS (ok_is_tick T) (hr.mono (by decide)) (by rfl) T.g_is_tick T.F_is_tick.kp T.b_is_tick (fun σ => passAt (takes_of rfl rfl rfl rfl) σ) z)))) (vw_or1 (vt_not (vt_val (ve_call (ok_is_from T) (hr.mono (by decide)) (by rfl) T.g_is_from T.F_is_from.kp T.b_is_from (takes_of rfl rfl rfl rfl) (vl_cons (ve_ix rfl (vv 0 (lo_none rfl)) ve_int (fun _ _ => rfl)) (vl_cons ve_int (vl_cons (ve_glob (d := k_MOST_PIECES) (by rfl) T.c_MOST_PIECES T.r_MOST_PIECES T.q_MOST_PIECES) vl_nil))) (fun _ z => pe_callS (ok_is_from T) (hr.mono (by decide)) (by rfl) T.g_is_from T.F_is_from.kp T.b_is_from (fun σ => passAt (takes_of rfl rfl rfl rfl) σ) z))))))) (vb_one (vs_ret ve_bl)) vb_nil)
    (vb_one (vs_ret (ve_and (ve_call (ok_is_from T) (hr.mono (by decide)) (by rfl) T.g_is_from T.F_is_from.kp T.b_is_from (takes_of rfl rfl rfl rfl) (vl_cons (ve_ix rfl (vv 0 (lo_none rfl)) ve_int (fun _ _ => rfl)) (vl_cons ve_int (vl_cons (ve_op opv_sub (ve_ix rfl (vv 0 (lo_none rfl)) ve_int (fun _ _ => rfl)) ve_int) vl_nil))) (fun _ z => pe_callS (ok_is_from T) (hr.mono (by decide)) (by rfl) T.g_is_from T.F_is_from.kp T.b_is_from (fun σ => passAt (takes_of rfl rfl rfl rfl) σ) z)) (ve_one (ve_call (ok_is_piece T) (hr.mono (by decide)) (by rfl) T.g_is_piece T.F_is_piece.kp T.b_is_piece (takes_of rfl rfl rfl rfl) (vl_cons (ve_ix rfl (vv 0 (lo_none rfl)) ve_int (fun _ _ => rfl)) vl_nil) (fun _ z => pe_callS (ok_is_piece T) (hr.mono (by decide)) (by rfl) T.g_is_piece T.F_is_piece.kp T.b_is_piece (fun σ => passAt (takes_of rfl rfl rfl rfl) σ) z)))))))
noncomputable def f_are_right_parts : VL.Env → M VL.Flow := fun ρ => seqM (liftS ρ ((rd 0 ρ) >>= fun x => (pure (D.int 0) : M D) >>= fun y => dIx x y) fun d => (mStr "keys" (fun ρ => liftS ρ (((rd 0 ρ) >>= fun x => (pure [] : M (List D)) >>= fun r => pure (x :: r)) >>= callM 1 m_is_right_keys) fun d => pure (VL.Flow.rt d)) (mStr "rows" (fun ρ => liftS ρ (andD (((((rd 0 ρ) >>= fun x => (pure (D.int 2) : M D) >>= fun y => dIx x y) >>= fun x => (pure [] : M (List D)) >>= fun r => pure (x :: r)) >>= callM 1 m_is_tick)) (((((rd 0 ρ) >>= fun x => (pure (D.int 3) : M D) >>= fun y => dIx x y) >>= fun x => (pure [] : M (List D)) >>= fun r => pure (x :: r)) >>= callM 1 m_are_joints))) fun d => pure (VL.Flow.rt d)) (mStr "piece" (fun ρ => liftS ρ (((rd 0 ρ) >>= fun x => (pure [] : M (List D)) >>= fun r => pure (x :: r)) >>= callM 1 m_is_right_piece) fun d => pure (VL.Flow.rt d)) mNil))) d ρ)
    (fun ρ => liftS ρ (andD (((((rd 0 ρ) >>= fun x => (pure (D.int 2) : M D) >>= fun y => dIx x y) >>= fun x => ((pure (D.ty "str") : M D) >>= fun x => (pure [] : M (List D)) >>= fun r => pure (x :: r)) >>= fun r => pure (x :: r)) >>= (isiO ownL))) ((((rd 0 ρ) >>= fun x => (pure (D.int 2) : M D) >>= fun y => dIx x y) >>= fun x => (pure k_WORDS : M D) >>= fun y => dInC x y))) fun d => pure (VL.Flow.rt d))
noncomputable def m_are_right_parts : List D → M D := runF 1 f_are_right_parts
theorem ok_are_right_parts (T : Tp P w K mg) : FnOk P w K mg base (L2.CX P w) 5 T.a_are_right_parts T.d_are_right_parts ["letter"] (spD T.cn 1 m_are_right_parts) :=
  fnv_ok (c := T.cn) T.F_are_right_parts rfl sc_are_right_parts fun cdv A outer s0 H E hr => (vb_cons (vs_match (ve_ix rfl (vv 0 (lo_none rfl)) ve_int (fun _ _ => rfl)) (vm_str (vb_one (vs_ret (ve_call (ok_is_right_keys T) (hr.mono (by decide)) (by rfl) T.g_is_right_keys T.F_is_right_keys.kp T.b_is_right_keys (takes_of rfl rfl rfl rfl) (vl_cons (vv 0 (lo_none rfl)) vl_nil) (fun _ z => pe_callS (ok_is_right_keys T) (hr.mono (by decide)) (by rfl) T.g_is_right_keys T.F_is_right_keys.kp T.b_is_right_keys (fun σ => passAt (takes_of rfl rfl rfl rfl) σ) z)))) (vm_str (vb_one (vs_ret (ve_and (ve_call (ok_is_tick T) (hr.mono (by decide)) (by rfl) T.g_is_tick T.F_is_tick.kp T.b_is_tick (takes_of rfl rfl rfl rfl) (vl_cons (ve_ix rfl (vv 0 (lo_none rfl)) ve_int (fun _ _ => rfl)) vl_nil) (fun _ z => pe_callS (ok_is_tick T) (hr.mono (by decide)) (by rfl) T.g_is_tick T.F_is_tick.kp T.b_is_tick (fun σ => passAt (takes_of rfl rfl rfl rfl) σ) z)) (ve_one (ve_call (ok_are_joints T) (hr.mono (by decide)) (by rfl) T.g_are_joints T.F_are_joints.kp T.b_are_joints (takes_of rfl rfl rfl rfl) (vl_cons (ve_ix rfl (vv 0 (lo_none rfl)) ve_int (fun _ _ => rfl)) vl_nil) (fun _ z => pe_callS (ok_are_joints T) (hr.mono (by decide)) (by rfl) T.g_are_joints T.F_are_joints.kp T.b_are_joints (fun σ => passAt (takes_of rfl rfl rfl rfl) σ) z)))))) (vm_str (vb_one (vs_ret (ve_call (ok_is_right_piece T) (hr.mono (by decide)) (by rfl) T.g_is_right_piece T.F_is_right_piece.kp T.b_is_right_piece (takes_of rfl rfl rfl rfl) (vl_cons (vv 0 (lo_none rfl)) vl_nil) (fun _ z => pe_callS (ok_is_right_piece T) (hr.mono (by decide)) (by rfl) T.g_is_right_piece T.F_is_right_piece.kp T.b_is_right_piece (fun σ => passAt (takes_of rfl rfl rfl rfl) σ) z)))) vm_nil))))
    (vb_one (vs_ret (ve_and (ve_callB (cv_isiO rfl T.ownK) (by rfl) T.m_isinstance (by decide +kernel) (vl_cons (ve_ix rfl (vv 0 (lo_none rfl)) ve_int (fun _ _ => rfl)) (vl_cons (ve_bltn (n := "str") (by rfl) T.m_str (by decide +kernel)) vl_nil)) (fun _ _ p q => pe_callB p (by rfl) T.m_isinstance (by decide +kernel) q)) (ve_one (ve_cmp (opv_inC rfl) (ve_ix rfl (vv 0 (lo_none rfl)) ve_int (fun _ _ => rfl)) (ve_glob (d := k_WORDS) (by rfl) T.c_WORDS T.r_WORDS T.q_WORDS) (by rfl)))))))
noncomputable def f_is_letter_in : VL.Env → M VL.Flow := fun ρ => seqM (liftS ρ (tOr ((((((rd 0 ρ) >>= fun x => ((pure (D.ty "tuple") : M D) >>= fun x => (pure [] : M (List D)) >>= fun r => pure (x :: r)) >>= fun r => pure (x :: r)) >>= (isiO ownL)) >>= asB) >>= fun b => pure (!b))) ((tOr ((((rd 0 ρ) >>= fun x => ((pure [] : M (List D)) >>= mkTup) >>= fun y => dEq x y) >>= asB)) (((((((rd 0 ρ) >>= fun x => (pure (D.int 0) : M D) >>= fun y => dIx x y) >>= fun x => ((pure (D.ty "str") : M D) >>= fun x => (pure [] : M (List D)) >>= fun r => pure (x :: r)) >>= fun r => pure (x :: r)) >>= (isiO ownL)) >>= asB) >>= fun b => pure (!b)))))) fun k => if k then (liftS ρ (pure (D.bl false) : M D) fun d => pure (VL.Flow.rt d)) else (pure (VL.Flow.nx ρ)))
    (fun ρ => seqM (liftS ρ (tOr ((((((rd 0 ρ) >>= fun x => (pure [] : M (List D)) >>= fun r => pure (x :: r)) >>= lenD) >>= fun x => (((rd 0 ρ) >>= fun x => (pure (D.int 0) : M D) >>= fun y => dIx x y) >>= kgetM [("keys", 5), ("rows", 4), ("piece", 6), ("word", 3)]) >>= fun y => dNe x y) >>= asB)) (((((((rd 0 ρ) >>= fun x => (pure (D.int 1) : M D) >>= fun y => dIx x y) >>= fun x => ((pure (D.int 1) : M D) >>= fun x => ((pure k_MOST_SEAT : M D) >>= fun x => (pure [] : M (List D)) >>= fun r => pure (x :: r)) >>= fun r => pure (x :: r)) >>= fun r => pure (x :: r)) >>= callM 3 m_is_from) >>= asB) >>= fun b => pure (!b)))) fun k => if k then (liftS ρ (pure (D.bl false) : M D) fun d => pure (VL.Flow.rt d)) else (pure (VL.Flow.nx ρ)))
    (fun ρ => liftS ρ (((rd 0 ρ) >>= fun x => (pure [] : M (List D)) >>= fun r => pure (x :: r)) >>= callM 1 m_are_right_parts) fun d => pure (VL.Flow.rt d)))
noncomputable def m_is_letter_in : List D → M D := runF 1 f_is_letter_in
theorem ok_is_letter_in (T : Tp P w K mg) : FnOk P w K mg base (L2.CX P w) 6 T.a_is_letter_in T.d_is_letter_in ["value"] (spD T.cn 1 m_is_letter_in) :=
  fnv_ok (c := T.cn) T.F_is_letter_in rfl sc_is_letter_in fun cdv A outer s0 H E hr => (vb_cons (vs_if (vt_of (vw_or (vt_not (vt_val (ve_callB (cv_isiO rfl T.ownK) (by rfl) T.m_isinstance (by decide +kernel) (vl_cons (vv 0 (lo_none rfl)) (vl_cons (ve_bltn (n := "tuple") (by rfl) T.m_tuple (by decide +kernel)) vl_nil)) (fun _ _ p q => pe_callB p (by rfl) T.m_isinstance (by decide +kernel) q)))) (vw_or (vt_cmp (opv_eq rfl hr.units) (vv 0 (lo_none rfl)) (ve_tup vl_nil) (nomark _)) (vw_or1 (vt_not (vt_val (ve_callB (cv_isiO rfl T.ownK) (by rfl) T.m_isinstance (by decide +kernel) (vl_cons (ve_ix rfl (vv 0 (lo_none rfl)) ve_int (fun _ _ => rfl)) (vl_cons (ve_bltn (n := "str") (by rfl) T.m_str (by decide +kernel)) vl_nil)) (fun _ _ p q => pe_callB p (by rfl) T.m_isinstance (by decide +kernel) q)))))))) (vb_one (vs_ret ve_bl)) vb_nil)
    (vb_cons (vs_if (vt_of (vw_or (vt_cmp (opv_ne rfl hr.units) (ve_callB (cv_len rfl) (by rfl) T.m_len (by decide +kernel) (vl_cons (vv 0 (lo_none rfl)) vl_nil) (fun _ _ p q => pe_callB p (by rfl) T.m_len (by decide +kernel) q)) (ve_kget (by rfl) T.c_SIZES T.kd_SIZES (ve_ix rfl (vv 0 (lo_none rfl)) ve_int (fun _ _ => rfl)) ⟨rfl, rfl, rfl, rfl⟩) (nomark _)) (vw_or1 (vt_not (vt_val (ve_call (ok_is_from T) (hr.mono (by decide)) (by rfl) T.g_is_from T.F_is_from.kp T.b_is_from (takes_of rfl rfl rfl rfl) (vl_cons (ve_ix rfl (vv 0 (lo_none rfl)) ve_int (fun _ _ => rfl)) (vl_cons ve_int (vl_cons (ve_glob (d := k_MOST_SEAT) (by rfl) T.c_MOST_SEAT T.r_MOST_SEAT T.q_MOST_SEAT) vl_nil))) (fun _ z => pe_callS (ok_is_from T) (hr.mono (by decide)) (by rfl) T.g_is_from T.F_is_from.kp T.b_is_from (fun σ => passAt (takes_of rfl rfl rfl rfl) σ) z))))))) (vb_one (vs_ret ve_bl)) vb_nil)
    (vb_one (vs_ret (ve_call (ok_are_right_parts T) (hr.mono (by decide)) (by rfl) T.g_are_right_parts T.F_are_right_parts.kp T.b_are_right_parts (takes_of rfl rfl rfl rfl) (vl_cons (vv 0 (lo_none rfl)) vl_nil) (fun _ z => pe_callS (ok_are_right_parts T) (hr.mono (by decide)) (by rfl) T.g_are_right_parts T.F_are_right_parts.kp T.b_are_right_parts (fun σ => passAt (takes_of rfl rfl rfl rfl) σ) z))))))
noncomputable def f_read_in : VL.Env → M VL.Flow := fun ρ => seqM (tryM xo_ParseError (fun ρ => liftS ρ (((rd 0 ρ) >>= fun x => (pure [] : M (List D)) >>= fun r => pure (x :: r)) >>= callM 1 m_value_of) fun d => pure (VL.Flow.nx (ρ.set 1 (some d)))) (fun ρ => liftS ρ (pure D.non : M D) fun d => pure (VL.Flow.rt d)) ρ)
    (fun ρ => liftS ρ (((((rd 1 ρ) >>= fun x => (pure [] : M (List D)) >>= fun r => pure (x :: r)) >>= callM 1 m_is_letter_in) >>= asB) >>= fun k => if k then (rd 1 ρ) else (pure D.non : M D)) fun d => pure (VL.Flow.rt d))
noncomputable def m_read_in : List D → M D := runF 2 f_read_in
theorem ok_read_in (T : Tp P w K mg) : FnOk P w K mg base (L2.CX P w) 7 T.a_read_in T.d_read_in ["text"] (spD T.cn 1 m_read_in) :=
  fnv_ok (c := T.cn) T.F_read_in rfl sc_read_in fun cdv A outer s0 H E hr => (vb_cons (vs_try1 (C := "ParseError") (ex := xo_ParseError) rfl rfl rfl ⟨by rfl, by decide, .inl T.gx_ParseError⟩ (takes_of rfl rfl rfl rfl) T.exO_ParseError (fun _ _ _ tk1 po1 => (vb_one (vs_set (i := 1) (lo_none rfl) (fun z => absurd rfl z) sc_read_in.nd rfl (Or.inl rfl) (ve_call (ok_value_of T) (hr.mono (by decide)) (by rfl) T.g_value_of T.F_value_of.kp T.b_value_of tk1 (vl_cons (vv 0 (lo_none rfl)) vl_nil) (fun _ z => pe_callS (ok_value_of T) (hr.mono (by decide)) (by rfl) T.g_value_of T.F_value_of.kp T.b_value_of (fun σ => passAt tk1 σ) z))))) (fun _ _ _ _ _ _ _ => (vb_one (vs_ret ve_non))))
    (vb_one (vs_ret (ve_if (vt_val (ve_call (ok_is_letter_in T) (hr.mono (by decide)) (by rfl) T.g_is_letter_in T.F_is_letter_in.kp T.b_is_letter_in (takes_of rfl rfl rfl rfl) (vl_cons (vv 1 (lo_none rfl)) vl_nil) (fun _ z => pe_callS (ok_is_letter_in T) (hr.mono (by decide)) (by rfl) T.g_is_letter_in T.F_is_letter_in.kp T.b_is_letter_in (fun σ => passAt (takes_of rfl rfl rfl rfl) σ) z))) (vv 1 (lo_none rfl)) ve_non))))
noncomputable def f_require_letter : VL.Env → M VL.Flow := fun ρ => liftS ρ (((((rd 0 ρ) >>= fun x => (pure [] : M (List D)) >>= fun r => pure (x :: r)) >>= callM 1 m_is_letter_in) >>= asB) >>= fun b => pure (!b)) fun k => if k then (pure (VL.Flow.xc ρ ⟨"InvalidLetter", none⟩)) else (pure (VL.Flow.nx ρ))
noncomputable def m_require_letter : List D → M D := runF 1 f_require_letter
theorem ok_require_letter (T : Tp P w K mg) : FnOk P w K mg base (L2.CX P w) 7 T.a_require_letter T.d_require_letter ["value"] (spD T.cn 1 m_require_letter) :=
  fnv_ok (c := T.cn) T.F_require_letter rfl sc_require_letter fun cdv A outer s0 H E hr => (vb_one (vs_if (vt_not (vt_val (ve_call (ok_is_letter_in T) (hr.mono (by decide)) (by rfl) T.g_is_letter_in T.F_is_letter_in.kp T.b_is_letter_in (takes_of rfl rfl rfl rfl) (vl_cons (vv 0 (lo_none rfl)) vl_nil) (fun _ z => pe_callS (ok_is_letter_in T) (hr.mono (by decide)) (by rfl) T.g_is_letter_in T.F_is_letter_in.kp T.b_is_letter_in (fun σ => passAt (takes_of rfl rfl rfl rfl) σ) z)))) (vb_one (vs_raise (C := "InvalidLetter") rfl (takes_of rfl rfl rfl rfl) (pmk_own PySem.F.excBase_ValueError T.xc_InvalidLetter T.gx_InvalidLetter T.kx_InvalidLetter (raises_own T.bx_InvalidLetter T.tx_InvalidLetter) (by rfl)))) vb_nil))
noncomputable def f_is_letter : VL.Env → M VL.Flow := fun ρ => liftS ρ (((rd 0 ρ) >>= fun x => (pure [] : M (List D)) >>= fun r => pure (x :: r)) >>= callM 1 m_is_letter_in) fun d => pure (VL.Flow.rt d)
noncomputable def m_is_letter : List D → M D := runF 1 f_is_letter
theorem ok_is_letter (T : Tp P w K mg) : FnOk P w K mg base (L2.CX P w) 7 T.a_is_letter T.d_is_letter ["value"] (spD T.cn 1 m_is_letter) :=
  fnv_ok (c := T.cn) T.F_is_letter rfl sc_is_letter fun cdv A outer s0 H E hr => (vb_one (vs_ret (ve_call (ok_is_letter_in T) (hr.mono (by decide)) (by rfl) T.g_is_letter_in T.F_is_letter_in.kp T.b_is_letter_in (takes_of rfl rfl rfl rfl) (vl_cons (vv 0 (lo_none rfl)) vl_nil) (fun _ z => pe_callS (ok_is_letter_in T) (hr.mono (by decide)) (by rfl) T.g_is_letter_in T.F_is_letter_in.kp T.b_is_letter_in (fun σ => passAt (takes_of rfl rfl rfl rfl) σ) z))))
noncomputable def f_goal : VL.Env → M VL.Flow := fun ρ => seqM (liftS ρ (((rd 0 ρ) >>= fun x => (pure [] : M (List D)) >>= fun r => pure (x :: r)) >>= callM 1 m_require_letter) fun _ => pure (VL.Flow.nx ρ))
    (fun ρ => stuck)
noncomputable def m_goal : List D → M D := runF 1 f_goal
theorem ok_goal (T : Tp P w K mg) : FnOk P w K mg base (L2.CX P w) 8 T.a_goal T.d_goal ["letter"] (spD T.cn 1 m_goal) :=
  fnv_ok (c := T.cn) T.F_goal rfl sc_goal fun cdv A outer s0 H E hr => (vb_cons (vs_expr (ve_call (ok_require_letter T) (hr.mono (by decide)) (by rfl) T.g_require_letter T.F_require_letter.kp T.b_require_letter (takes_of rfl rfl rfl rfl) (vl_cons (vv 0 (lo_none rfl)) vl_nil) (fun _ z => pe_callS (ok_require_letter T) (hr.mono (by decide)) (by rfl) T.g_require_letter T.F_require_letter.kp T.b_require_letter (fun σ => passAt (takes_of rfl rfl rfl rfl) σ) z)))
    (vb_one vs_never))
noncomputable def tabV : String → Option (Nat × (List D → M D)) := fun n => if n = "goal" then some (1, m_goal) else none
theorem tabV_ok (T : Tp P w K mg) : TabV P w K mg base T.cn 8 tabV := fun n km h => by
  unfold tabV at h
  by_cases e : n = "goal"
  · subst e; rw [if_pos rfl] at h; cases h; exact ⟨_, _, (ok_goal T).mono (by decide), T.F_goal.kp, T.b_goal⟩
  rw [if_neg e] at h; clear e
  cases h
noncomputable def f_letter_text : VL.Env → M VL.Flow := fun ρ => seqM (liftS ρ (((rd 0 ρ) >>= fun x => (pure [] : M (List D)) >>= fun r => pure (x :: r)) >>= callM 1 m_require_letter) fun _ => pure (VL.Flow.nx ρ))
    (fun ρ => stuck)
noncomputable def m_letter_text : List D → M D := runF 1 f_letter_text
theorem ok_letter_text (T : Tp P w K mg) : FnOk P w K mg base (L2.CX P w) 8 T.a_letter_text T.d_letter_text ["letter"] (spD T.cn 1 m_letter_text) :=
  fnv_ok (c := T.cn) T.F_letter_text rfl sc_letter_text fun cdv A outer s0 H E hr => (vb_cons (vs_expr (ve_call (ok_require_letter T) (hr.mono (by decide)) (by rfl) T.g_require_letter T.F_require_letter.kp T.b_require_letter (takes_of rfl rfl rfl rfl) (vl_cons (vv 0 (lo_none rfl)) vl_nil) (fun _ z => pe_callS (ok_require_letter T) (hr.mono (by decide)) (by rfl) T.g_require_letter T.F_require_letter.kp T.b_require_letter (fun σ => passAt (takes_of rfl rfl rfl rfl) σ) z)))
    (vb_one vs_never))
noncomputable def f_read_letter : VL.Env → M VL.Flow := fun ρ => seqM (liftS ρ (((rd 0 ρ) >>= fun x => (pure [] : M (List D)) >>= fun r => pure (x :: r)) >>= callM 1 m_require_text) fun _ => pure (VL.Flow.nx ρ))
    (fun ρ => seqM (liftS ρ (((rd 0 ρ) >>= fun x => (pure [] : M (List D)) >>= fun r => pure (x :: r)) >>= callM 1 m_read_in) fun d => pure (VL.Flow.nx (ρ.set 1 (some d))))
    (fun ρ => seqM (liftS ρ ((rd 1 ρ) >>= fun x => pure (isN x)) fun k => if k then (pure (VL.Flow.xc ρ ⟨"InvalidLetter", none⟩)) else (pure (VL.Flow.nx ρ)))
    (fun ρ => liftS ρ (rd 1 ρ) fun d => pure (VL.Flow.rt d))))
noncomputable def m_read_letter : List D → M D := runF 2 f_read_letter
theorem ok_read_letter (T : Tp P w K mg) : FnOk P w K mg base (L2.CX P w) 8 T.a_read_letter T.d_read_letter ["text"] (spD T.cn 1 m_read_letter) :=
  fnv_ok (c := T.cn) T.F_read_letter rfl sc_read_letter fun cdv A outer s0 H E hr => (vb_cons (vs_expr (ve_call (ok_require_text T) (hr.mono (by decide)) (by rfl) T.g_require_text T.F_require_text.kp T.b_require_text (takes_of rfl rfl rfl rfl) (vl_cons (vv 0 (lo_none rfl)) vl_nil) (fun _ z => pe_callS (ok_require_text T) (hr.mono (by decide)) (by rfl) T.g_require_text T.F_require_text.kp T.b_require_text (fun σ => passAt (takes_of rfl rfl rfl rfl) σ) z)))
    (vb_cons (vs_set (i := 1) (lo_none rfl) (fun z => absurd rfl z) sc_read_letter.nd rfl (Or.inl rfl) (ve_call (ok_read_in T) (hr.mono (by decide)) (by rfl) T.g_read_in T.F_read_in.kp T.b_read_in (takes_of rfl rfl rfl rfl) (vl_cons (vv 0 (lo_none rfl)) vl_nil) (fun _ z => pe_callS (ok_read_in T) (hr.mono (by decide)) (by rfl) T.g_read_in T.F_read_in.kp T.b_read_in (fun σ => passAt (takes_of rfl rfl rfl rfl) σ) z)))
    (vb_cons (vs_if (vt_isN (vv 1 (lo_none rfl))) (vb_one (vs_raise (C := "InvalidLetter") rfl (takes_of rfl rfl rfl rfl) (pmk_own PySem.F.excBase_ValueError T.xc_InvalidLetter T.gx_InvalidLetter T.kx_InvalidLetter (raises_own T.bx_InvalidLetter T.tx_InvalidLetter) (by rfl)))) vb_nil)
    (vb_one (vs_ret (vv 1 (lo_none rfl)))))))
noncomputable def f_require_letters : VL.Env → M VL.Flow := fun ρ => liftS ρ (tOr ((((((rd 0 ρ) >>= fun x => ((pure (D.ty "tuple") : M D) >>= fun x => (pure [] : M (List D)) >>= fun r => pure (x :: r)) >>= fun r => pure (x :: r)) >>= (isiO ownL)) >>= asB) >>= fun b => pure (!b))) ((((((((rd 0 ρ) >>= itOf) >>= fun it => ask (small it.items.length) >>= fun _ => loopC it (gN 1) (fun _ => pure true) (fun ρ => (((rd 1 ρ) >>= fun x => (pure [] : M (List D)) >>= fun r => pure (x :: r)) >>= callM 1 m_is_letter_in)) (wipeE ρ [1]) it.items [] >>= frzL) >>= fun x => (pure [] : M (List D)) >>= fun r => pure (x :: r)) >>= (allD fun bs => bs.all id)) >>= asB) >>= fun b => pure (!b)))) fun k => if k then (pure (VL.Flow.xc ρ ⟨"InvalidLetter", none⟩)) else (pure (VL.Flow.nx ρ))
noncomputable def m_require_letters : List D → M D := runF 2 f_require_letters
theorem ok_require_letters (T : Tp P w K mg) : FnOk P w K mg base (L2.CX P w) 7 T.a_require_letters T.d_require_letters ["value"] (spD T.cn 1 m_require_letters) :=
  fnv_ok (c := T.cn) T.F_require_letters rfl sc_require_letters fun cdv A outer s0 H E hr => (vb_one (vs_if (vt_of (vw_or (vt_not (vt_val (ve_callB (cv_isiO rfl T.ownK) (by rfl) T.m_isinstance (by decide +kernel) (vl_cons (vv 0 (lo_none rfl)) (vl_cons (ve_bltn (n := "tuple") (by rfl) T.m_tuple (by decide +kernel)) vl_nil)) (fun _ _ p q => pe_callB p (by rfl) T.m_isinstance (by decide +kernel) q)))) (vw_or1 (vt_not (vt_val (ve_callB (cv_all rfl rfl) (by rfl) T.m_all (by decide +kernel) (vl_cons (ve_lc fin_frz (own := [("letter", 1)]) (fun i hi => ⟨lo_none rfl, fun z => absurd rfl z⟩) (by rfl) sc_require_letters.nd (blkOk_by (own := [("letter", 1)]) (N := N_require_letters) (sc := defScope s_require_letters) (by decide +kernel)) (vi_seq rfl (vv 0 (lo_none rfl))) (fun _ _ _ _ _ => (vg_name (i := 1) (lo_none rfl) (fun z => absurd rfl z) sc_require_letters.nd rfl (Or.inl rfl))) (fun _ _ _ _ _ => vts_nil) (fun _ _ _ _ _ => (ve_call (ok_is_letter_in T) (hr.mono (by decide)) (by rfl) T.g_is_letter_in T.F_is_letter_in.kp T.b_is_letter_in takes_none5 (vl_cons (vv 1 (lo_none rfl)) vl_nil) (fun _ z => pe_callS (ok_is_letter_in T) (hr.mono (by decide)) (by rfl) T.g_is_letter_in T.F_is_letter_in.kp T.b_is_letter_in (fun σ => passAt takes_none5 σ) z))) (by decide)) vl_nil) (fun _ _ p q => pe_callB p (by rfl) T.m_all (by decide +kernel) q))))))) (vb_one (vs_raise (C := "InvalidLetter") rfl (takes_of rfl rfl rfl rfl) (pmk_own PySem.F.excBase_ValueError T.xc_InvalidLetter T.gx_InvalidLetter T.kx_InvalidLetter (raises_own T.bx_InvalidLetter T.tx_InvalidLetter) (by rfl)))) vb_nil))
noncomputable def f_Known_init : VL.Env → M VL.Flow := fun ρ => liftS ρ (rd 1 ρ) fun d => pure (VL.Flow.nx (ρ.set (2 + 0) (some d)))
noncomputable def m_Known_init : List D → M (List D) := runI 2 1 f_Known_init
theorem ok_Known_init (T : Tp P w K mg) : FnOk P w K mg base (L2.CX P w) 1 T.a_Known_init T.d_Known_init ["self", "letters"] (spI T.cn "Known" 2 m_Known_init) :=
  fni_ok (c := T.cn) T.F_Known_init (by decide) sc_Known_init fun a dx cdv A outer s0 H E hr => (vb_one (vs_self (I := ⟨a, dx, "Known", N_Known_init.length⟩) (j := 0) rfl rfl T.cl_Known T.t_Known_own_found (vv 1 (lo_at (Nat.le_of_ble_eq_true rfl))) (fun _ z => SlX.ps_sl (pv 0) z)))
noncomputable def f_Bag_init : VL.Env → M VL.Flow := fun ρ => liftS ρ ((((rd 1 ρ) >>= fun x => ((pure (D.cls "Known") : M D) >>= fun x => (pure [] : M (List D)) >>= fun r => pure (x :: r)) >>= fun r => pure (x :: r)) >>= (isiO ownL)) >>= asB) fun k => if k then (liftS ρ ((rd 1 ρ) >>= attrM st_own_found) fun d => pure (VL.Flow.nx (ρ.set (2 + 0) (some d)))) else (seqM (liftS ρ (((rd 1 ρ) >>= fun x => (pure [] : M (List D)) >>= fun r => pure (x :: r)) >>= callM 1 m_require_letters) fun _ => pure (VL.Flow.nx ρ))
    (fun ρ => liftS ρ (rd 1 ρ) fun d => pure (VL.Flow.nx (ρ.set (2 + 0) (some d)))))
noncomputable def m_Bag_init : List D → M (List D) := runI 2 1 f_Bag_init
theorem ok_Bag_init (T : Tp P w K mg) : FnOk P w K mg base (L2.CX P w) 8 T.a_Bag_init T.d_Bag_init ["self", "letters"] (spI T.cn "Bag" 2 m_Bag_init) :=
  fniD_ok (c := T.cn) T.F_Bag_init (by decide) sc_Bag_init fun a dx cdv A outer s0 H E hr => (vb_one (vs_if (vt_val (ve_callB (cv_isiO rfl (OwnK.at_ T.ownK)) (by rfl) T.m_isinstance (by decide +kernel) (vl_cons (vv 1 (lo_at (Nat.le_of_ble_eq_true rfl))) (vl_cons (ve_glob (d := .cls "Known") (v := .ref T.C_Known) (by rfl) T.g_Known rfl (by intro φ H; simp only [Rep]; rfl)) vl_nil)) (fun _ _ p q => pe_callB p (by rfl) T.m_isinstance (by decide +kernel) q))) (vb_one (vs_self (I := ⟨a, dx, "Bag", N_Bag_init.length⟩) (j := 0) rfl rfl T.cl_Bag T.t_Bag_own_letters (ve_attr rfl T.st_own_found (vv 1 (lo_at (Nat.le_of_ble_eq_true rfl)))) (fun _ z => SlX.ps_sl (pv 0) z))) (vb_cons (vs_expr (ve_call (FnOk.at_ (ok_require_letters T)) (hr.mono (by decide)) (by rfl) T.g_require_letters T.F_require_letters.kp T.b_require_letters (takes_of rfl rfl rfl rfl) (vl_cons (vv 1 (lo_at (Nat.le_of_ble_eq_true rfl))) vl_nil) (fun _ z => pe_callS (FnOk.at_ (ok_require_letters T)) (hr.mono (by decide)) (by rfl) T.g_require_letters T.F_require_letters.kp T.b_require_letters (fun σ => passAt (takes_of rfl rfl rfl rfl) σ) z)))
    (vb_one (vs_self (I := ⟨a, dx, "Bag", N_Bag_init.length⟩) (j := 0) rfl rfl T.cl_Bag T.t_Bag_own_letters (vv 1 (lo_at (Nat.le_of_ble_eq_true rfl))) (fun _ z => SlX.ps_sl (pv 0) z))))))
noncomputable def f_Bag_letters : VL.Env → M VL.Flow := fun ρ => liftS ρ ((rd 0 ρ) >>= attrM st_own_letters) fun d => pure (VL.Flow.rt d)
noncomputable def m_Bag_letters : List D → M D := runF 1 f_Bag_letters
theorem ok_Bag_letters (T : Tp P w K mg) : FnOk P w K mg base (L2.CX P w) 1 T.a_Bag_letters T.d_Bag_letters ["self"] (spD T.cn 1 m_Bag_letters) :=
  fnv_ok (c := T.cn) T.F_Bag_letters rfl sc_Bag_letters fun cdv A outer s0 H E hr => (vb_one (vs_ret (ve_attr rfl T.st_own_letters (vv 0 (lo_none rfl)))))
noncomputable def f_Bag_sent : VL.Env → M VL.Flow := fun ρ => seqM (liftS ρ (((rd 1 ρ) >>= fun x => (pure [] : M (List D)) >>= fun r => pure (x :: r)) >>= callM 1 m_require_letter) fun _ => pure (VL.Flow.nx ρ))
    (fun ρ => stuck)
noncomputable def m_Bag_sent : List D → M D := runF 2 f_Bag_sent
theorem ok_Bag_sent (T : Tp P w K mg) : FnOk P w K mg base (L2.CX P w) 8 T.a_Bag_sent T.d_Bag_sent ["self", "letter"] (spD T.cn 2 m_Bag_sent) :=
  fnv_ok (c := T.cn) T.F_Bag_sent rfl sc_Bag_sent fun cdv A outer s0 H E hr => (vb_cons (vs_expr (ve_call (ok_require_letter T) (hr.mono (by decide)) (by rfl) T.g_require_letter T.F_require_letter.kp T.b_require_letter (takes_of rfl rfl rfl rfl) (vl_cons (vv 1 (lo_none rfl)) vl_nil) (fun _ z => pe_callS (ok_require_letter T) (hr.mono (by decide)) (by rfl) T.g_require_letter T.F_require_letter.kp T.b_require_letter (fun σ => passAt (takes_of rfl rfl rfl rfl) σ) z)))
    (vb_one vs_never))
noncomputable def f_Bag_sent_all : VL.Env → M VL.Flow := fun ρ => seqM (liftS ρ (((rd 1 ρ) >>= fun x => (pure [] : M (List D)) >>= fun r => pure (x :: r)) >>= callM 1 m_require_letters) fun _ => pure (VL.Flow.nx ρ))
    (fun ρ => stuck)
noncomputable def m_Bag_sent_all : List D → M D := runF 2 f_Bag_sent_all
theorem ok_Bag_sent_all (T : Tp P w K mg) : FnOk P w K mg base (L2.CX P w) 8 T.a_Bag_sent_all T.d_Bag_sent_all ["self", "letters"] (spD T.cn 2 m_Bag_sent_all) :=
  fnv_ok (c := T.cn) T.F_Bag_sent_all rfl sc_Bag_sent_all fun cdv A outer s0 H E hr => (vb_cons (vs_expr (ve_call (ok_require_letters T) (hr.mono (by decide)) (by rfl) T.g_require_letters T.F_require_letters.kp T.b_require_letters (takes_of rfl rfl rfl rfl) (vl_cons (vv 1 (lo_none rfl)) vl_nil) (fun _ z => pe_callS (ok_require_letters T) (hr.mono (by decide)) (by rfl) T.g_require_letters T.F_require_letters.kp T.b_require_letters (fun σ => passAt (takes_of rfl rfl rfl rfl) σ) z)))
    (vb_one vs_never))
noncomputable def f_Bag_letter : VL.Env → M VL.Flow := fun ρ => seqM (liftS ρ (((rd 1 ρ) >>= fun x => ((pure (D.int 0) : M D) >>= fun x => ((((((rd 0 ρ) >>= attrM st_own_letters) >>= fun x => (pure [] : M (List D)) >>= fun r => pure (x :: r)) >>= lenD) >>= fun x => (pure (D.int 1) : M D) >>= fun y => dSub x y) >>= fun x => (pure [] : M (List D)) >>= fun r => pure (x :: r)) >>= fun r => pure (x :: r)) >>= fun r => pure (x :: r)) >>= callM 3 m_require_from) fun _ => pure (VL.Flow.nx ρ))
    (fun ρ => liftS ρ (((rd 0 ρ) >>= attrM st_own_letters) >>= fun x => (rd 1 ρ) >>= fun y => dIx x y) fun d => pure (VL.Flow.rt d))
noncomputable def m_Bag_letter : List D → M D := runF 2 f_Bag_letter
theorem ok_Bag_letter (T : Tp P w K mg) : FnOk P w K mg base (L2.CX P w) 4 T.a_Bag_letter T.d_Bag_letter ["self", "number"] (spD T.cn 2 m_Bag_letter) :=
  fnv_ok (c := T.cn) T.F_Bag_letter rfl sc_Bag_letter fun cdv A outer s0 H E hr => (vb_cons (vs_expr (ve_call (ok_require_from T) (hr.mono (by decide)) (by rfl) T.g_require_from T.F_require_from.kp T.b_require_from (takes_of rfl rfl rfl rfl) (vl_cons (vv 1 (lo_none rfl)) (vl_cons ve_int (vl_cons (ve_op opv_sub (ve_callB (cv_len rfl) (by rfl) T.m_len (by decide +kernel) (vl_cons (ve_attr rfl T.st_own_letters (vv 0 (lo_none rfl))) vl_nil) (fun _ _ p q => pe_callB p (by rfl) T.m_len (by decide +kernel) q)) ve_int) vl_nil))) (fun _ z => pe_callS (ok_require_from T) (hr.mono (by decide)) (by rfl) T.g_require_from T.F_require_from.kp T.b_require_from (fun σ => passAt (takes_of rfl rfl rfl rfl) σ) z)))
    (vb_one (vs_ret (ve_ix rfl (ve_attr rfl T.st_own_letters (vv 0 (lo_none rfl))) (vv 1 (lo_none rfl)) (fun _ _ => rfl)))))
noncomputable def f_Bag_to : VL.Env → M VL.Flow := fun ρ => seqM (liftS ρ (((rd 1 ρ) >>= fun x => ((pure k_HOST : M D) >>= fun x => ((pure k_MOST_SEAT : M D) >>= fun x => (pure [] : M (List D)) >>= fun r => pure (x :: r)) >>= fun r => pure (x :: r)) >>= fun r => pure (x :: r)) >>= callM 3 m_require_from) fun _ => pure (VL.Flow.nx ρ))
    (fun ρ => stuck)
noncomputable def m_Bag_to : List D → M D := runF 4 f_Bag_to
theorem ok_Bag_to (T : Tp P w K mg) : FnOk P w K mg base (L2.CX P w) 4 T.a_Bag_to T.d_Bag_to ["self", "goal"] (spD T.cn 2 m_Bag_to) :=
  fnv_ok (c := T.cn) T.F_Bag_to rfl sc_Bag_to fun cdv A outer s0 H E hr => (vb_cons (vs_expr (ve_call (ok_require_from T) (hr.mono (by decide)) (by rfl) T.g_require_from T.F_require_from.kp T.b_require_from (takes_of rfl rfl rfl rfl) (vl_cons (vv 1 (lo_none rfl)) (vl_cons (ve_glob (d := k_HOST) (by rfl) T.c_HOST T.r_HOST T.q_HOST) (vl_cons (ve_glob (d := k_MOST_SEAT) (by rfl) T.c_MOST_SEAT T.r_MOST_SEAT T.q_MOST_SEAT) vl_nil))) (fun _ z => pe_callS (ok_require_from T) (hr.mono (by decide)) (by rfl) T.g_require_from T.F_require_from.kp T.b_require_from (fun σ => passAt (takes_of rfl rfl rfl rfl) σ) z)))
    (vb_one vs_never))
noncomputable def f_Bag_len : VL.Env → M VL.Flow := fun ρ => liftS ρ ((((rd 0 ρ) >>= attrM st_own_letters) >>= fun x => (pure [] : M (List D)) >>= fun r => pure (x :: r)) >>= lenD) fun d => pure (VL.Flow.rt d)
noncomputable def m_Bag_len : List D → M D := runF 1 f_Bag_len
theorem ok_Bag_len (T : Tp P w K mg) : FnOk P w K mg base (L2.CX P w) 1 T.a_Bag_len T.d_Bag_len ["self"] (spD T.cn 1 m_Bag_len) :=
  fnv_ok (c := T.cn) T.F_Bag_len rfl sc_Bag_len fun cdv A outer s0 H E hr => (vb_one (vs_ret (ve_callB (cv_len rfl) (by rfl) T.m_len (by decide +kernel) (vl_cons (ve_attr rfl T.st_own_letters (vv 0 (lo_none rfl))) vl_nil) (fun _ _ p q => pe_callB p (by rfl) T.m_len (by decide +kernel) q))))
noncomputable def f_Bag_eq : VL.Env → M VL.Flow := fun ρ => liftS ρ (andD ((((rd 1 ρ) >>= fun x => ((pure (D.cls "Bag") : M D) >>= fun x => (pure [] : M (List D)) >>= fun r => pure (x :: r)) >>= fun r => pure (x :: r)) >>= (isiO ownL))) ((((rd 0 ρ) >>= attrM st_own_letters) >>= fun x => ((rd 1 ρ) >>= attrM st_own_letters) >>= fun y => dEq x y))) fun d => pure (VL.Flow.rt d)
noncomputable def m_Bag_eq : List D → M D := runF 2 f_Bag_eq
theorem ok_Bag_eq (T : Tp P w K mg) : FnOk P w K mg base (L2.CX P w) 1 T.a_Bag_eq T.d_Bag_eq ["self", "other"] (spD T.cn 2 m_Bag_eq) :=
  fnv_ok (c := T.cn) T.F_Bag_eq rfl sc_Bag_eq fun cdv A outer s0 H E hr => (vb_one (vs_ret (ve_and (ve_callB (cv_isiO rfl T.ownK) (by rfl) T.m_isinstance (by decide +kernel) (vl_cons (vv 1 (lo_none rfl)) (vl_cons (ve_glob (d := .cls "Bag") (v := .ref T.C_Bag) (by rfl) T.g_Bag rfl (by intro φ H; simp only [Rep]; rfl)) vl_nil)) (fun _ _ p q => pe_callB p (by rfl) T.m_isinstance (by decide +kernel) q)) (ve_one (ve_cmp (opv_eq rfl hr.units) (ve_attr rfl T.st_own_letters (vv 0 (lo_none rfl))) (ve_attr rfl T.st_own_letters (vv 1 (lo_none rfl))) (nomark _))))))
noncomputable def f_Bag_str : VL.Env → M VL.Flow := fun ρ => liftS ρ (joinM ρ [fun ρ => (pure (D.str "bag of ") : M D), fun ρ => (((((rd 0 ρ) >>= attrM st_own_letters) >>= fun x => (pure [] : M (List D)) >>= fun r => pure (x :: r)) >>= lenD) >>= fmtD), fun ρ => (pure (D.str " letters") : M D)] Str.empty) fun d => pure (VL.Flow.rt d)
noncomputable def m_Bag_str : List D → M D := runF 1 f_Bag_str
theorem ok_Bag_str (T : Tp P w K mg) : FnOk P w K mg base (L2.CX P w) 1 T.a_Bag_str T.d_Bag_str ["self"] (spD T.cn 1 m_Bag_str) :=
  fnv_ok (c := T.cn) T.F_Bag_str rfl sc_Bag_str fun cdv A outer s0 H E hr => (vb_one (vs_ret (ve_joined (.cons ve_str (.cons (ve_fmt (ve_callB (cv_len rfl) (by rfl) T.m_len (by decide +kernel) (vl_cons (ve_attr rfl T.st_own_letters (vv 0 (lo_none rfl))) vl_nil) (fun _ _ p q => pe_callB p (by rfl) T.m_len (by decide +kernel) q))) (.cons ve_str .nil))))))
noncomputable def f_judged_handing : VL.Env → M VL.Flow := fun ρ => seqM (liftS ρ (((((rd 0 ρ) >>= fun x => ((pure (D.cls "Bag") : M D) >>= fun x => (pure [] : M (List D)) >>= fun r => pure (x :: r)) >>= fun r => pure (x :: r)) >>= (isiO ownL)) >>= asB) >>= fun b => pure (!b)) fun k => if k then (pure (VL.Flow.xc ρ ⟨"InvalidOperation", none⟩)) else (pure (VL.Flow.nx ρ)))
    (fun ρ => seqM (liftS ρ ((((rd 0 ρ) >>= attrM st_own_letters) >>= fun x => (pure [] : M (List D)) >>= fun r => pure (x :: r)) >>= lenD) fun d => pure (VL.Flow.nx (ρ.set 2 (some d))))
    (fun ρ => seqM (liftS ρ (tOr ((((((rd 1 ρ) >>= fun x => ((pure (D.ty "tuple") : M D) >>= fun x => (pure [] : M (List D)) >>= fun r => pure (x :: r)) >>= fun r => pure (x :: r)) >>= (isiO ownL)) >>= asB) >>= fun b => pure (!b))) ((((((((rd 1 ρ) >>= itOf) >>= fun it => ask (small it.items.length) >>= fun _ => loopC it (gN 5) (fun _ => pure true) (fun ρ => (((rd 5 ρ) >>= fun x => ((pure (D.int 0) : M D) >>= fun x => (((rd 2 ρ) >>= fun x => (pure (D.int 1) : M D) >>= fun y => dSub x y) >>= fun x => (pure [] : M (List D)) >>= fun r => pure (x :: r)) >>= fun r => pure (x :: r)) >>= fun r => pure (x :: r)) >>= callM 3 m_is_from)) (wipeE ρ [5]) it.items [] >>= frzL) >>= fun x => (pure [] : M (List D)) >>= fun r => pure (x :: r)) >>= (allD fun bs => bs.all id)) >>= asB) >>= fun b => pure (!b)))) fun k => if k then (pure (VL.Flow.xc ρ ⟨"InvalidOperation", none⟩)) else (pure (VL.Flow.nx ρ)))
    (fun ρ => seqM (stuck)
    (fun ρ => seqM (stuck)
    (fun ρ => stuck)))))
noncomputable def m_judged_handing : List D → M D := runF 6 f_judged_handing
theorem ok_judged_handing (T : Tp P w K mg) : FnOk P w K mg base (L2.CX P w) 3 T.a_judged_handing T.d_judged_handing ["bag", "handing"] (spD T.cn 2 m_judged_handing) :=
  fnv_ok (c := T.cn) T.F_judged_handing rfl sc_judged_handing fun cdv A outer s0 H E hr => (vb_cons (vs_if (vt_not (vt_val (ve_callB (cv_isiO rfl T.ownK) (by rfl) T.m_isinstance (by decide +kernel) (vl_cons (vv 0 (lo_none rfl)) (vl_cons (ve_glob (d := .cls "Bag") (v := .ref T.C_Bag) (by rfl) T.g_Bag rfl (by intro φ H; simp only [Rep]; rfl)) vl_nil)) (fun _ _ p q => pe_callB p (by rfl) T.m_isinstance (by decide +kernel) q)))) (vb_one (vs_raise (C := "InvalidOperation") rfl (takes_of rfl rfl rfl rfl) (pmk_own PySem.F.excBase_ValueError T.xc_InvalidOperation T.gx_InvalidOperation T.kx_InvalidOperation (raises_own T.bx_InvalidOperation T.tx_InvalidOperation) (by rfl)))) vb_nil)
    (vb_cons (vs_set (i := 2) (lo_none rfl) (fun z => absurd rfl z) sc_judged_handing.nd rfl (Or.inr rfl) (ve_callB (cv_len rfl) (by rfl) T.m_len (by decide +kernel) (vl_cons (ve_attr rfl T.st_own_letters (vv 0 (lo_none rfl))) vl_nil) (fun _ _ p q => pe_callB p (by rfl) T.m_len (by decide +kernel) q)))
    (vb_cons (vs_if (vt_of (vw_or (vt_not (vt_val (ve_callB (cv_isiO rfl T.ownK) (by rfl) T.m_isinstance (by decide +kernel) (vl_cons (vv 1 (lo_none rfl)) (vl_cons (ve_bltn (n := "tuple") (by rfl) T.m_tuple (by decide +kernel)) vl_nil)) (fun _ _ p q => pe_callB p (by rfl) T.m_isinstance (by decide +kernel) q)))) (vw_or1 (vt_not (vt_val (ve_callB (cv_all rfl rfl) (by rfl) T.m_all (by decide +kernel) (vl_cons (ve_lc fin_frz (own := [("number", 5)]) (fun i hi => ⟨lo_none rfl, fun z => absurd rfl z⟩) (by rfl) sc_judged_handing.nd (blkOk_by (own := [("number", 5)]) (N := N_judged_handing) (sc := defScope s_judged_handing) (by decide +kernel)) (vi_seq rfl (vv 1 (lo_none rfl))) (fun _ _ _ _ _ => (vg_name (i := 5) (lo_none rfl) (fun z => absurd rfl z) sc_judged_handing.nd rfl (Or.inl rfl))) (fun _ _ _ _ _ => vts_nil) (fun _ _ _ _ _ => (ve_call (ok_is_from T) (hr.mono (by decide)) (by rfl) T.g_is_from T.F_is_from.kp T.b_is_from takes_none5 (vl_cons (vv 5 (lo_none rfl)) (vl_cons ve_int (vl_cons (ve_op opv_sub (vv 2 (lo_none rfl)) ve_int) vl_nil))) (fun _ z => pe_callS (ok_is_from T) (hr.mono (by decide)) (by rfl) T.g_is_from T.F_is_from.kp T.b_is_from (fun σ => passAt takes_none5 σ) z))) (by decide)) vl_nil) (fun _ _ p q => pe_callB p (by rfl) T.m_all (by decide +kernel) q))))))) (vb_one (vs_raise (C := "InvalidOperation") rfl (takes_of rfl rfl rfl rfl) (pmk_own PySem.F.excBase_ValueError T.xc_InvalidOperation T.gx_InvalidOperation T.kx_InvalidOperation (raises_own T.bx_InvalidOperation T.tx_InvalidOperation) (by rfl)))) vb_nil)
    (vb_cons vs_never
    (vb_cons vs_never
    (vb_one vs_never))))))
noncomputable def f_l_dice : VL.Env → M VL.Flow := fun ρ => seqM (liftS ρ ((((rd 1 ρ) >>= fun x => (((rd 0 ρ) >>= fun x => (pure [] : M (List D)) >>= fun r => pure (x :: r)) >>= lenD) >>= fun y => dLt x y) >>= asB) >>= fun k => if k then ((((rd 0 ρ) >>= fun x => (rd 1 ρ) >>= fun y => dIx x y) >>= fun x => (pure [] : M (List D)) >>= fun r => pure (x :: r)) >>= intD) else (((pure (D.int 89) : M D) >>= fun x => (rd 1 ρ) >>= fun y => dMul x y) >>= fun x => (pure (D.int 53) : M D) >>= fun y => dAdd x y)) fun d => pure (VL.Flow.nx (ρ.set 2 (some d))))
    (fun ρ => seqM (liftS ρ ((((pure (D.int 0) : M D) >>= fun x => (((((rd 2 ρ) >>= fun x => (pure [] : M (List D)) >>= fun r => pure (x :: r)) >>= absD) >>= fun x => ((pure (D.int 10) : M D) >>= fun x => (pure (D.int 17) : M D) >>= fun y => dPow x y) >>= fun y => dSub x y) >>= fun x => (pure [] : M (List D)) >>= fun r => pure (x :: r)) >>= fun r => pure (x :: r)) >>= maxD) >>= fun x => (((pure (D.int 10) : M D) >>= fun x => (pure (D.int 57) : M D) >>= fun y => dPow x y) >>= fun x => ((pure (D.int 10) : M D) >>= fun x => (pure (D.int 60) : M D) >>= fun y => dPow x y) >>= fun y => dMul x y) >>= fun y => dMod x y) fun d => pure (VL.Flow.nx (ρ.set 3 (some d))))
    (fun ρ => liftS ρ (((rd 3 ρ) >>= fun x => (((((((((rd 2 ρ) >>= fun x => (pure [] : M (List D)) >>= fun r => pure (x :: r)) >>= absD) >>= fun x => (pure (D.int 1152921504606846817) : M D) >>= fun y => dMod x y) >>= fun x => (pure (D.int 83) : M D) >>= fun y => dMul x y) >>= fun x => ((pure (D.int 1009) : M D) >>= fun x => (rd 1 ρ) >>= fun y => dMul x y) >>= fun y => dAdd x y) >>= fun x => ((pure (D.int 43) : M D) >>= fun x => ((((rd 2 ρ) >>= fun x => (pure (D.int 0) : M D) >>= fun y => dLt x y) >>= fun x => (pure [] : M (List D)) >>= fun r => pure (x :: r)) >>= intD) >>= fun y => dMul x y) >>= fun y => dAdd x y) >>= fun x => (pure (D.int 29) : M D) >>= fun y => dAdd x y) >>= fun x => ((pure (D.int 0) : M D) >>= fun x => (pure [] : M (List D)) >>= fun r => pure (x :: r)) >>= fun r => pure (x :: r)) >>= fun r => pure (x :: r)) >>= mkNew) fun d => pure (VL.Flow.rt d)))
noncomputable def m_l_dice : List D → M D := runF 4 f_l_dice
theorem ok_l_dice (T : Tp P w K mg) : FnOk P w K mg base (L2.CX P w) 1 T.a_l_dice T.d_l_dice ["_law_script", "_law_spot"] (spD T.cn 2 m_l_dice) :=
  fnv_ok (c := T.cn) T.F_l_dice rfl sc_l_dice fun cdv A outer s0 H E hr => (vb_cons (vs_set (i := 2) (lo_none rfl) (fun z => absurd rfl z) sc_l_dice.nd rfl (Or.inl rfl) (ve_if (vt_cmp opv_lt (vv 1 (lo_none rfl)) (ve_callB (cv_len rfl) (by rfl) T.m_len (by decide +kernel) (vl_cons (vv 0 (lo_none rfl)) vl_nil) (fun _ _ p q => pe_callB p (by rfl) T.m_len (by decide +kernel) q)) (nomark _)) (ve_callT cv_int (by rfl) T.m_int (by decide +kernel) (vl_cons (ve_ix rfl (vv 0 (lo_none rfl)) (vv 1 (lo_none rfl)) (fun _ _ => rfl)) vl_nil) (fun _ _ p q => pe_callTy p (by rfl) T.m_int (by decide +kernel) q)) (ve_op (opv_add rfl) (ve_op opv_mul ve_int (vv 1 (lo_none rfl))) ve_int)))
    (vb_cons (vs_set (i := 3) (lo_none rfl) (fun z => absurd rfl z) sc_l_dice.nd rfl (Or.inl rfl) (ve_op opv_mod (ve_callB (cv_max rfl rfl) (by rfl) T.m_max (by decide +kernel) (vl_cons ve_int (vl_cons (ve_op opv_sub (ve_callB cv_abs (by rfl) T.m_abs (by decide +kernel) (vl_cons (vv 2 (lo_none rfl)) vl_nil) (fun _ _ p q => pe_callB p (by rfl) T.m_abs (by decide +kernel) q)) (ve_op opv_pow ve_int ve_int)) vl_nil)) (fun _ _ p q => pe_callB p (by rfl) T.m_max (by decide +kernel) q)) (ve_op opv_mul (ve_op opv_pow ve_int ve_int) (ve_op opv_pow ve_int ve_int))))
    (vb_one (vs_ret (ve_lstM (vl_cons (vv 3 (lo_none rfl)) (vl_cons (ve_op (opv_add rfl) (ve_op (opv_add rfl) (ve_op (opv_add rfl) (ve_op opv_mul (ve_op opv_mod (ve_callB cv_abs (by rfl) T.m_abs (by decide +kernel) (vl_cons (vv 2 (lo_none rfl)) vl_nil) (fun _ _ p q => pe_callB p (by rfl) T.m_abs (by decide +kernel) q)) ve_int) ve_int) (ve_op opv_mul ve_int (vv 1 (lo_none rfl)))) (ve_op opv_mul ve_int (ve_callT cv_int (by rfl) T.m_int (by decide +kernel) (vl_cons (ve_cmp opv_lt (vv 2 (lo_none rfl)) ve_int (nomark _)) vl_nil) (fun _ _ p q => pe_callTy p (by rfl) T.m_int (by decide +kernel) q)))) ve_int) (vl_cons ve_int vl_nil))))))))
noncomputable def f_l_roll : VL.Env → M VL.Flow := fun ρ => seqM (liftS ρ ((((rd 0 ρ) >>= fun x => (pure (D.int 0) : M D) >>= fun y => dIx x y) >>= fun x => (pure (D.int 0) : M D) >>= fun y => dGt x y) >>= asB) fun k => if k then (seqM (liftS ρ (((((rd 0 ρ) >>= fun x => (pure (D.int 0) : M D) >>= fun y => dIx x y) >>= fun x => (pure [] : M (List D)) >>= fun r => pure (x :: r)) >>= intD) >>= fun x => (rd 1 ρ) >>= fun y => dMod x y) fun d => pure (VL.Flow.nx (ρ.set 4 (some d))))
    (fun ρ => seqM (liftS ρ (((rd 0 ρ) >>= fun x => (pure (D.int 0) : M D) >>= fun y => dIx x y) >>= fun x => (rd 1 ρ) >>= fun y => dDiv x y) fun d => liftT ((gIx (fun ρ => (rd 0 ρ)) (fun ρ => (pure (D.int 0) : M D))) d ρ) fun ρ1 => pure (VL.Flow.nx ρ1))
    (fun ρ => liftS ρ (rd 4 ρ) fun d => pure (VL.Flow.rt d)))) else (pure (VL.Flow.nx ρ)))
    (fun ρ => seqM (liftS ρ (((rd 0 ρ) >>= fun x => (pure (D.int 2) : M D) >>= fun y => dIx x y) >>= fun x => (pure (D.int 1) : M D) >>= fun y => dAdd x y) fun d => liftT ((gIx (fun ρ => (rd 0 ρ)) (fun ρ => (pure (D.int 2) : M D))) d ρ) fun ρ1 => pure (VL.Flow.nx ρ1))
    (fun ρ => seqM (liftS ρ ((((((rd 0 ρ) >>= fun x => (pure (D.int 1) : M D) >>= fun y => dIx x y) >>= fun x => ((pure (D.int 67867979) : M D) >>= fun x => ((rd 0 ρ) >>= fun x => (pure (D.int 2) : M D) >>= fun y => dIx x y) >>= fun y => dMul x y) >>= fun y => dAdd x y) >>= fun x => (pure [] : M (List D)) >>= fun r => pure (x :: r)) >>= intD) >>= fun x => (pure (D.int 2305843009213693723) : M D) >>= fun y => dMod x y) fun d => pure (VL.Flow.nx (ρ.set 2 (some d))))
    (fun ρ => seqM (liftS ρ ((((((((rd 2 ρ) >>= fun x => (rd 2 ρ) >>= fun y => dMul x y) >>= fun x => ((pure (D.int 113) : M D) >>= fun x => ((rd 0 ρ) >>= fun x => (pure (D.int 2) : M D) >>= fun y => dIx x y) >>= fun y => dMul x y) >>= fun y => dAdd x y) >>= fun x => (pure [] : M (List D)) >>= fun r => pure (x :: r)) >>= intD) >>= fun x => (pure (D.int 2305843009213693487) : M D) >>= fun y => dMod x y) >>= fun x => (pure (D.int 6700417) : M D) >>= fun y => dMul x y) >>= fun x => (rd 2 ρ) >>= fun y => dAdd x y) fun d => pure (VL.Flow.nx (ρ.set 3 (some d))))
    (fun ρ => liftS ρ (((((rd 3 ρ) >>= fun x => (pure (D.int 65537) : M D) >>= fun y => dDiv x y) >>= fun x => (pure [] : M (List D)) >>= fun r => pure (x :: r)) >>= intD) >>= fun x => (rd 1 ρ) >>= fun y => dMod x y) fun d => pure (VL.Flow.rt d)))))
noncomputable def m_l_roll : List D → M D := runF 5 f_l_roll
theorem ok_l_roll (T : Tp P w K mg) : FnOk P w K mg base (L2.CX P w) 1 T.a_l_roll T.d_l_roll ["_law_dice_here", "_law_total"] (spD T.cn 2 m_l_roll) :=
  fnv_ok (c := T.cn) T.F_l_roll rfl sc_l_roll fun cdv A outer s0 H E hr => (vb_cons (vs_if (vt_cmp opv_gt (ve_ix rfl (vv 0 (lo_none rfl)) ve_int (fun _ _ => rfl)) ve_int (nomark _)) (vb_cons (vs_set (i := 4) (lo_none rfl) (fun z => absurd rfl z) sc_l_roll.nd rfl (Or.inl rfl) (ve_op opv_mod (ve_callT cv_int (by rfl) T.m_int (by decide +kernel) (vl_cons (ve_ix rfl (vv 0 (lo_none rfl)) ve_int (fun _ _ => rfl)) vl_nil) (fun _ _ p q => pe_callTy p (by rfl) T.m_int (by decide +kernel) q)) (vv 1 (lo_none rfl))))
    (vb_cons (vs_asg (ve_op opv_div (ve_ix rfl (vv 0 (lo_none rfl)) ve_int (fun _ _ => rfl)) (vv 1 (lo_none rfl))) (vg_ix rfl (vv 0 (lo_none rfl)) ve_int (fun _ _ z y => pg_sub z y set_list)))
    (vb_one (vs_ret (vv 4 (lo_none rfl)))))) vb_nil)
    (vb_cons (vs_asg (ve_op (opv_add rfl) (ve_ix rfl (vv 0 (lo_none rfl)) ve_int (fun _ _ => rfl)) ve_int) (vg_ix rfl (vv 0 (lo_none rfl)) ve_int (fun _ _ z y => pg_sub z y set_list)))
    (vb_cons (vs_set (i := 2) (lo_none rfl) (fun z => absurd rfl z) sc_l_roll.nd rfl (Or.inl rfl) (ve_op opv_mod (ve_callT cv_int (by rfl) T.m_int (by decide +kernel) (vl_cons (ve_op (opv_add rfl) (ve_ix rfl (vv 0 (lo_none rfl)) ve_int (fun _ _ => rfl)) (ve_op opv_mul ve_int (ve_ix rfl (vv 0 (lo_none rfl)) ve_int (fun _ _ => rfl)))) vl_nil) (fun _ _ p q => pe_callTy p (by rfl) T.m_int (by decide +kernel) q)) ve_int))
    (vb_cons (vs_set (i := 3) (lo_none rfl) (fun z => absurd rfl z) sc_l_roll.nd rfl (Or.inl rfl) (ve_op (opv_add rfl) (ve_op opv_mul (ve_op opv_mod (ve_callT cv_int (by rfl) T.m_int (by decide +kernel) (vl_cons (ve_op (opv_add rfl) (ve_op opv_mul (vv 2 (lo_none rfl)) (vv 2 (lo_none rfl))) (ve_op opv_mul ve_int (ve_ix rfl (vv 0 (lo_none rfl)) ve_int (fun _ _ => rfl)))) vl_nil) (fun _ _ p q => pe_callTy p (by rfl) T.m_int (by decide +kernel) q)) ve_int) ve_int) (vv 2 (lo_none rfl))))
    (vb_one (vs_ret (ve_op opv_mod (ve_callT cv_int (by rfl) T.m_int (by decide +kernel) (vl_cons (ve_op opv_div (vv 3 (lo_none rfl)) ve_int) vl_nil) (fun _ _ p q => pe_callTy p (by rfl) T.m_int (by decide +kernel) q)) (vv 1 (lo_none rfl)))))))))
noncomputable def f_l_pick : VL.Env → M VL.Flow := fun ρ => liftS ρ ((rd 1 ρ) >>= fun x => (((rd 0 ρ) >>= fun x => ((((rd 1 ρ) >>= fun x => (pure [] : M (List D)) >>= fun r => pure (x :: r)) >>= lenD) >>= fun x => (pure [] : M (List D)) >>= fun r => pure (x :: r)) >>= fun r => pure (x :: r)) >>= callM 2 m_l_roll) >>= fun y => dIx x y) fun d => pure (VL.Flow.rt d)
noncomputable def m_l_pick : List D → M D := runF 2 f_l_pick
theorem ok_l_pick (T : Tp P w K mg) : FnOk P w K mg base (L2.CX P w) 2 T.a_l_pick T.d_l_pick ["_law_dice_here", "_law_items"] (spD T.cn 2 m_l_pick) :=
  fnv_ok (c := T.cn) T.F_l_pick rfl sc_l_pick fun cdv A outer s0 H E hr => (vb_one (vs_ret (ve_ix rfl (vv 1 (lo_none rfl)) (ve_call (ok_l_roll T) (hr.mono (by decide)) (by rfl) T.g_l_roll T.F_l_roll.kp T.b_l_roll (takes_of rfl rfl rfl rfl) (vl_cons (vv 0 (lo_none rfl)) (vl_cons (ve_callB (cv_len rfl) (by rfl) T.m_len (by decide +kernel) (vl_cons (vv 1 (lo_none rfl)) vl_nil) (fun _ _ p q => pe_callB p (by rfl) T.m_len (by decide +kernel) q)) vl_nil)) (fun _ z => pe_callS (ok_l_roll T) (hr.mono (by decide)) (by rfl) T.g_l_roll T.F_l_roll.kp T.b_l_roll (fun σ => passAt (takes_of rfl rfl rfl rfl) σ) z)) (fun _ _ => rfl))))
noncomputable def r_l_met : VL.Env → M VL.Flow := fun ρ => liftS ρ (((pure (D.str "fine") : M D) >>= fun x => ((pure (D.str "") : M D) >>= fun x => (pure [] : M (List D)) >>= fun r => pure (x :: r)) >>= fun r => pure (x :: r)) >>= mkTup) fun d => pure (VL.Flow.rt d)
noncomputable def g_l_met : M D → M D := metM [(xo_InvalidLetter, fun _ => retOf ((fun ρ => liftS ρ (((pure (D.str "refused") : M D) >>= fun x => ((pure (D.str "letter") : M D) >>= fun x => (pure [] : M (List D)) >>= fun r => pure (x :: r)) >>= fun r => pure (x :: r)) >>= mkTup) fun d => pure (VL.Flow.rt d)) (List.replicate 2 none))), (xo_InvalidText, fun _ => retOf ((fun ρ => liftS ρ (((pure (D.str "refused") : M D) >>= fun x => ((pure (D.str "text") : M D) >>= fun x => (pure [] : M (List D)) >>= fun r => pure (x :: r)) >>= fun r => pure (x :: r)) >>= mkTup) fun d => pure (VL.Flow.rt d)) (List.replicate 2 none))), (xo_InvalidNumber, heldM "InvalidNumber" "given" (fun x => ((fun x => ((fun x => (fun x => (fun y => ((fun x => (fun x => pure x) x >>= fun y => pure [y]) : D → M (List D)) y >>= reprG) x >>= fun y => dAdd (.str "number ") y) x >>= fun y => pure [y]) : D → M (List D)) x >>= fun r => pure (.str "refused" :: r)) : D → M (List D)) x >>= mkTup)), (xo_InvalidOperation, fun _ => retOf ((fun ρ => liftS ρ (((pure (D.str "refused") : M D) >>= fun x => ((pure (D.str "operation") : M D) >>= fun x => (pure [] : M (List D)) >>= fun r => pure (x :: r)) >>= fun r => pure (x :: r)) >>= mkTup) fun d => pure (VL.Flow.rt d)) (List.replicate 2 none)))] (retOf (r_l_met (List.replicate 2 none)))
theorem gives_l_met {A : Around} {stack : List PySem.Env} {q : Str} (T : Tp P w K mg) (hgu : A.guards = some []) (hr : Room 1 A) : GivesToS P w K mg base A stack N_l_met "_law_met" (defScope s_l_met) T.a_l_met T.cv_l_met (defBody s_l_met) "_law_call" q (TTm T.cn g_l_met) :=
  met_gives (n := 2) (fun _ => rfl) (fun _ => rfl) rfl (fun s H => (vhds_cons (X := (metCx P w K mg base A stack N_l_met "_law_met" (defScope s_l_met) T.a_l_met T.cv_l_met s H).nox) (c := T.cn) (C := "InvalidLetter") (ex := xo_InvalidLetter) rfl ⟨by rfl, by decide, .inl T.gx_InvalidLetter⟩ T.exO_InvalidLetter (fun _ _ _ _ _ _ _ => (vb_one (vs_ret (ve_tup (vl_cons ve_str (vl_cons ve_str vl_nil)))))) (vhds_cons (X := (metCx P w K mg base A stack N_l_met "_law_met" (defScope s_l_met) T.a_l_met T.cv_l_met s H).nox) (c := T.cn) (C := "InvalidText") (ex := xo_InvalidText) rfl ⟨by rfl, by decide, .inl T.gx_InvalidText⟩ T.exO_InvalidText (fun _ _ _ _ _ _ _ => (vb_one (vs_ret (ve_tup (vl_cons ve_str (vl_cons ve_str vl_nil)))))) (vhds_named (X := (metCx P w K mg base A stack N_l_met "_law_met" (defScope s_l_met) T.a_l_met T.cv_l_met s H).nox) (c := T.cn) (C := "InvalidNumber") (fld := "given") (ex := xo_InvalidNumber) ⟨by rfl, by decide, .inl T.gx_InvalidNumber⟩ T.exO_InvalidNumber sc_l_met.nd rfl rfl (by decide) (fun a oe cls d pn z q => (vh_tup (vhl_str (vhl_one (vh_add (opv_add rfl) (vh_call (cv_reprG rfl (guards_suite hgu) (roomUm (hr.deeper _))) (vhl_one (vh_fld T.xf_InvalidNumber T.nf_InvalidNumber z q (pv 1))) (fun _ _ p q => pe_callB p (by rfl) T.m_repr (by decide +kernel) q))))))) (vhds_cons (X := (metCx P w K mg base A stack N_l_met "_law_met" (defScope s_l_met) T.a_l_met T.cv_l_met s H).nox) (c := T.cn) (C := "InvalidOperation") (ex := xo_InvalidOperation) rfl ⟨by rfl, by decide, .inl T.gx_InvalidOperation⟩ T.exO_InvalidOperation (fun _ _ _ _ _ _ _ => (vb_one (vs_ret (ve_tup (vl_cons ve_str (vl_cons ve_str vl_nil)))))) vhds_nil))))) (fun s H => (vb_one (vs_ret (ve_tup (vl_cons ve_str (vl_cons ve_str vl_nil))))))
noncomputable def f_l_odd_letters : VL.Env → M VL.Flow := fun ρ => seqM (liftS ρ (((pure D.non : M D) >>= fun x => ((pure (D.int 0) : M D) >>= fun x => ((pure (D.str "word") : M D) >>= fun x => (((pure [] : M (List D)) >>= mkTup) >>= fun x => (((pure [] : M (List D)) >>= mkLst) >>= fun x => ((pure (D.dct [] []) : M D) >>= fun x => ((((pure (D.str "word") : M D) >>= fun x => (pure [] : M (List D)) >>= fun r => pure (x :: r)) >>= mkTup) >>= fun x => ((((pure (D.str "word") : M D) >>= fun x => ((pure (D.int 1) : M D) >>= fun x => ((pure (D.str "go") : M D) >>= fun x => (pure [] : M (List D)) >>= fun r => pure (x :: r)) >>= fun r => pure (x :: r)) >>= fun r => pure (x :: r)) >>= mkLst) >>= fun x => ((((pure (D.str "word") : M D) >>= fun x => ((pure (D.int 0) : M D) >>= fun x => ((pure (D.str "go") : M D) >>= fun x => (pure [] : M (List D)) >>= fun r => pure (x :: r)) >>= fun r => pure (x :: r)) >>= fun r => pure (x :: r)) >>= mkTup) >>= fun x => ((((pure (D.str "word") : M D) >>= fun x => ((pure (D.int 6) : M D) >>= fun x => ((pure (D.str "go") : M D) >>= fun x => (pure [] : M (List D)) >>= fun r => pure (x :: r)) >>= fun r => pure (x :: r)) >>= fun r => pure (x :: r)) >>= mkTup) >>= fun x => ((((pure (D.str "word") : M D) >>= fun x => ((pure (D.bl true) : M D) >>= fun x => ((pure (D.str "go") : M D) >>= fun x => (pure [] : M (List D)) >>= fun r => pure (x :: r)) >>= fun r => pure (x :: r)) >>= fun r => pure (x :: r)) >>= mkTup) >>= fun x => ((((pure (D.str "word") : M D) >>= fun x => ((pure (D.int 1) : M D) >>= fun x => ((pure (D.str "went") : M D) >>= fun x => (pure [] : M (List D)) >>= fun r => pure (x :: r)) >>= fun r => pure (x :: r)) >>= fun r => pure (x :: r)) >>= mkTup) >>= fun x => (pure [] : M (List D)) >>= fun r => pure (x :: r)) >>= fun r => pure (x :: r)) >>= fun r => pure (x :: r)) >>= fun r => pure (x :: r)) >>= fun r => pure (x :: r)) >>= fun r => pure (x :: r)) >>= fun r => pure (x :: r)) >>= fun r => pure (x :: r)) >>= fun r => pure (x :: r)) >>= fun r => pure (x :: r)) >>= fun r => pure (x :: r)) >>= fun r => pure (x :: r)) >>= mkLst) fun d => pure (VL.Flow.nx (ρ.set 0 (some d))))
    (fun ρ => seqM (liftS ρ ((rd 0 ρ) >>= fun x => (((((pure (D.str "keys") : M D) >>= fun x => ((pure (D.int 1) : M D) >>= fun x => ((pure (D.int 0) : M D) >>= fun x => ((((pure (D.int 64) : M D) >>= fun x => (pure [] : M (List D)) >>= fun r => pure (x :: r)) >>= mkTup) >>= fun x => ((pure (D.int 0) : M D) >>= fun x => (pure [] : M (List D)) >>= fun r => pure (x :: r)) >>= fun r => pure (x :: r)) >>= fun r => pure (x :: r)) >>= fun r => pure (x :: r)) >>= fun r => pure (x :: r)) >>= mkTup) >>= fun x => ((((pure (D.str "keys") : M D) >>= fun x => ((pure (D.int 1) : M D) >>= fun x => ((pure (D.int 0) : M D) >>= fun x => ((((pure (D.int 0) : M D) >>= fun x => (pure [] : M (List D)) >>= fun r => pure (x :: r)) >>= mkLst) >>= fun x => ((pure (D.int 0) : M D) >>= fun x => (pure [] : M (List D)) >>= fun r => pure (x :: r)) >>= fun r => pure (x :: r)) >>= fun r => pure (x :: r)) >>= fun r => pure (x :: r)) >>= fun r => pure (x :: r)) >>= mkTup) >>= fun x => ((((pure (D.str "keys") : M D) >>= fun x => ((pure (D.int 1) : M D) >>= fun x => (((pure (D.int 1) : M D) >>= negD) >>= fun x => (((pure [] : M (List D)) >>= mkTup) >>= fun x => ((pure (D.int 0) : M D) >>= fun x => (pure [] : M (List D)) >>= fun r => pure (x :: r)) >>= fun r => pure (x :: r)) >>= fun r => pure (x :: r)) >>= fun r => pure (x :: r)) >>= fun r => pure (x :: r)) >>= mkTup) >>= fun x => ((((pure (D.str "keys") : M D) >>= fun x => ((pure (D.int 1) : M D) >>= fun x => ((pure (D.int 0) : M D) >>= fun x => (((pure [] : M (List D)) >>= mkTup) >>= fun x => ((pure (D.int 999999937) : M D) >>= fun x => (pure [] : M (List D)) >>= fun r => pure (x :: r)) >>= fun r => pure (x :: r)) >>= fun r => pure (x :: r)) >>= fun r => pure (x :: r)) >>= fun r => pure (x :: r)) >>= mkTup) >>= fun x => ((((pure (D.str "keys") : M D) >>= fun x => ((pure (D.int 1) : M D) >>= fun x => ((pure (D.int 0) : M D) >>= fun x => ((((pure (D.bl true) : M D) >>= fun x => (pure [] : M (List D)) >>= fun r => pure (x :: r)) >>= mkTup) >>= fun x => ((pure (D.int 0) : M D) >>= fun x => (pure [] : M (List D)) >>= fun r => pure (x :: r)) >>= fun r => pure (x :: r)) >>= fun r => pure (x :: r)) >>= fun r => pure (x :: r)) >>= fun r => pure (x :: r)) >>= mkTup) >>= fun x => (pure [] : M (List D)) >>= fun r => pure (x :: r)) >>= fun r => pure (x :: r)) >>= fun r => pure (x :: r)) >>= fun r => pure (x :: r)) >>= fun r => pure (x :: r)) >>= mkLst) >>= fun y => dAdd x y) fun d => pure (VL.Flow.nx (ρ.set 0 (some d))))
    (fun ρ => seqM (liftS ρ ((rd 0 ρ) >>= fun x => (((((pure (D.str "keys") : M D) >>= fun x => ((pure (D.int 1) : M D) >>= fun x => ((pure (D.int 0) : M D) >>= fun x => (((pure [] : M (List D)) >>= mkTup) >>= fun x => (pure [] : M (List D)) >>= fun r => pure (x :: r)) >>= fun r => pure (x :: r)) >>= fun r => pure (x :: r)) >>= fun r => pure (x :: r)) >>= mkTup) >>= fun x => ((((pure (D.str "keys") : M D) >>= fun x => ((pure (D.int 1) : M D) >>= fun x => ((pure (D.int 0) : M D) >>= fun x => (((((pure (D.int 0) : M D) >>= fun x => (pure [] : M (List D)) >>= fun r => pure (x :: r)) >>= mkTup) >>= fun x => (pure (D.int 21) : M D) >>= fun y => dMulL x y) >>= fun x => ((pure (D.int 0) : M D) >>= fun x => (pure [] : M (List D)) >>= fun r => pure (x :: r)) >>= fun r => pure (x :: r)) >>= fun r => pure (x :: r)) >>= fun r => pure (x :: r)) >>= fun r => pure (x :: r)) >>= mkTup) >>= fun x => ((((pure (D.str "rows") : M D) >>= fun x => ((pure (D.int 1) : M D) >>= fun x => ((pure (D.int 0) : M D) >>= fun x => (((((pure [] : M (List D)) >>= mkTup) >>= fun x => (pure [] : M (List D)) >>= fun r => pure (x :: r)) >>= mkTup) >>= fun x => (pure [] : M (List D)) >>= fun r => pure (x :: r)) >>= fun r => pure (x :: r)) >>= fun r => pure (x :: r)) >>= fun r => pure (x :: r)) >>= mkTup) >>= fun x => ((((pure (D.str "rows") : M D) >>= fun x => ((pure (D.int 1) : M D) >>= fun x => ((pure (D.int 0) : M D) >>= fun x => ((((((pure (D.int 1) : M D) >>= fun x => (pure [] : M (List D)) >>= fun r => pure (x :: r)) >>= mkTup) >>= fun x => ((((pure (D.int 1) : M D) >>= fun x => ((pure (D.int 2) : M D) >>= fun x => (pure [] : M (List D)) >>= fun r => pure (x :: r)) >>= fun r => pure (x :: r)) >>= mkTup) >>= fun x => (pure [] : M (List D)) >>= fun r => pure (x :: r)) >>= fun r => pure (x :: r)) >>= mkTup) >>= fun x => (pure [] : M (List D)) >>= fun r => pure (x :: r)) >>= fun r => pure (x :: r)) >>= fun r => pure (x :: r)) >>= fun r => pure (x :: r)) >>= mkTup) >>= fun x => ((((pure (D.str "rows") : M D) >>= fun x => ((pure (D.int 1) : M D) >>= fun x => ((pure (D.int 0) : M D) >>= fun x => (((((((pure (D.int 2) : M D) >>= negD) >>= fun x => (pure [] : M (List D)) >>= fun r => pure (x :: r)) >>= mkTup) >>= fun x => (pure [] : M (List D)) >>= fun r => pure (x :: r)) >>= mkTup) >>= fun x => (pure [] : M (List D)) >>= fun r => pure (x :: r)) >>= fun r => pure (x :: r)) >>= fun r => pure (x :: r)) >>= fun r => pure (x :: r)) >>= mkTup) >>= fun x => (pure [] : M (List D)) >>= fun r => pure (x :: r)) >>= fun r => pure (x :: r)) >>= fun r => pure (x :: r)) >>= fun r => pure (x :: r)) >>= fun r => pure (x :: r)) >>= mkLst) >>= fun y => dAdd x y) fun d => pure (VL.Flow.nx (ρ.set 0 (some d))))
    (fun ρ => seqM (liftS ρ ((rd 0 ρ) >>= fun x => (((((pure (D.str "rows") : M D) >>= fun x => ((pure (D.int 1) : M D) >>= fun x => ((pure (D.int 0) : M D) >>= fun x => (((((((pure (D.int 1) : M D) >>= fun x => (pure [] : M (List D)) >>= fun r => pure (x :: r)) >>= mkTup) >>= fun x => (pure (D.int 5) : M D) >>= fun y => dMulL x y) >>= fun x => (pure [] : M (List D)) >>= fun r => pure (x :: r)) >>= mkTup) >>= fun x => (pure [] : M (List D)) >>= fun r => pure (x :: r)) >>= fun r => pure (x :: r)) >>= fun r => pure (x :: r)) >>= fun r => pure (x :: r)) >>= mkTup) >>= fun x => ((((pure (D.str "rows") : M D) >>= fun x => ((pure (D.int 1) : M D) >>= fun x => ((pure (D.int 0) : M D) >>= fun x => (((((((pure (D.int 1) : M D) >>= fun x => (pure [] : M (List D)) >>= fun r => pure (x :: r)) >>= mkTup) >>= fun x => (pure [] : M (List D)) >>= fun r => pure (x :: r)) >>= mkTup) >>= fun x => (pure (D.int 33) : M D) >>= fun y => dMulL x y) >>= fun x => (pure [] : M (List D)) >>= fun r => pure (x :: r)) >>= fun r => pure (x :: r)) >>= fun r => pure (x :: r)) >>= fun r => pure (x :: r)) >>= mkTup) >>= fun x => ((((pure (D.str "rows") : M D) >>= fun x => ((pure (D.int 1) : M D) >>= fun x => ((pure (D.str "0") : M D) >>= fun x => (((pure [] : M (List D)) >>= mkTup) >>= fun x => (pure [] : M (List D)) >>= fun r => pure (x :: r)) >>= fun r => pure (x :: r)) >>= fun r => pure (x :: r)) >>= fun r => pure (x :: r)) >>= mkTup) >>= fun x => ((((pure (D.str "rows") : M D) >>= fun x => ((pure (D.int 1) : M D) >>= fun x => ((pure (D.int 0) : M D) >>= fun x => ((((pure (D.int 5) : M D) >>= fun x => (pure [] : M (List D)) >>= fun r => pure (x :: r)) >>= mkTup) >>= fun x => (pure [] : M (List D)) >>= fun r => pure (x :: r)) >>= fun r => pure (x :: r)) >>= fun r => pure (x :: r)) >>= fun r => pure (x :: r)) >>= mkTup) >>= fun x => ((((pure (D.str "rows") : M D) >>= fun x => ((pure (D.int 1) : M D) >>= fun x => ((pure (D.int 0) : M D) >>= fun x => ((pure D.non : M D) >>= fun x => (pure [] : M (List D)) >>= fun r => pure (x :: r)) >>= fun r => pure (x :: r)) >>= fun r => pure (x :: r)) >>= fun r => pure (x :: r)) >>= mkTup) >>= fun x => (pure [] : M (List D)) >>= fun r => pure (x :: r)) >>= fun r => pure (x :: r)) >>= fun r => pure (x :: r)) >>= fun r => pure (x :: r)) >>= fun r => pure (x :: r)) >>= mkLst) >>= fun y => dAdd x y) fun d => pure (VL.Flow.nx (ρ.set 0 (some d))))
    (fun ρ => seqM (liftS ρ ((rd 0 ρ) >>= fun x => (((((pure (D.str "piece") : M D) >>= fun x => ((pure (D.int 1) : M D) >>= fun x => ((pure (D.int 0) : M D) >>= fun x => ((pure (D.int 0) : M D) >>= fun x => ((pure (D.int 0) : M D) >>= fun x => ((pure (D.str "x") : M D) >>= fun x => (pure [] : M (List D)) >>= fun r => pure (x :: r)) >>= fun r => pure (x :: r)) >>= fun r => pure (x :: r)) >>= fun r => pure (x :: r)) >>= fun r => pure (x :: r)) >>= fun r => pure (x :: r)) >>= mkTup) >>= fun x => ((((pure (D.str "piece") : M D) >>= fun x => ((pure (D.int 1) : M D) >>= fun x => ((pure (D.int 0) : M D) >>= fun x => ((pure (D.int 3) : M D) >>= fun x => ((pure (D.int 3) : M D) >>= fun x => ((pure (D.str "x") : M D) >>= fun x => (pure [] : M (List D)) >>= fun r => pure (x :: r)) >>= fun r => pure (x :: r)) >>= fun r => pure (x :: r)) >>= fun r => pure (x :: r)) >>= fun r => pure (x :: r)) >>= fun r => pure (x :: r)) >>= mkTup) >>= fun x => ((((pure (D.str "piece") : M D) >>= fun x => ((pure (D.int 1) : M D) >>= fun x => ((pure (D.int 0) : M D) >>= fun x => ((pure (D.int 0) : M D) >>= fun x => ((pure (D.int 101) : M D) >>= fun x => ((pure (D.str "x") : M D) >>= fun x => (pure [] : M (List D)) >>= fun r => pure (x :: r)) >>= fun r => pure (x :: r)) >>= fun r => pure (x :: r)) >>= fun r => pure (x :: r)) >>= fun r => pure (x :: r)) >>= fun r => pure (x :: r)) >>= mkTup) >>= fun x => ((((pure (D.str "piece") : M D) >>= fun x => ((pure (D.int 1) : M D) >>= fun x => ((pure (D.int 0) : M D) >>= fun x => ((pure (D.int 0) : M D) >>= fun x => ((pure (D.int 1) : M D) >>= fun x => ((pure (D.str "") : M D) >>= fun x => (pure [] : M (List D)) >>= fun r => pure (x :: r)) >>= fun r => pure (x :: r)) >>= fun r => pure (x :: r)) >>= fun r => pure (x :: r)) >>= fun r => pure (x :: r)) >>= fun r => pure (x :: r)) >>= mkTup) >>= fun x => ((((pure (D.str "piece") : M D) >>= fun x => ((pure (D.int 1) : M D) >>= fun x => ((pure (D.int 0) : M D) >>= fun x => ((pure (D.int 0) : M D) >>= fun x => ((pure (D.int 1) : M D) >>= fun x => (((pure (D.str "x") : M D) >>= fun x => (pure (D.int 201) : M D) >>= fun y => dMulL x y) >>= fun x => (pure [] : M (List D)) >>= fun r => pure (x :: r)) >>= fun r => pure (x :: r)) >>= fun r => pure (x :: r)) >>= fun r => pure (x :: r)) >>= fun r => pure (x :: r)) >>= fun r => pure (x :: r)) >>= mkTup) >>= fun x => (pure [] : M (List D)) >>= fun r => pure (x :: r)) >>= fun r => pure (x :: r)) >>= fun r => pure (x :: r)) >>= fun r => pure (x :: r)) >>= fun r => pure (x :: r)) >>= mkLst) >>= fun y => dAdd x y) fun d => pure (VL.Flow.nx (ρ.set 0 (some d))))
    (fun ρ => liftS ρ ((rd 0 ρ) >>= fun x => (((((pure (D.str "piece") : M D) >>= fun x => ((pure (D.int 1) : M D) >>= fun x => ((pure (D.int 0) : M D) >>= fun x => ((pure (D.int 0) : M D) >>= fun x => ((pure (D.int 1) : M D) >>= fun x => ((pure (D.str "a\nb") : M D) >>= fun x => (pure [] : M (List D)) >>= fun r => pure (x :: r)) >>= fun r => pure (x :: r)) >>= fun r => pure (x :: r)) >>= fun r => pure (x :: r)) >>= fun r => pure (x :: r)) >>= fun r => pure (x :: r)) >>= mkTup) >>= fun x => ((((pure (D.str "piece") : M D) >>= fun x => ((pure (D.int 1) : M D) >>= fun x => ((pure (D.int 0) : M D) >>= fun x => (((pure (D.int 1) : M D) >>= negD) >>= fun x => ((pure (D.int 1) : M D) >>= fun x => ((pure (D.str "x") : M D) >>= fun x => (pure [] : M (List D)) >>= fun r => pure (x :: r)) >>= fun r => pure (x :: r)) >>= fun r => pure (x :: r)) >>= fun r => pure (x :: r)) >>= fun r => pure (x :: r)) >>= fun r => pure (x :: r)) >>= mkTup) >>= fun x => ((((pure (D.str "piece") : M D) >>= fun x => ((pure (D.int 1) : M D) >>= fun x => ((pure D.non : M D) >>= fun x => ((pure (D.int 0) : M D) >>= fun x => ((pure (D.int 1) : M D) >>= fun x => ((pure (D.str "x") : M D) >>= fun x => (pure [] : M (List D)) >>= fun r => pure (x :: r)) >>= fun r => pure (x :: r)) >>= fun r => pure (x :: r)) >>= fun r => pure (x :: r)) >>= fun r => pure (x :: r)) >>= fun r => pure (x :: r)) >>= mkTup) >>= fun x => ((((pure (D.str "print") : M D) >>= fun x => ((pure (D.int 1) : M D) >>= fun x => ((pure (D.int 0) : M D) >>= fun x => (pure [] : M (List D)) >>= fun r => pure (x :: r)) >>= fun r => pure (x :: r)) >>= fun r => pure (x :: r)) >>= mkTup) >>= fun x => ((((pure (D.int 1) : M D) >>= fun x => ((pure (D.str "word") : M D) >>= fun x => ((pure (D.str "go") : M D) >>= fun x => (pure [] : M (List D)) >>= fun r => pure (x :: r)) >>= fun r => pure (x :: r)) >>= fun r => pure (x :: r)) >>= mkTup) >>= fun x => ((((pure (D.str "word") : M D) >>= fun x => ((pure (D.int 1) : M D) >>= fun x => ((pure D.non : M D) >>= fun x => (pure [] : M (List D)) >>= fun r => pure (x :: r)) >>= fun r => pure (x :: r)) >>= fun r => pure (x :: r)) >>= mkTup) >>= fun x => (pure [] : M (List D)) >>= fun r => pure (x :: r)) >>= fun r => pure (x :: r)) >>= fun r => pure (x :: r)) >>= fun r => pure (x :: r)) >>= fun r => pure (x :: r)) >>= fun r => pure (x :: r)) >>= mkLst) >>= fun y => dAdd x y) fun d => pure (VL.Flow.rt d))))))
noncomputable def m_l_odd_letters : List D → M D := runF 1 f_l_odd_letters
theorem ok_l_odd_letters (T : Tp P w K mg) : FnOk P w K mg base (L2.CX P w) 1 T.a_l_odd_letters T.d_l_odd_letters [] (spD T.cn 0 m_l_odd_letters) :=
  fnv_ok (c := T.cn) T.F_l_odd_letters rfl sc_l_odd_letters fun cdv A outer s0 H E hr => (vb_cons (vs_set (i := 0) (lo_none rfl) (fun z => absurd rfl z) sc_l_odd_letters.nd rfl (Or.inl rfl) (ve_lst (vl_cons ve_non (vl_cons ve_int (vl_cons ve_str (vl_cons (ve_tup vl_nil) (vl_cons (ve_lst vl_nil) (vl_cons ve_dnewF (vl_cons (ve_tup (vl_cons ve_str vl_nil)) (vl_cons (ve_lst (vl_cons ve_str (vl_cons ve_int (vl_cons ve_str vl_nil)))) (vl_cons (ve_tup (vl_cons ve_str (vl_cons ve_int (vl_cons ve_str vl_nil)))) (vl_cons (ve_tup (vl_cons ve_str (vl_cons ve_int (vl_cons ve_str vl_nil)))) (vl_cons (ve_tup (vl_cons ve_str (vl_cons ve_bl (vl_cons ve_str vl_nil)))) (vl_cons (ve_tup (vl_cons ve_str (vl_cons ve_int (vl_cons ve_str vl_nil)))) vl_nil))))))))))))))
    (vb_cons (vs_set (i := 0) (lo_none rfl) (fun z => absurd rfl z) sc_l_odd_letters.nd rfl (Or.inl rfl) (ve_op (opv_add rfl) (vv 0 (lo_none rfl)) (ve_lst (vl_cons (ve_tup (vl_cons ve_str (vl_cons ve_int (vl_cons ve_int (vl_cons (ve_tup (vl_cons ve_int vl_nil)) (vl_cons ve_int vl_nil)))))) (vl_cons (ve_tup (vl_cons ve_str (vl_cons ve_int (vl_cons ve_int (vl_cons (ve_lst (vl_cons ve_int vl_nil)) (vl_cons ve_int vl_nil)))))) (vl_cons (ve_tup (vl_cons ve_str (vl_cons ve_int (vl_cons (ve_neg ve_int) (vl_cons (ve_tup vl_nil) (vl_cons ve_int vl_nil)))))) (vl_cons (ve_tup (vl_cons ve_str (vl_cons ve_int (vl_cons ve_int (vl_cons (ve_tup vl_nil) (vl_cons ve_int vl_nil)))))) (vl_cons (ve_tup (vl_cons ve_str (vl_cons ve_int (vl_cons ve_int (vl_cons (ve_tup (vl_cons ve_bl vl_nil)) (vl_cons ve_int vl_nil)))))) vl_nil))))))))
    (vb_cons (vs_set (i := 0) (lo_none rfl) (fun z => absurd rfl z) sc_l_odd_letters.nd rfl (Or.inl rfl) (ve_op (opv_add rfl) (vv 0 (lo_none rfl)) (ve_lst (vl_cons (ve_tup (vl_cons ve_str (vl_cons ve_int (vl_cons ve_int (vl_cons (ve_tup vl_nil) vl_nil))))) (vl_cons (ve_tup (vl_cons ve_str (vl_cons ve_int (vl_cons ve_int (vl_cons (ve_op (opv_mulL rfl) (ve_tup (vl_cons ve_int vl_nil)) ve_int) (vl_cons ve_int vl_nil)))))) (vl_cons (ve_tup (vl_cons ve_str (vl_cons ve_int (vl_cons ve_int (vl_cons (ve_tup (vl_cons (ve_tup vl_nil) vl_nil)) vl_nil))))) (vl_cons (ve_tup (vl_cons ve_str (vl_cons ve_int (vl_cons ve_int (vl_cons (ve_tup (vl_cons (ve_tup (vl_cons ve_int vl_nil)) (vl_cons (ve_tup (vl_cons ve_int (vl_cons ve_int vl_nil))) vl_nil))) vl_nil))))) (vl_cons (ve_tup (vl_cons ve_str (vl_cons ve_int (vl_cons ve_int (vl_cons (ve_tup (vl_cons (ve_tup (vl_cons (ve_neg ve_int) vl_nil)) vl_nil)) vl_nil))))) vl_nil))))))))
    (vb_cons (vs_set (i := 0) (lo_none rfl) (fun z => absurd rfl z) sc_l_odd_letters.nd rfl (Or.inl rfl) (ve_op (opv_add rfl) (vv 0 (lo_none rfl)) (ve_lst (vl_cons (ve_tup (vl_cons ve_str (vl_cons ve_int (vl_cons ve_int (vl_cons (ve_tup (vl_cons (ve_op (opv_mulL rfl) (ve_tup (vl_cons ve_int vl_nil)) ve_int) vl_nil)) vl_nil))))) (vl_cons (ve_tup (vl_cons ve_str (vl_cons ve_int (vl_cons ve_int (vl_cons (ve_op (opv_mulL rfl) (ve_tup (vl_cons (ve_tup (vl_cons ve_int vl_nil)) vl_nil)) ve_int) vl_nil))))) (vl_cons (ve_tup (vl_cons ve_str (vl_cons ve_int (vl_cons ve_str (vl_cons (ve_tup vl_nil) vl_nil))))) (vl_cons (ve_tup (vl_cons ve_str (vl_cons ve_int (vl_cons ve_int (vl_cons (ve_tup (vl_cons ve_int vl_nil)) vl_nil))))) (vl_cons (ve_tup (vl_cons ve_str (vl_cons ve_int (vl_cons ve_int (vl_cons ve_non vl_nil))))) vl_nil))))))))
    (vb_cons (vs_set (i := 0) (lo_none rfl) (fun z => absurd rfl z) sc_l_odd_letters.nd rfl (Or.inl rfl) (ve_op (opv_add rfl) (vv 0 (lo_none rfl)) (ve_lst (vl_cons (ve_tup (vl_cons ve_str (vl_cons ve_int (vl_cons ve_int (vl_cons ve_int (vl_cons ve_int (vl_cons ve_str vl_nil))))))) (vl_cons (ve_tup (vl_cons ve_str (vl_cons ve_int (vl_cons ve_int (vl_cons ve_int (vl_cons ve_int (vl_cons ve_str vl_nil))))))) (vl_cons (ve_tup (vl_cons ve_str (vl_cons ve_int (vl_cons ve_int (vl_cons ve_int (vl_cons ve_int (vl_cons ve_str vl_nil))))))) (vl_cons (ve_tup (vl_cons ve_str (vl_cons ve_int (vl_cons ve_int (vl_cons ve_int (vl_cons ve_int (vl_cons ve_str vl_nil))))))) (vl_cons (ve_tup (vl_cons ve_str (vl_cons ve_int (vl_cons ve_int (vl_cons ve_int (vl_cons ve_int (vl_cons (ve_op (opv_mulL rfl) ve_str ve_int) vl_nil))))))) vl_nil))))))))
    (vb_one (vs_ret (ve_op (opv_add rfl) (vv 0 (lo_none rfl)) (ve_lst (vl_cons (ve_tup (vl_cons ve_str (vl_cons ve_int (vl_cons ve_int (vl_cons ve_int (vl_cons ve_int (vl_cons ve_str vl_nil))))))) (vl_cons (ve_tup (vl_cons ve_str (vl_cons ve_int (vl_cons ve_int (vl_cons (ve_neg ve_int) (vl_cons ve_int (vl_cons ve_str vl_nil))))))) (vl_cons (ve_tup (vl_cons ve_str (vl_cons ve_int (vl_cons ve_non (vl_cons ve_int (vl_cons ve_int (vl_cons ve_str vl_nil))))))) (vl_cons (ve_tup (vl_cons ve_str (vl_cons ve_int (vl_cons ve_int vl_nil)))) (vl_cons (ve_tup (vl_cons ve_int (vl_cons ve_str (vl_cons ve_str vl_nil)))) (vl_cons (ve_tup (vl_cons ve_str (vl_cons ve_int (vl_cons ve_non vl_nil)))) vl_nil)))))))))))))))
noncomputable def s_l_right_0 : VL.Env → M VL.Flow := fun ρ => liftS ρ (((((rd 0 ρ) >>= fun x => ((noX (m_l_odd_letters [])) >>= fun x => (pure [] : M (List D)) >>= fun r => pure (x :: r)) >>= fun r => pure (x :: r)) >>= callM 2 m_l_pick) >>= fun x => ((((pure (D.str "word") : M D) >>= fun x => ((pure (D.int 3) : M D) >>= fun x => ((pure (D.str "go") : M D) >>= fun x => (pure [] : M (List D)) >>= fun r => pure (x :: r)) >>= fun r => pure (x :: r)) >>= fun r => pure (x :: r)) >>= mkTup) >>= fun x => (pure [] : M (List D)) >>= fun r => pure (x :: r)) >>= fun r => pure (x :: r)) >>= mkTup) fun d => liftT ((gT 2 (gsCons (gN 1) (gsCons (gN 2) gsNil))) d ρ) fun ρ1 => pure (VL.Flow.nx ρ1)
noncomputable def s_l_right_1 : VL.Env → M VL.Flow := fun ρ => liftS ρ (((((rd 2 ρ) >>= fun x => ((((pure (D.str "rows") : M D) >>= fun x => ((pure (D.int 2) : M D) >>= fun x => ((pure (D.int 0) : M D) >>= fun x => (((pure [] : M (List D)) >>= mkTup) >>= fun x => (pure [] : M (List D)) >>= fun r => pure (x :: r)) >>= fun r => pure (x :: r)) >>= fun r => pure (x :: r)) >>= fun r => pure (x :: r)) >>= mkTup) >>= fun x => ((((pure (D.str "keys") : M D) >>= fun x => ((pure (D.int 2) : M D) >>= fun x => ((pure (D.int 1) : M D) >>= fun x => ((((pure (D.int 7) : M D) >>= fun x => (pure [] : M (List D)) >>= fun r => pure (x :: r)) >>= mkTup) >>= fun x => ((pure (D.int 5) : M D) >>= fun x => (pure [] : M (List D)) >>= fun r => pure (x :: r)) >>= fun r => pure (x :: r)) >>= fun r => pure (x :: r)) >>= fun r => pure (x :: r)) >>= fun r => pure (x :: r)) >>= mkTup) >>= fun x => (pure [] : M (List D)) >>= fun r => pure (x :: r)) >>= fun r => pure (x :: r)) >>= fun r => pure (x :: r)) >>= mkTup) >>= fun x => (pure [] : M (List D)) >>= fun r => pure (x :: r)) >>= fun ds => newM "Bag" 2 m_Bag_init (ds ++ [])) fun d => pure (VL.Flow.nx (ρ.set 3 (some d)))
noncomputable def s_l_right_2 : VL.Env → M VL.Flow := fun ρ => liftS ρ (((rd 0 ρ) >>= fun x => ((((pure D.non : M D) >>= fun x => (((pure (D.int 1) : M D) >>= negD) >>= fun x => ((pure (D.int 3) : M D) >>= fun x => ((pure (D.bl true) : M D) >>= fun x => ((pure (D.str "0") : M D) >>= fun x => ((((pure (D.int 0) : M D) >>= fun x => (pure [] : M (List D)) >>= fun r => pure (x :: r)) >>= mkTup) >>= fun x => (((pure (D.int 10) : M D) >>= fun x => (pure (D.int 60) : M D) >>= fun y => dPow x y) >>= fun x => ((pure (D.int 99) : M D) >>= fun x => (pure [] : M (List D)) >>= fun r => pure (x :: r)) >>= fun r => pure (x :: r)) >>= fun r => pure (x :: r)) >>= fun r => pure (x :: r)) >>= fun r => pure (x :: r)) >>= fun r => pure (x :: r)) >>= fun r => pure (x :: r)) >>= fun r => pure (x :: r)) >>= mkLst) >>= fun x => (pure [] : M (List D)) >>= fun r => pure (x :: r)) >>= fun r => pure (x :: r)) >>= callM 2 m_l_pick) fun d => pure (VL.Flow.nx (ρ.set 4 (some d)))
noncomputable def s_l_right_3 : VL.Env → M VL.Flow := fun ρ => liftS ρ (((rd 0 ρ) >>= fun x => ((((pure D.non : M D) >>= fun x => (((pure (D.int 2) : M D) >>= negD) >>= fun x => ((pure (D.int 6) : M D) >>= fun x => ((pure (D.bl true) : M D) >>= fun x => ((pure (D.str "1") : M D) >>= fun x => ((((pure (D.int 1) : M D) >>= fun x => (pure [] : M (List D)) >>= fun r => pure (x :: r)) >>= mkTup) >>= fun x => (((pure (D.int 10) : M D) >>= fun x => (pure (D.int 60) : M D) >>= fun y => dPow x y) >>= fun x => (pure [] : M (List D)) >>= fun r => pure (x :: r)) >>= fun r => pure (x :: r)) >>= fun r => pure (x :: r)) >>= fun r => pure (x :: r)) >>= fun r => pure (x :: r)) >>= fun r => pure (x :: r)) >>= fun r => pure (x :: r)) >>= mkLst) >>= fun x => (pure [] : M (List D)) >>= fun r => pure (x :: r)) >>= fun r => pure (x :: r)) >>= callM 2 m_l_pick) fun d => pure (VL.Flow.nx (ρ.set 5 (some d)))
noncomputable def s_l_right_4 : VL.Env → M VL.Flow := fun ρ => liftS ρ (((rd 0 ρ) >>= fun x => ((((pure D.non : M D) >>= fun x => ((pure (D.int 5) : M D) >>= fun x => ((((pure (D.str "t0:") : M D) >>= fun x => (pure [] : M (List D)) >>= fun r => pure (x :: r)) >>= mkLst) >>= fun x => ((pure (D.str "a\nb") : M D) >>= fun x => ((((pure (D.str "t0:") : M D) >>= fun x => (pure [] : M (List D)) >>= fun r => pure (x :: r)) >>= mkTup) >>= fun x => ((pure (D.dct [] []) : M D) >>= fun x => ((pure (D.bl true) : M D) >>= fun x => (pure [] : M (List D)) >>= fun r => pure (x :: r)) >>= fun r => pure (x :: r)) >>= fun r => pure (x :: r)) >>= fun r => pure (x :: r)) >>= fun r => pure (x :: r)) >>= fun r => pure (x :: r)) >>= fun r => pure (x :: r)) >>= mkLst) >>= fun x => (pure [] : M (List D)) >>= fun r => pure (x :: r)) >>= fun r => pure (x :: r)) >>= callM 2 m_l_pick) fun d => pure (VL.Flow.nx (ρ.set 6 (some d)))
noncomputable def s_l_right_5 : VL.Env → M VL.Flow := fun ρ => liftS ρ (((rd 0 ρ) >>= fun x => ((((pure D.non : M D) >>= fun x => (((pure [] : M (List D)) >>= mkTup) >>= fun x => ((((rd 2 ρ) >>= fun x => (pure [] : M (List D)) >>= fun r => pure (x :: r)) >>= mkTup) >>= fun x => ((((rd 3 ρ) >>= fun x => (pure [] : M (List D)) >>= fun r => pure (x :: r)) >>= mkLst) >>= fun x => ((pure (D.int 0) : M D) >>= fun x => ((pure (D.str "bag") : M D) >>= fun x => ((rd 2 ρ) >>= fun x => (pure [] : M (List D)) >>= fun r => pure (x :: r)) >>= fun r => pure (x :: r)) >>= fun r => pure (x :: r)) >>= fun r => pure (x :: r)) >>= fun r => pure (x :: r)) >>= fun r => pure (x :: r)) >>= fun r => pure (x :: r)) >>= mkLst) >>= fun x => (pure [] : M (List D)) >>= fun r => pure (x :: r)) >>= fun r => pure (x :: r)) >>= callM 2 m_l_pick) fun d => pure (VL.Flow.nx (ρ.set 7 (some d)))
noncomputable def s_l_right_6 : VL.Env → M VL.Flow := fun ρ => liftS ρ (((rd 0 ρ) >>= fun x => ((((pure D.non : M D) >>= fun x => ((((pure (D.int 0) : M D) >>= fun x => (pure [] : M (List D)) >>= fun r => pure (x :: r)) >>= mkLst) >>= fun x => ((((pure (D.int 3) : M D) >>= fun x => (pure [] : M (List D)) >>= fun r => pure (x :: r)) >>= mkTup) >>= fun x => (((((pure (D.int 1) : M D) >>= negD) >>= fun x => (pure [] : M (List D)) >>= fun r => pure (x :: r)) >>= mkTup) >>= fun x => ((((pure (D.bl true) : M D) >>= fun x => (pure [] : M (List D)) >>= fun r => pure (x :: r)) >>= mkTup) >>= fun x => ((((pure (D.str "0") : M D) >>= fun x => (pure [] : M (List D)) >>= fun r => pure (x :: r)) >>= mkTup) >>= fun x => ((((pure (D.int 0) : M D) >>= fun x => ((pure D.non : M D) >>= fun x => (pure [] : M (List D)) >>= fun r => pure (x :: r)) >>= fun r => pure (x :: r)) >>= mkTup) >>= fun x => ((pure (D.int 0) : M D) >>= fun x => ((pure (D.dct [] []) : M D) >>= fun x => ((pure (D.str "0") : M D) >>= fun x => ((((pure (D.int 0) : M D) >>= fun x => ((pure (D.int 1) : M D) >>= fun x => ((pure (D.int 2) : M D) >>= fun x => ((pure (D.int 3) : M D) >>= fun x => (pure [] : M (List D)) >>= fun r => pure (x :: r)) >>= fun r => pure (x :: r)) >>= fun r => pure (x :: r)) >>= fun r => pure (x :: r)) >>= mkTup) >>= fun x => (pure [] : M (List D)) >>= fun r => pure (x :: r)) >>= fun r => pure (x :: r)) >>= fun r => pure (x :: r)) >>= fun r => pure (x :: r)) >>= fun r => pure (x :: r)) >>= fun r => pure (x :: r)) >>= fun r => pure (x :: r)) >>= fun r => pure (x :: r)) >>= fun r => pure (x :: r)) >>= fun r => pure (x :: r)) >>= fun r => pure (x :: r)) >>= mkLst) >>= fun x => (pure [] : M (List D)) >>= fun r => pure (x :: r)) >>= fun r => pure (x :: r)) >>= callM 2 m_l_pick) fun d => pure (VL.Flow.nx (ρ.set 8 (some d)))
noncomputable def s_l_right_7 : VL.Env → M VL.Flow := fun ρ => liftS ρ (((noX (g_l_met (((rd 1 ρ) >>= fun x => (pure [] : M (List D)) >>= fun r => pure (x :: r)) >>= callM 1 m_goal))) >>= fun x => (pure [] : M (List D)) >>= fun r => pure (x :: r)) >>= mkNew) fun d => pure (VL.Flow.nx (ρ.set 9 (some d)))
noncomputable def s_l_right_8 : VL.Env → M VL.Flow := fun ρ => liftS ρ ((rd 9 ρ) >>= fun x => tyM "list" x >>= fun _ => ((noX (g_l_met (((rd 1 ρ) >>= fun x => (pure [] : M (List D)) >>= fun r => pure (x :: r)) >>= callM 1 m_letter_text))) >>= fun x => (pure [] : M (List D)) >>= fun r => pure (x :: r)) >>= fun xs => appM x xs) fun _ => pure (VL.Flow.nx ρ)
noncomputable def s_l_right_9 : VL.Env → M VL.Flow := fun ρ => liftS ρ ((rd 9 ρ) >>= fun x => tyM "list" x >>= fun _ => ((noX (g_l_met (((((rd 2 ρ) >>= fun x => ((rd 1 ρ) >>= fun x => (pure [] : M (List D)) >>= fun r => pure (x :: r)) >>= fun r => pure (x :: r)) >>= mkTup) >>= fun x => (pure [] : M (List D)) >>= fun r => pure (x :: r)) >>= fun ds => newM "Bag" 2 m_Bag_init (ds ++ [])))) >>= fun x => (pure [] : M (List D)) >>= fun r => pure (x :: r)) >>= fun xs => appM x xs) fun _ => pure (VL.Flow.nx ρ)
noncomputable def s_l_right_10 : VL.Env → M VL.Flow := fun ρ => liftS ρ ((rd 9 ρ) >>= fun x => tyM "list" x >>= fun _ => ((noX (g_l_met ((((((rd 1 ρ) >>= fun x => ((pure [] : M (List D)) >>= mkTup) >>= fun y => dNeT x y) >>= asB) >>= fun k => if k then (rd 1 ρ) else (pure D.non : M D)) >>= fun x => (pure [] : M (List D)) >>= fun r => pure (x :: r)) >>= fun ds => newM "Bag" 2 m_Bag_init (ds ++ [])))) >>= fun x => (pure [] : M (List D)) >>= fun r => pure (x :: r)) >>= fun xs => appM x xs) fun _ => pure (VL.Flow.nx ρ)
noncomputable def s_l_right_11 : VL.Env → M VL.Flow := fun ρ => liftS ρ ((rd 9 ρ) >>= fun x => tyM "list" x >>= fun _ => ((noX (g_l_met ((rd 3 ρ) >>= fun x => isI "Bag" x >>= fun _ => ((rd 1 ρ) >>= fun x => (pure [] : M (List D)) >>= fun r => pure (x :: r)) >>= fun ds => callM 2 m_Bag_sent (x :: ds)))) >>= fun x => (pure [] : M (List D)) >>= fun r => pure (x :: r)) >>= fun xs => appM x xs) fun _ => pure (VL.Flow.nx ρ)
noncomputable def s_l_right_12 : VL.Env → M VL.Flow := fun ρ => liftS ρ ((rd 9 ρ) >>= fun x => tyM "list" x >>= fun _ => ((noX (g_l_met ((rd 3 ρ) >>= fun x => isI "Bag" x >>= fun _ => ((((rd 2 ρ) >>= fun x => ((rd 1 ρ) >>= fun x => (pure [] : M (List D)) >>= fun r => pure (x :: r)) >>= fun r => pure (x :: r)) >>= mkTup) >>= fun x => (pure [] : M (List D)) >>= fun r => pure (x :: r)) >>= fun ds => callM 2 m_Bag_sent_all (x :: ds)))) >>= fun x => (pure [] : M (List D)) >>= fun r => pure (x :: r)) >>= fun xs => appM x xs) fun _ => pure (VL.Flow.nx ρ)
noncomputable def s_l_right_13 : VL.Env → M VL.Flow := fun ρ => liftS ρ ((rd 9 ρ) >>= fun x => tyM "list" x >>= fun _ => ((noX (g_l_met ((rd 3 ρ) >>= fun x => isI "Bag" x >>= fun _ => ((((rd 2 ρ) >>= fun x => (pure [] : M (List D)) >>= fun r => pure (x :: r)) >>= mkLst) >>= fun x => (pure [] : M (List D)) >>= fun r => pure (x :: r)) >>= fun ds => callM 2 m_Bag_sent_all (x :: ds)))) >>= fun x => (pure [] : M (List D)) >>= fun r => pure (x :: r)) >>= fun xs => appM x xs) fun _ => pure (VL.Flow.nx ρ)
noncomputable def s_l_right_14 : VL.Env → M VL.Flow := fun ρ => liftS ρ ((((((pure (D.str "refused") : M D) >>= fun x => ((pure (D.str "letter") : M D) >>= fun x => (pure [] : M (List D)) >>= fun r => pure (x :: r)) >>= fun r => pure (x :: r)) >>= mkTup) >>= fun x => (pure [] : M (List D)) >>= fun r => pure (x :: r)) >>= mkLst) >>= fun x => (pure (D.int 7) : M D) >>= fun y => dMulL x y) fun d => pure (VL.Flow.nx (ρ.set 10 (some d)))
noncomputable def s_l_right_15 : VL.Env → M VL.Flow := fun ρ => liftS ρ ((rd 9 ρ) >>= fun x => tyM "list" x >>= fun _ => ((noX (g_l_met (((rd 6 ρ) >>= fun x => (pure [] : M (List D)) >>= fun r => pure (x :: r)) >>= callM 1 m_read_letter))) >>= fun x => (pure [] : M (List D)) >>= fun r => pure (x :: r)) >>= fun xs => appM x xs) fun _ => pure (VL.Flow.nx ρ)
noncomputable def s_l_right_16 : VL.Env → M VL.Flow := fun ρ => liftS ρ ((rd 9 ρ) >>= fun x => tyM "list" x >>= fun _ => ((noX (g_l_met ((rd 3 ρ) >>= fun x => isI "Bag" x >>= fun _ => ((rd 4 ρ) >>= fun x => (pure [] : M (List D)) >>= fun r => pure (x :: r)) >>= fun ds => callM 2 m_Bag_letter (x :: ds)))) >>= fun x => (pure [] : M (List D)) >>= fun r => pure (x :: r)) >>= fun xs => appM x xs) fun _ => pure (VL.Flow.nx ρ)
noncomputable def s_l_right_17 : VL.Env → M VL.Flow := fun ρ => liftS ρ ((rd 9 ρ) >>= fun x => tyM "list" x >>= fun _ => ((noX (g_l_met ((rd 3 ρ) >>= fun x => isI "Bag" x >>= fun _ => ((rd 5 ρ) >>= fun x => (pure [] : M (List D)) >>= fun r => pure (x :: r)) >>= fun ds => callM 2 m_Bag_to (x :: ds)))) >>= fun x => (pure [] : M (List D)) >>= fun r => pure (x :: r)) >>= fun xs => appM x xs) fun _ => pure (VL.Flow.nx ρ)
noncomputable def s_l_right_18 : VL.Env → M VL.Flow := fun ρ => liftS ρ ((rd 9 ρ) >>= fun x => tyM "list" x >>= fun _ => ((noX (g_l_met (((rd 7 ρ) >>= fun x => ((rd 8 ρ) >>= fun x => (pure [] : M (List D)) >>= fun r => pure (x :: r)) >>= fun r => pure (x :: r)) >>= callM 2 m_judged_handing))) >>= fun x => (pure [] : M (List D)) >>= fun r => pure (x :: r)) >>= fun xs => appM x xs) fun _ => pure (VL.Flow.nx ρ)
noncomputable def s_l_right_19 : VL.Env → M VL.Flow := fun ρ => liftS ρ ((rd 9 ρ) >>= fun x => tyM "list" x >>= fun _ => ((noX (g_l_met (((rd 3 ρ) >>= fun x => ((rd 8 ρ) >>= fun x => (pure [] : M (List D)) >>= fun r => pure (x :: r)) >>= fun r => pure (x :: r)) >>= callM 2 m_judged_handing))) >>= fun x => (pure [] : M (List D)) >>= fun r => pure (x :: r)) >>= fun xs => appM x xs) fun _ => pure (VL.Flow.nx ρ)
noncomputable def s_l_right_20 : VL.Env → M VL.Flow := fun ρ => liftS ρ (((rd 10 ρ) >>= fun x => (((((pure (D.str "refused") : M D) >>= fun x => ((pure (D.str "text") : M D) >>= fun x => (pure [] : M (List D)) >>= fun r => pure (x :: r)) >>= fun r => pure (x :: r)) >>= mkTup) >>= fun x => ((((pure (D.str "refused") : M D) >>= fun x => (((pure (D.str "number ") : M D) >>= fun x => (((rd 4 ρ) >>= fun x => (pure [] : M (List D)) >>= fun r => pure (x :: r)) >>= reprG) >>= fun y => dAdd x y) >>= fun x => (pure [] : M (List D)) >>= fun r => pure (x :: r)) >>= fun r => pure (x :: r)) >>= mkTup) >>= fun x => ((((pure (D.str "refused") : M D) >>= fun x => (((pure (D.str "number ") : M D) >>= fun x => (((rd 5 ρ) >>= fun x => (pure [] : M (List D)) >>= fun r => pure (x :: r)) >>= reprG) >>= fun y => dAdd x y) >>= fun x => (pure [] : M (List D)) >>= fun r => pure (x :: r)) >>= fun r => pure (x :: r)) >>= mkTup) >>= fun x => (pure [] : M (List D)) >>= fun r => pure (x :: r)) >>= fun r => pure (x :: r)) >>= fun r => pure (x :: r)) >>= mkLst) >>= fun y => dAdd x y) >>= fun x => ((((((pure (D.str "refused") : M D) >>= fun x => ((pure (D.str "operation") : M D) >>= fun x => (pure [] : M (List D)) >>= fun r => pure (x :: r)) >>= fun r => pure (x :: r)) >>= mkTup) >>= fun x => (pure [] : M (List D)) >>= fun r => pure (x :: r)) >>= mkLst) >>= fun x => (pure (D.int 2) : M D) >>= fun y => dMulL x y) >>= fun y => dAdd x y) fun d => pure (VL.Flow.nx (ρ.set 10 (some d)))
noncomputable def s_l_right_21 : VL.Env → M VL.Flow := fun ρ => liftS ρ (andD (((rd 9 ρ) >>= fun x => (rd 10 ρ) >>= fun y => dEq x y)) ((andD (((((rd 1 ρ) >>= fun x => (pure [] : M (List D)) >>= fun r => pure (x :: r)) >>= callM 1 m_is_letter) >>= fun x => (pure (D.bl false) : M D) >>= fun y => dIs x y)) (((((rd 3 ρ) >>= fun x => (pure [] : M (List D)) >>= fun r => pure (x :: r)) >>= (lenO "Bag" m_Bag_len)) >>= fun x => (pure (D.int 3) : M D) >>= fun y => dEq x y))))) fun d => pure (VL.Flow.rt d)
noncomputable def f_l_right : VL.Env → M VL.Flow := fun ρ => seqM (s_l_right_0 ρ)
    (fun ρ => seqM (s_l_right_1 ρ)
    (fun ρ => seqM (s_l_right_2 ρ)
    (fun ρ => seqM (s_l_right_3 ρ)
    (fun ρ => seqM (s_l_right_4 ρ)
    (fun ρ => seqM (s_l_right_5 ρ)
    (fun ρ => seqM (s_l_right_6 ρ)
    (fun ρ => seqM (s_l_right_7 ρ)
    (fun ρ => seqM (s_l_right_8 ρ)
    (fun ρ => seqM (s_l_right_9 ρ)
    (fun ρ => seqM (s_l_right_10 ρ)
    (fun ρ => seqM (s_l_right_11 ρ)
    (fun ρ => seqM (s_l_right_12 ρ)
    (fun ρ => seqM (s_l_right_13 ρ)
    (fun ρ => seqM (s_l_right_14 ρ)
    (fun ρ => seqM (s_l_right_15 ρ)
    (fun ρ => seqM (s_l_right_16 ρ)
    (fun ρ => seqM (s_l_right_17 ρ)
    (fun ρ => seqM (s_l_right_18 ρ)
    (fun ρ => seqM (s_l_right_19 ρ)
    (fun ρ => seqM (s_l_right_20 ρ)
    (fun ρ => s_l_right_21 ρ)))))))))))))))))))))
noncomputable def m_l_right : List D → M D := locM (runF 11 f_l_right)
theorem ok_l_right (T : Tp P w K mg) (B : Tb T base) : FnG P w K mg base (L2.CX P w) 12 T.a_l_right T.d_l_right ["_law_dice_here"] (spD T.cn 1 m_l_right) :=
  FnG.loc (fnv_okG (c := T.cn) T.FC_l_right rfl sc_l_right fun A outer s0 H E hr hgu => (vb_cons (vs_asg (ve_tup (vl_cons (ve_call (ok_l_pick T) (hr.mono (by decide)) (by rfl) T.g_l_pick T.F_l_pick.kp T.b_l_pick (takes_of rfl rfl rfl rfl) (vl_cons (vv 0 (lo_none rfl)) (vl_cons (ve_call00 (ok_l_odd_letters T) (hr.mono (by decide)) (by rfl) T.g_l_odd_letters T.F_l_odd_letters.kp T.b_l_odd_letters) vl_nil)) (fun _ z => pe_callS (ok_l_pick T) (hr.mono (by decide)) (by rfl) T.g_l_pick T.F_l_pick.kp T.b_l_pick (fun σ => passAt (takes_of rfl rfl rfl rfl) σ) z)) (vl_cons (ve_tup (vl_cons ve_str (vl_cons ve_int (vl_cons ve_str vl_nil)))) vl_nil))) (vg_tup rfl (vgs_cons (vg_name (i := 1) (lo_none rfl) (fun z => absurd rfl z) sc_l_right.nd rfl (Or.inr rfl)) (vgs_cons (vg_name (i := 2) (lo_none rfl) (fun z => absurd rfl z) sc_l_right.nd rfl (Or.inr rfl)) vgs_nil)) (fun _ z => pg_tup (by rfl) z)))
    (vb_cons (vs_set (i := 3) (lo_none rfl) (fun z => absurd rfl z) sc_l_right.nd rfl (Or.inr rfl) (ve_make (C := "Bag") T.mk_Bag (ok_Bag_init T) (hr.mono (by decide)) (by rfl) T.g_Bag T.b_Bag_init .nil (fun _ _ => by simp only [RepL]) (takes_of rfl rfl rfl rfl) (vl_cons (ve_tup (vl_cons (vv 2 (lo_none rfl)) (vl_cons (ve_tup (vl_cons ve_str (vl_cons ve_int (vl_cons ve_int (vl_cons (ve_tup vl_nil) vl_nil))))) (vl_cons (ve_tup (vl_cons ve_str (vl_cons ve_int (vl_cons ve_int (vl_cons (ve_tup (vl_cons ve_int vl_nil)) (vl_cons ve_int vl_nil)))))) vl_nil)))) vl_nil)))
    (vb_cons (vs_set (i := 4) (lo_none rfl) (fun z => absurd rfl z) sc_l_right.nd rfl (Or.inr rfl) (ve_call (ok_l_pick T) (hr.mono (by decide)) (by rfl) T.g_l_pick T.F_l_pick.kp T.b_l_pick (takes_of rfl rfl rfl rfl) (vl_cons (vv 0 (lo_none rfl)) (vl_cons (ve_lst (vl_cons ve_non (vl_cons (ve_neg ve_int) (vl_cons ve_int (vl_cons ve_bl (vl_cons ve_str (vl_cons (ve_tup (vl_cons ve_int vl_nil)) (vl_cons (ve_op opv_pow ve_int ve_int) (vl_cons ve_int vl_nil))))))))) vl_nil)) (fun _ z => pe_callS (ok_l_pick T) (hr.mono (by decide)) (by rfl) T.g_l_pick T.F_l_pick.kp T.b_l_pick (fun σ => passAt (takes_of rfl rfl rfl rfl) σ) z)))
    (vb_cons (vs_set (i := 5) (lo_none rfl) (fun z => absurd rfl z) sc_l_right.nd rfl (Or.inr rfl) (ve_call (ok_l_pick T) (hr.mono (by decide)) (by rfl) T.g_l_pick T.F_l_pick.kp T.b_l_pick (takes_of rfl rfl rfl rfl) (vl_cons (vv 0 (lo_none rfl)) (vl_cons (ve_lst (vl_cons ve_non (vl_cons (ve_neg ve_int) (vl_cons ve_int (vl_cons ve_bl (vl_cons ve_str (vl_cons (ve_tup (vl_cons ve_int vl_nil)) (vl_cons (ve_op opv_pow ve_int ve_int) vl_nil)))))))) vl_nil)) (fun _ z => pe_callS (ok_l_pick T) (hr.mono (by decide)) (by rfl) T.g_l_pick T.F_l_pick.kp T.b_l_pick (fun σ => passAt (takes_of rfl rfl rfl rfl) σ) z)))
    (vb_cons (vs_set (i := 6) (lo_none rfl) (fun z => absurd rfl z) sc_l_right.nd rfl (Or.inr rfl) (ve_call (ok_l_pick T) (hr.mono (by decide)) (by rfl) T.g_l_pick T.F_l_pick.kp T.b_l_pick (takes_of rfl rfl rfl rfl) (vl_cons (vv 0 (lo_none rfl)) (vl_cons (ve_lst (vl_cons ve_non (vl_cons ve_int (vl_cons (ve_lst (vl_cons ve_str vl_nil)) (vl_cons ve_str (vl_cons (ve_tup (vl_cons ve_str vl_nil)) (vl_cons ve_dnewF (vl_cons ve_bl vl_nil)))))))) vl_nil)) (fun _ z => pe_callS (ok_l_pick T) (hr.mono (by decide)) (by rfl) T.g_l_pick T.F_l_pick.kp T.b_l_pick (fun σ => passAt (takes_of rfl rfl rfl rfl) σ) z)))
    (vb_cons (vs_set (i := 7) (lo_none rfl) (fun z => absurd rfl z) sc_l_right.nd rfl (Or.inr rfl) (ve_call (ok_l_pick T) (hr.mono (by decide)) (by rfl) T.g_l_pick T.F_l_pick.kp T.b_l_pick (takes_of rfl rfl rfl rfl) (vl_cons (vv 0 (lo_none rfl)) (vl_cons (ve_lst (vl_cons ve_non (vl_cons (ve_tup vl_nil) (vl_cons (ve_tup (vl_cons (vv 2 (lo_none rfl)) vl_nil)) (vl_cons (ve_lst (vl_cons (vv 3 (lo_none rfl)) vl_nil)) (vl_cons ve_int (vl_cons ve_str (vl_cons (vv 2 (lo_none rfl)) vl_nil)))))))) vl_nil)) (fun _ z => pe_callS (ok_l_pick T) (hr.mono (by decide)) (by rfl) T.g_l_pick T.F_l_pick.kp T.b_l_pick (fun σ => passAt (takes_of rfl rfl rfl rfl) σ) z)))
    (vb_cons (vs_set (i := 8) (lo_none rfl) (fun z => absurd rfl z) sc_l_right.nd rfl (Or.inr rfl) (ve_call (ok_l_pick T) (hr.mono (by decide)) (by rfl) T.g_l_pick T.F_l_pick.kp T.b_l_pick (takes_of rfl rfl rfl rfl) (vl_cons (vv 0 (lo_none rfl)) (vl_cons (ve_lst (vl_cons ve_non (vl_cons (ve_lst (vl_cons ve_int vl_nil)) (vl_cons (ve_tup (vl_cons ve_int vl_nil)) (vl_cons (ve_tup (vl_cons (ve_neg ve_int) vl_nil)) (vl_cons (ve_tup (vl_cons ve_bl vl_nil)) (vl_cons (ve_tup (vl_cons ve_str vl_nil)) (vl_cons (ve_tup (vl_cons ve_int (vl_cons ve_non vl_nil))) (vl_cons ve_int (vl_cons ve_dnewF (vl_cons ve_str (vl_cons (ve_tup (vl_cons ve_int (vl_cons ve_int (vl_cons ve_int (vl_cons ve_int vl_nil))))) vl_nil)))))))))))) vl_nil)) (fun _ z => pe_callS (ok_l_pick T) (hr.mono (by decide)) (by rfl) T.g_l_pick T.F_l_pick.kp T.b_l_pick (fun σ => passAt (takes_of rfl rfl rfl rfl) σ) z)))
    (vb_cons (vs_set (i := 9) (lo_none rfl) (fun z => absurd rfl z) sc_l_right.nd rfl (Or.inl rfl) (ve_lstM (vl_cons (ve_lamG (k := 8) (Ng := N_l_met) T.FC_l_met (by rfl) T.g_l_met T.F_l_met.kp T.b_l_met sc_l_met rfl (by first | exact Or.inl rfl | exact Or.inr (Or.inl rfl)) (gives_l_met T (deeper_guards hgu) (hr.mono (by decide))) B.b_l_right rfl (P := T.P_l_right) (.head _) (fun p hp e => T.uT p hp _ (.head _) e) (hr.mono (by decide)) (lamS_by (by kernel_rfl)) rfl (fun _ _ _ _ _ => rfl) (fun A outer s H E f c2 hr tkL => (ve_call (ok_goal T) (hr.mono (by decide)) (by rfl) T.g_goal T.F_goal.kp T.b_goal tkL (vl_cons (vv 1 (lo_none rfl)) vl_nil) (fun _ z => pe_callS (ok_goal T) (hr.mono (by decide)) (by rfl) T.g_goal T.F_goal.kp T.b_goal (fun σ => passAt tkL σ) z)))) vl_nil)))
    (vb_cons (vs_expr (ve_bm rfl PySem.F.plainAttrs_list PySem.F.slot_list_append PySem.F.type_list_append mv_append (vv 9 (lo_none rfl)) (vl_cons (ve_lamG (k := 8) (Ng := N_l_met) T.FC_l_met (by rfl) T.g_l_met T.F_l_met.kp T.b_l_met sc_l_met rfl (by first | exact Or.inl rfl | exact Or.inr (Or.inl rfl)) (gives_l_met T (deeper_guards hgu) (hr.mono (by decide))) B.b_l_right rfl (P := T.P_l_right) (.head _) (fun p hp e => T.uT p hp _ (.head _) e) (hr.mono (by decide)) (lamS_by (by kernel_rfl)) rfl (fun _ _ _ _ _ => rfl) (fun A outer s H E f c2 hr tkL => (ve_call (ok_letter_text T) (hr.mono (by decide)) (by rfl) T.g_letter_text T.F_letter_text.kp T.b_letter_text tkL (vl_cons (vv 1 (lo_none rfl)) vl_nil) (fun _ z => pe_callS (ok_letter_text T) (hr.mono (by decide)) (by rfl) T.g_letter_text T.F_letter_text.kp T.b_letter_text (fun σ => passAt tkL σ) z)))) vl_nil) (fun _ _ _ p q z => pe_bm PySem.F.plainAttrs_list PySem.F.slot_list_append PySem.F.type_list_append p q z)))
    (vb_cons (vs_expr (ve_bm rfl PySem.F.plainAttrs_list PySem.F.slot_list_append PySem.F.type_list_append mv_append (vv 9 (lo_none rfl)) (vl_cons (ve_lamG (k := 9) (Ng := N_l_met) T.FC_l_met (by rfl) T.g_l_met T.F_l_met.kp T.b_l_met sc_l_met rfl (by first | exact Or.inl rfl | exact Or.inr (Or.inl rfl)) (gives_l_met T (deeper_guards hgu) (hr.mono (by decide))) B.b_l_right rfl (P := T.P_l_right) (.head _) (fun p hp e => T.uT p hp _ (.head _) e) (hr.mono (by decide)) (lamS_by (by kernel_rfl)) rfl (fun _ _ _ _ _ => rfl) (fun A outer s H E f c2 hr tkL => (ve_make (C := "Bag") T.mk_Bag (ok_Bag_init T) (hr.mono (by decide)) (by rfl) T.g_Bag T.b_Bag_init .nil (fun _ _ => by simp only [RepL]) tkL (vl_cons (ve_tup (vl_cons (vv 2 (lo_none rfl)) (vl_cons (vv 1 (lo_none rfl)) vl_nil))) vl_nil)))) vl_nil) (fun _ _ _ p q z => pe_bm PySem.F.plainAttrs_list PySem.F.slot_list_append PySem.F.type_list_append p q z)))
    (vb_cons (vs_expr (ve_bm rfl PySem.F.plainAttrs_list PySem.F.slot_list_append PySem.F.type_list_append mv_append (vv 9 (lo_none rfl)) (vl_cons (ve_lamG (k := 9) (Ng := N_l_met) T.FC_l_met (by rfl) T.g_l_met T.F_l_met.kp T.b_l_met sc_l_met rfl (by first | exact Or.inl rfl | exact Or.inr (Or.inl rfl)) (gives_l_met T (deeper_guards hgu) (hr.mono (by decide))) B.b_l_right rfl (P := T.P_l_right) (.head _) (fun p hp e => T.uT p hp _ (.head _) e) (hr.mono (by decide)) (lamS_by (by kernel_rfl)) rfl (fun _ _ _ _ _ => rfl) (fun A outer s H E f c2 hr tkL => (ve_make (C := "Bag") T.mk_Bag (ok_Bag_init T) (hr.mono (by decide)) (by rfl) T.g_Bag T.b_Bag_init .nil (fun _ _ => by simp only [RepL]) tkL (vl_cons (ve_if (vt_cmp (opv_neT rfl hr.units) (vv 1 (lo_none rfl)) (ve_tup vl_nil) (nomark _)) (vv 1 (lo_none rfl)) ve_non) vl_nil)))) vl_nil) (fun _ _ _ p q z => pe_bm PySem.F.plainAttrs_list PySem.F.slot_list_append PySem.F.type_list_append p q z)))
    (vb_cons (vs_expr (ve_bm rfl PySem.F.plainAttrs_list PySem.F.slot_list_append PySem.F.type_list_append mv_append (vv 9 (lo_none rfl)) (vl_cons (ve_lamG (k := 8) (Ng := N_l_met) T.FC_l_met (by rfl) T.g_l_met T.F_l_met.kp T.b_l_met sc_l_met rfl (by first | exact Or.inl rfl | exact Or.inr (Or.inl rfl)) (gives_l_met T (deeper_guards hgu) (hr.mono (by decide))) B.b_l_right rfl (P := T.P_l_right) (.head _) (fun p hp e => T.uT p hp _ (.head _) e) (hr.mono (by decide)) (lamS_by (by kernel_rfl)) rfl (fun _ _ _ _ _ => rfl) (fun A outer s H E f c2 hr tkL => (ve_meth (C := "Bag") (vv 3 (lo_none rfl)) T.cl_Bag T.m_Bag_sent (ok_Bag_sent T) T.b_Bag_sent (hr.mono (by decide)) tkL (vl_cons (vv 1 (lo_none rfl)) vl_nil) (fun _ _ y z => pe_methS y T.cl_Bag T.m_Bag_sent ((ok_Bag_sent T).raw T.b_Bag_sent .nil) (hr.mono (by decide)) tkL z)))) vl_nil) (fun _ _ _ p q z => pe_bm PySem.F.plainAttrs_list PySem.F.slot_list_append PySem.F.type_list_append p q z)))
    (vb_cons (vs_expr (ve_bm rfl PySem.F.plainAttrs_list PySem.F.slot_list_append PySem.F.type_list_append mv_append (vv 9 (lo_none rfl)) (vl_cons (ve_lamG (k := 8) (Ng := N_l_met) T.FC_l_met (by rfl) T.g_l_met T.F_l_met.kp T.b_l_met sc_l_met rfl (by first | exact Or.inl rfl | exact Or.inr (Or.inl rfl)) (gives_l_met T (deeper_guards hgu) (hr.mono (by decide))) B.b_l_right rfl (P := T.P_l_right) (.head _) (fun p hp e => T.uT p hp _ (.head _) e) (hr.mono (by decide)) (lamS_by (by kernel_rfl)) rfl (fun _ _ _ _ _ => rfl) (fun A outer s H E f c2 hr tkL => (ve_meth (C := "Bag") (vv 3 (lo_none rfl)) T.cl_Bag T.m_Bag_sent_all (ok_Bag_sent_all T) T.b_Bag_sent_all (hr.mono (by decide)) tkL (vl_cons (ve_tup (vl_cons (vv 2 (lo_none rfl)) (vl_cons (vv 1 (lo_none rfl)) vl_nil))) vl_nil) (fun _ _ y z => pe_methS y T.cl_Bag T.m_Bag_sent_all ((ok_Bag_sent_all T).raw T.b_Bag_sent_all .nil) (hr.mono (by decide)) tkL z)))) vl_nil) (fun _ _ _ p q z => pe_bm PySem.F.plainAttrs_list PySem.F.slot_list_append PySem.F.type_list_append p q z)))
    (vb_cons (vs_expr (ve_bm rfl PySem.F.plainAttrs_list PySem.F.slot_list_append PySem.F.type_list_append mv_append (vv 9 (lo_none rfl)) (vl_cons (ve_lamG (k := 8) (Ng := N_l_met) T.FC_l_met (by rfl) T.g_l_met T.F_l_met.kp T.b_l_met sc_l_met rfl (by first | exact Or.inl rfl | exact Or.inr (Or.inl rfl)) (gives_l_met T (deeper_guards hgu) (hr.mono (by decide))) B.b_l_right rfl (P := T.P_l_right) (.head _) (fun p hp e => T.uT p hp _ (.head _) e) (hr.mono (by decide)) (lamS_by (by kernel_rfl)) rfl (fun _ _ _ _ _ => rfl) (fun A outer s H E f c2 hr tkL => (ve_meth (C := "Bag") (vv 3 (lo_none rfl)) T.cl_Bag T.m_Bag_sent_all (ok_Bag_sent_all T) T.b_Bag_sent_all (hr.mono (by decide)) tkL (vl_cons (ve_lst (vl_cons (vv 2 (lo_none rfl)) vl_nil)) vl_nil) (fun _ _ y z => pe_methS y T.cl_Bag T.m_Bag_sent_all ((ok_Bag_sent_all T).raw T.b_Bag_sent_all .nil) (hr.mono (by decide)) tkL z)))) vl_nil) (fun _ _ _ p q z => pe_bm PySem.F.plainAttrs_list PySem.F.slot_list_append PySem.F.type_list_append p q z)))
    (vb_cons (vs_set (i := 10) (lo_none rfl) (fun z => absurd rfl z) sc_l_right.nd rfl (Or.inl rfl) (ve_op (opv_mulL rfl) (ve_lst (vl_cons (ve_tup (vl_cons ve_str (vl_cons ve_str vl_nil))) vl_nil)) ve_int))
    (vb_cons (vs_expr (ve_bm rfl PySem.F.plainAttrs_list PySem.F.slot_list_append PySem.F.type_list_append mv_append (vv 9 (lo_none rfl)) (vl_cons (ve_lamG (k := 8) (Ng := N_l_met) T.FC_l_met (by rfl) T.g_l_met T.F_l_met.kp T.b_l_met sc_l_met rfl (by first | exact Or.inl rfl | exact Or.inr (Or.inl rfl)) (gives_l_met T (deeper_guards hgu) (hr.mono (by decide))) B.b_l_right rfl (P := T.P_l_right) (.head _) (fun p hp e => T.uT p hp _ (.head _) e) (hr.mono (by decide)) (lamS_by (by kernel_rfl)) rfl (fun _ _ _ _ _ => rfl) (fun A outer s H E f c2 hr tkL => (ve_call (ok_read_letter T) (hr.mono (by decide)) (by rfl) T.g_read_letter T.F_read_letter.kp T.b_read_letter tkL (vl_cons (vv 6 (lo_none rfl)) vl_nil) (fun _ z => pe_callS (ok_read_letter T) (hr.mono (by decide)) (by rfl) T.g_read_letter T.F_read_letter.kp T.b_read_letter (fun σ => passAt tkL σ) z)))) vl_nil) (fun _ _ _ p q z => pe_bm PySem.F.plainAttrs_list PySem.F.slot_list_append PySem.F.type_list_append p q z)))
    (vb_cons (vs_expr (ve_bm rfl PySem.F.plainAttrs_list PySem.F.slot_list_append PySem.F.type_list_append mv_append (vv 9 (lo_none rfl)) (vl_cons (ve_lamG (k := 4) (Ng := N_l_met) T.FC_l_met (by rfl) T.g_l_met T.F_l_met.kp T.b_l_met sc_l_met rfl (by first | exact Or.inl rfl | exact Or.inr (Or.inl rfl)) (gives_l_met T (deeper_guards hgu) (hr.mono (by decide))) B.b_l_right rfl (P := T.P_l_right) (.head _) (fun p hp e => T.uT p hp _ (.head _) e) (hr.mono (by decide)) (lamS_by (by kernel_rfl)) rfl (fun _ _ _ _ _ => rfl) (fun A outer s H E f c2 hr tkL => (ve_meth (C := "Bag") (vv 3 (lo_none rfl)) T.cl_Bag T.m_Bag_letter (ok_Bag_letter T) T.b_Bag_letter (hr.mono (by decide)) tkL (vl_cons (vv 4 (lo_none rfl)) vl_nil) (fun _ _ y z => pe_methS y T.cl_Bag T.m_Bag_letter ((ok_Bag_letter T).raw T.b_Bag_letter .nil) (hr.mono (by decide)) tkL z)))) vl_nil) (fun _ _ _ p q z => pe_bm PySem.F.plainAttrs_list PySem.F.slot_list_append PySem.F.type_list_append p q z)))
    (vb_cons (vs_expr (ve_bm rfl PySem.F.plainAttrs_list PySem.F.slot_list_append PySem.F.type_list_append mv_append (vv 9 (lo_none rfl)) (vl_cons (ve_lamG (k := 4) (Ng := N_l_met) T.FC_l_met (by rfl) T.g_l_met T.F_l_met.kp T.b_l_met sc_l_met rfl (by first | exact Or.inl rfl | exact Or.inr (Or.inl rfl)) (gives_l_met T (deeper_guards hgu) (hr.mono (by decide))) B.b_l_right rfl (P := T.P_l_right) (.head _) (fun p hp e => T.uT p hp _ (.head _) e) (hr.mono (by decide)) (lamS_by (by kernel_rfl)) rfl (fun _ _ _ _ _ => rfl) (fun A outer s H E f c2 hr tkL => (ve_meth (C := "Bag") (vv 3 (lo_none rfl)) T.cl_Bag T.m_Bag_to (ok_Bag_to T) T.b_Bag_to (hr.mono (by decide)) tkL (vl_cons (vv 5 (lo_none rfl)) vl_nil) (fun _ _ y z => pe_methS y T.cl_Bag T.m_Bag_to ((ok_Bag_to T).raw T.b_Bag_to .nil) (hr.mono (by decide)) tkL z)))) vl_nil) (fun _ _ _ p q z => pe_bm PySem.F.plainAttrs_list PySem.F.slot_list_append PySem.F.type_list_append p q z)))
    (vb_cons (vs_expr (ve_bm rfl PySem.F.plainAttrs_list PySem.F.slot_list_append PySem.F.type_list_append mv_append (vv 9 (lo_none rfl)) (vl_cons (ve_lamG (k := 3) (Ng := N_l_met) T.FC_l_met (by rfl) T.g_l_met T.F_l_met.kp T.b_l_met sc_l_met rfl (by first | exact Or.inl rfl | exact Or.inr (Or.inl rfl)) (gives_l_met T (deeper_guards hgu) (hr.mono (by decide))) B.b_l_right rfl (P := T.P_l_right) (.head _) (fun p hp e => T.uT p hp _ (.head _) e) (hr.mono (by decide)) (lamS_by (by kernel_rfl)) rfl (fun _ _ _ _ _ => rfl) (fun A outer s H E f c2 hr tkL => (ve_call (ok_judged_handing T) (hr.mono (by decide)) (by rfl) T.g_judged_handing T.F_judged_handing.kp T.b_judged_handing tkL (vl_cons (vv 7 (lo_none rfl)) (vl_cons (vv 8 (lo_none rfl)) vl_nil)) (fun _ z => pe_callS (ok_judged_handing T) (hr.mono (by decide)) (by rfl) T.g_judged_handing T.F_judged_handing.kp T.b_judged_handing (fun σ => passAt tkL σ) z)))) vl_nil) (fun _ _ _ p q z => pe_bm PySem.F.plainAttrs_list PySem.F.slot_list_append PySem.F.type_list_append p q z)))
    (vb_cons (vs_expr (ve_bm rfl PySem.F.plainAttrs_list PySem.F.slot_list_append PySem.F.type_list_append mv_append (vv 9 (lo_none rfl)) (vl_cons (ve_lamG (k := 3) (Ng := N_l_met) T.FC_l_met (by rfl) T.g_l_met T.F_l_met.kp T.b_l_met sc_l_met rfl (by first | exact Or.inl rfl | exact Or.inr (Or.inl rfl)) (gives_l_met T (deeper_guards hgu) (hr.mono (by decide))) B.b_l_right rfl (P := T.P_l_right) (.head _) (fun p hp e => T.uT p hp _ (.head _) e) (hr.mono (by decide)) (lamS_by (by kernel_rfl)) rfl (fun _ _ _ _ _ => rfl) (fun A outer s H E f c2 hr tkL => (ve_call (ok_judged_handing T) (hr.mono (by decide)) (by rfl) T.g_judged_handing T.F_judged_handing.kp T.b_judged_handing tkL (vl_cons (vv 3 (lo_none rfl)) (vl_cons (vv 8 (lo_none rfl)) vl_nil)) (fun _ z => pe_callS (ok_judged_handing T) (hr.mono (by decide)) (by rfl) T.g_judged_handing T.F_judged_handing.kp T.b_judged_handing (fun σ => passAt tkL σ) z)))) vl_nil) (fun _ _ _ p q z => pe_bm PySem.F.plainAttrs_list PySem.F.slot_list_append PySem.F.type_list_append p q z)))
    (vb_cons (vs_set (i := 10) (lo_none rfl) (fun z => absurd rfl z) sc_l_right.nd rfl (Or.inl rfl) (ve_op (opv_add rfl) (ve_op (opv_add rfl) (vv 10 (lo_none rfl)) (ve_lst (vl_cons (ve_tup (vl_cons ve_str (vl_cons ve_str vl_nil))) (vl_cons (ve_tup (vl_cons ve_str (vl_cons (ve_op (opv_add rfl) ve_str (ve_callB (cv_reprG rfl (deeper_guards hgu) (roomU hr)) (by rfl) T.m_repr (by decide +kernel) (vl_cons (vv 4 (lo_none rfl)) vl_nil) (fun _ _ p q => pe_callB p (by rfl) T.m_repr (by decide +kernel) q))) vl_nil))) (vl_cons (ve_tup (vl_cons ve_str (vl_cons (ve_op (opv_add rfl) ve_str (ve_callB (cv_reprG rfl (deeper_guards hgu) (roomU hr)) (by rfl) T.m_repr (by decide +kernel) (vl_cons (vv 5 (lo_none rfl)) vl_nil) (fun _ _ p q => pe_callB p (by rfl) T.m_repr (by decide +kernel) q))) vl_nil))) vl_nil))))) (ve_op (opv_mulL rfl) (ve_lst (vl_cons (ve_tup (vl_cons ve_str (vl_cons ve_str vl_nil))) vl_nil)) ve_int)))
    (vb_one (vs_ret (ve_and (ve_cmp (opv_eq rfl hr.units) (vv 9 (lo_none rfl)) (vv 10 (lo_none rfl)) (nomark _)) (ve_and (ve_cmp opv_isB (ve_call (ok_is_letter T) (hr.mono (by decide)) (by rfl) T.g_is_letter T.F_is_letter.kp T.b_is_letter (takes_of rfl rfl rfl rfl) (vl_cons (vv 1 (lo_none rfl)) vl_nil) (fun _ z => pe_callS (ok_is_letter T) (hr.mono (by decide)) (by rfl) T.g_is_letter T.F_is_letter.kp T.b_is_letter (fun σ => passAt (takes_of rfl rfl rfl rfl) σ) z)) ve_bl (nomark _)) (ve_one (ve_cmp (opv_eq rfl hr.units) (ve_callB (cv_lenO (C := "Bag") rfl T.m_Bag_len (ok_Bag_len T) T.b_Bag_len (hr.mono (by decide))) (by rfl) T.m_len (by decide +kernel) (vl_cons (vv 3 (lo_none rfl)) vl_nil) (fun _ _ p q => pe_callB p (by rfl) T.m_len (by decide +kernel) q)) ve_int (nomark _)))))))))))))))))))))))))))))
noncomputable def s_law_0 : VL.Env → M VL.Flow := fun ρ => liftS ρ (((((pure (D.int 1) : M D) >>= fun x => ((((pure (D.int 4) : M D) >>= fun x => ((((rd 0 ρ) >>= fun x => (pure [] : M (List D)) >>= fun r => pure (x :: r)) >>= lenD) >>= fun x => (pure [] : M (List D)) >>= fun r => pure (x :: r)) >>= fun r => pure (x :: r)) >>= minD) >>= fun x => (pure [] : M (List D)) >>= fun r => pure (x :: r)) >>= fun r => pure (x :: r)) >>= maxD) >>= fun x => (pure [] : M (List D)) >>= fun r => pure (x :: r)) >>= rng1) fun it => loopI it (gN 1) (fun ρ => liftS ρ (((((((rd 0 ρ) >>= fun x => ((rd 1 ρ) >>= fun x => (pure [] : M (List D)) >>= fun r => pure (x :: r)) >>= fun r => pure (x :: r)) >>= callM 2 m_l_dice) >>= fun x => (pure [] : M (List D)) >>= fun r => pure (x :: r)) >>= callM 1 m_l_right) >>= asB) >>= fun b => pure (!b)) fun k => if k then (liftS ρ (pure (D.bl false) : M D) fun d => pure (VL.Flow.rt d)) else (pure (VL.Flow.nx ρ))) it.items ρ
noncomputable def s_law_1 : VL.Env → M VL.Flow := fun ρ => liftS ρ (((((pure (D.str "") : M D) >>= fun x => ((pure (D.str "n") : M D) >>= fun x => ((pure (D.str "i1;") : M D) >>= fun x => ((pure (D.str "t0:") : M D) >>= fun x => ((pure (D.str "t3:s4:wordi1;s2:g") : M D) >>= fun x => ((pure (D.str "t3:s4:wordi1;s2:go ") : M D) >>= fun x => (pure [] : M (List D)) >>= fun r => pure (x :: r)) >>= fun r => pure (x :: r)) >>= fun r => pure (x :: r)) >>= fun r => pure (x :: r)) >>= fun r => pure (x :: r)) >>= fun r => pure (x :: r)) >>= mkTup) >>= itOf) >>= fun it => ask (small it.items.length) >>= fun _ => loopC it (gN 3) (fun _ => pure true) (fun ρ => (noX (g_l_met (((rd 3 ρ) >>= fun x => (pure [] : M (List D)) >>= fun r => pure (x :: r)) >>= callM 1 m_read_letter)))) (wipeE ρ [3]) it.items [] >>= newL) fun d => pure (VL.Flow.nx (ρ.set 2 (some d)))
noncomputable def s_law_2 : VL.Env → M VL.Flow := fun ρ => liftS ρ ((rd 2 ρ) >>= fun x => tyM "list" x >>= fun _ => ((noX (g_l_met (((((pure [] : M (List D)) >>= mkTup) >>= fun x => (pure [] : M (List D)) >>= fun r => pure (x :: r)) >>= fun ds => newM "Bag" 2 m_Bag_init (ds ++ [])) >>= fun x => isI "Bag" x >>= fun _ => ((pure (D.int 0) : M D) >>= fun x => (pure [] : M (List D)) >>= fun r => pure (x :: r)) >>= fun ds => callM 2 m_Bag_letter (x :: ds)))) >>= fun x => (pure [] : M (List D)) >>= fun r => pure (x :: r)) >>= fun xs => appM x xs) fun _ => pure (VL.Flow.nx ρ)
noncomputable def s_law_3 : VL.Env → M VL.Flow := fun ρ => liftS ρ ((rd 2 ρ) >>= fun x => tyM "list" x >>= fun _ => ((noX (g_l_met ((((((pure [] : M (List D)) >>= mkTup) >>= fun x => (pure [] : M (List D)) >>= fun r => pure (x :: r)) >>= fun ds => newM "Bag" 2 m_Bag_init (ds ++ [])) >>= fun x => ((((pure (D.int 0) : M D) >>= fun x => (pure [] : M (List D)) >>= fun r => pure (x :: r)) >>= mkTup) >>= fun x => (pure [] : M (List D)) >>= fun r => pure (x :: r)) >>= fun r => pure (x :: r)) >>= callM 2 m_judged_handing))) >>= fun x => (pure [] : M (List D)) >>= fun r => pure (x :: r)) >>= fun xs => appM x xs) fun _ => pure (VL.Flow.nx ρ)
noncomputable def s_law_4 : VL.Env → M VL.Flow := fun ρ => liftS ρ (((rd 2 ρ) >>= fun x => (((((((pure (D.str "refused") : M D) >>= fun x => ((pure (D.str "letter") : M D) >>= fun x => (pure [] : M (List D)) >>= fun r => pure (x :: r)) >>= fun r => pure (x :: r)) >>= mkTup) >>= fun x => (pure [] : M (List D)) >>= fun r => pure (x :: r)) >>= mkLst) >>= fun x => (pure (D.int 6) : M D) >>= fun y => dMulL x y) >>= fun x => (((((pure (D.str "refused") : M D) >>= fun x => ((pure (D.str "number 0") : M D) >>= fun x => (pure [] : M (List D)) >>= fun r => pure (x :: r)) >>= fun r => pure (x :: r)) >>= mkTup) >>= fun x => ((((pure (D.str "refused") : M D) >>= fun x => ((pure (D.str "operation") : M D) >>= fun x => (pure [] : M (List D)) >>= fun r => pure (x :: r)) >>= fun r => pure (x :: r)) >>= mkTup) >>= fun x => (pure [] : M (List D)) >>= fun r => pure (x :: r)) >>= fun r => pure (x :: r)) >>= mkLst) >>= fun y => dAdd x y) >>= fun y => dNe x y) >>= asB) fun k => if k then (liftS ρ (pure (D.bl false) : M D) fun d => pure (VL.Flow.rt d)) else (pure (VL.Flow.nx ρ))
noncomputable def s_law_5 : VL.Env → M VL.Flow := fun ρ => liftS ρ (andD (((((pure k_HOST : M D) >>= fun x => ((pure k_MOST_SEAT : M D) >>= fun x => ((pure k_MOST_WORDS : M D) >>= fun x => ((pure k_MOST_STRETCH : M D) >>= fun x => ((pure k_MOST_PIECES : M D) >>= fun x => ((pure k_MOST_PIECE : M D) >>= fun x => (pure [] : M (List D)) >>= fun r => pure (x :: r)) >>= fun r => pure (x :: r)) >>= fun r => pure (x :: r)) >>= fun r => pure (x :: r)) >>= fun r => pure (x :: r)) >>= fun r => pure (x :: r)) >>= mkTup) >>= fun x => ((((pure (D.int 1) : M D) >>= negD) >>= fun x => ((pure (D.int 5) : M D) >>= fun x => ((pure (D.int 20) : M D) >>= fun x => ((pure (D.int 32) : M D) >>= fun x => ((pure (D.int 100) : M D) >>= fun x => ((pure (D.int 200) : M D) >>= fun x => (pure [] : M (List D)) >>= fun r => pure (x :: r)) >>= fun r => pure (x :: r)) >>= fun r => pure (x :: r)) >>= fun r => pure (x :: r)) >>= fun r => pure (x :: r)) >>= fun r => pure (x :: r)) >>= mkTup) >>= fun y => dEq x y)) ((((newM "Bag" 2 m_Bag_init [D.tup []]) >>= fun x => isI "Bag" x >>= fun _ => noX (m_Bag_letters [x])) >>= fun x => ((pure [] : M (List D)) >>= mkTup) >>= fun y => dEq x y))) fun d => pure (VL.Flow.rt d)
noncomputable def f_law : VL.Env → M VL.Flow := fun ρ => seqM (s_law_0 ρ)
    (fun ρ => seqM (s_law_1 ρ)
    (fun ρ => seqM (s_law_2 ρ)
    (fun ρ => seqM (s_law_3 ρ)
    (fun ρ => seqM (s_law_4 ρ)
    (fun ρ => s_law_5 ρ)))))
noncomputable def m_law : List D → M D := runF 4 f_law
theorem ok_law (T : Tp P w K mg) (B : Tb T base) : FnG P w K mg base (L2.CX P w) 13 T.a_law T.d_law ["_law_script"] (spD T.cn 1 m_law) :=
  fnv_okG (c := T.cn) T.FC_law rfl sc_law fun A outer s0 H E hr hgu => (vb_cons (vs_for (vi_range1 (by rfl) T.m_range (vl_cons (ve_callB (cv_max rfl rfl) (by rfl) T.m_max (by decide +kernel) (vl_cons ve_int (vl_cons (ve_callB (cv_min rfl rfl) (by rfl) T.m_min (by decide +kernel) (vl_cons ve_int (vl_cons (ve_callB (cv_len rfl) (by rfl) T.m_len (by decide +kernel) (vl_cons (vv 0 (lo_none rfl)) vl_nil) (fun _ _ p q => pe_callB p (by rfl) T.m_len (by decide +kernel) q)) vl_nil)) (fun _ _ p q => pe_callB p (by rfl) T.m_min (by decide +kernel) q)) vl_nil)) (fun _ _ p q => pe_callB p (by rfl) T.m_max (by decide +kernel) q)) vl_nil)) (vg_name (i := 1) (lo_none rfl) (fun z => absurd rfl z) sc_law.nd rfl (Or.inl rfl)) (vb_one (vs_if (vt_not (vt_val (ve_callG (ok_l_right T B) (hr.mono (by decide)) (deeper_guards hgu) (by rfl) T.g_l_right T.F_l_right.kp T.b_l_right (takes_of rfl rfl rfl rfl) (vl_cons (ve_call (ok_l_dice T) (hr.mono (by decide)) (by rfl) T.g_l_dice T.F_l_dice.kp T.b_l_dice (takes_of rfl rfl rfl rfl) (vl_cons (vv 0 (lo_none rfl)) (vl_cons (vv 1 (lo_none rfl)) vl_nil)) (fun _ z => pe_callS (ok_l_dice T) (hr.mono (by decide)) (by rfl) T.g_l_dice T.F_l_dice.kp T.b_l_dice (fun σ => passAt (takes_of rfl rfl rfl rfl) σ) z)) vl_nil) (fun _ z => pe_callG (ok_l_right T B) (hr.mono (by decide)) (deeper_guards hgu) (by rfl) T.g_l_right T.F_l_right.kp T.b_l_right (fun σ => passAt (takes_of rfl rfl rfl rfl) σ) z)))) (vb_one (vs_ret ve_bl)) vb_nil)) (fun _ _ _ p q r => ps_for (passes_of rfl) rfl p q r))
    (vb_cons (vs_setLc (i := 2) fin_new (own := [("_law_text", 3)]) (lo_none rfl) (fun z => absurd rfl z) (fun i hi => ⟨lo_none rfl, fun z => absurd rfl z⟩) (by rfl) sc_law.nd rfl rfl (sw_true rfl rfl rfl (by decide +kernel)) (blkOk_by (own := [("_law_text", 3)]) (N := N_law) (sc := defScope s_law) (by decide +kernel)) (vi_seq rfl (ve_tup (vl_cons ve_str (vl_cons ve_str (vl_cons ve_str (vl_cons ve_str (vl_cons ve_str (vl_cons ve_str vl_nil)))))))) (fun _ _ _ _ _ => (vg_name (i := 3) (lo_none rfl) (fun z => absurd rfl z) sc_law.nd rfl (Or.inr rfl))) (fun _ _ _ _ _ => vts_nil) (fun _ _ _ _ _ => (ve_lamG (k := 8) (Ng := N_l_met) T.FC_l_met (by rfl) T.g_l_met T.F_l_met.kp T.b_l_met sc_l_met rfl (by first | exact Or.inl rfl | exact Or.inr (Or.inl rfl)) (gives_l_met T (deeper_guards hgu) (hr.mono (by decide))) B.b_law rfl (P := T.P_law) (.tail _ (.head _)) (fun p hp e => T.uT p hp _ (.tail _ (.head _)) e) (hr.mono (by decide)) (lamS_by (by kernel_rfl)) rfl (fun _ _ _ _ _ => rfl) (fun A outer s H E f c2 hr tkL => (ve_call (ok_read_letter T) (hr.mono (by decide)) (by rfl) T.g_read_letter T.F_read_letter.kp T.b_read_letter tkL (vl_cons (vv 3 (lo_none rfl)) vl_nil) (fun _ z => pe_callS (ok_read_letter T) (hr.mono (by decide)) (by rfl) T.g_read_letter T.F_read_letter.kp T.b_read_letter (fun σ => passAt tkL σ) z))))) (by decide))
    (vb_cons (vs_expr (ve_bm rfl PySem.F.plainAttrs_list PySem.F.slot_list_append PySem.F.type_list_append mv_append (vv 2 (lo_none rfl)) (vl_cons (ve_lamG (k := 9) (Ng := N_l_met) T.FC_l_met (by rfl) T.g_l_met T.F_l_met.kp T.b_l_met sc_l_met rfl (by first | exact Or.inl rfl | exact Or.inr (Or.inl rfl)) (gives_l_met T (deeper_guards hgu) (hr.mono (by decide))) B.b_law rfl (P := T.P_law) (.tail _ (.head _)) (fun p hp e => T.uT p hp _ (.tail _ (.head _)) e) (hr.mono (by decide)) (lamS_by (by kernel_rfl)) rfl (fun _ _ _ _ _ => rfl) (fun A outer s H E f c2 hr tkL => (ve_meth (C := "Bag") (ve_make (C := "Bag") T.mk_Bag (ok_Bag_init T) (hr.mono (by decide)) (by rfl) T.g_Bag T.b_Bag_init .nil (fun _ _ => by simp only [RepL]) tkL (vl_cons (ve_tup vl_nil) vl_nil)) T.cl_Bag T.m_Bag_letter (ok_Bag_letter T) T.b_Bag_letter (hr.mono (by decide)) tkL (vl_cons ve_int vl_nil) (fun _ _ y z => pe_methS y T.cl_Bag T.m_Bag_letter ((ok_Bag_letter T).raw T.b_Bag_letter .nil) (hr.mono (by decide)) tkL z)))) vl_nil) (fun _ _ _ p q z => pe_bm PySem.F.plainAttrs_list PySem.F.slot_list_append PySem.F.type_list_append p q z)))
    (vb_cons (vs_expr (ve_bm rfl PySem.F.plainAttrs_list PySem.F.slot_list_append PySem.F.type_list_append mv_append (vv 2 (lo_none rfl)) (vl_cons (ve_lamG (k := 9) (Ng := N_l_met) T.FC_l_met (by rfl) T.g_l_met T.F_l_met.kp T.b_l_met sc_l_met rfl (by first | exact Or.inl rfl | exact Or.inr (Or.inl rfl)) (gives_l_met T (deeper_guards hgu) (hr.mono (by decide))) B.b_law rfl (P := T.P_law) (.tail _ (.head _)) (fun p hp e => T.uT p hp _ (.tail _ (.head _)) e) (hr.mono (by decide)) (lamS_by (by kernel_rfl)) rfl (fun _ _ _ _ _ => rfl) (fun A outer s H E f c2 hr tkL => (ve_call (ok_judged_handing T) (hr.mono (by decide)) (by rfl) T.g_judged_handing T.F_judged_handing.kp T.b_judged_handing tkL (vl_cons (ve_make (C := "Bag") T.mk_Bag (ok_Bag_init T) (hr.mono (by decide)) (by rfl) T.g_Bag T.b_Bag_init .nil (fun _ _ => by simp only [RepL]) tkL (vl_cons (ve_tup vl_nil) vl_nil)) (vl_cons (ve_tup (vl_cons ve_int vl_nil)) vl_nil)) (fun _ z => pe_callS (ok_judged_handing T) (hr.mono (by decide)) (by rfl) T.g_judged_handing T.F_judged_handing.kp T.b_judged_handing (fun σ => passAt tkL σ) z)))) vl_nil) (fun _ _ _ p q z => pe_bm PySem.F.plainAttrs_list PySem.F.slot_list_append PySem.F.type_list_append p q z)))
    (vb_cons (vs_if (vt_cmp (opv_ne rfl hr.units) (vv 2 (lo_none rfl)) (ve_op (opv_add rfl) (ve_op (opv_mulL rfl) (ve_lst (vl_cons (ve_tup (vl_cons ve_str (vl_cons ve_str vl_nil))) vl_nil)) ve_int) (ve_lst (vl_cons (ve_tup (vl_cons ve_str (vl_cons ve_str vl_nil))) (vl_cons (ve_tup (vl_cons ve_str (vl_cons ve_str vl_nil))) vl_nil)))) (nomark _)) (vb_one (vs_ret ve_bl)) vb_nil)
    (vb_one (vs_ret (ve_and (ve_cmp (opv_eq rfl hr.units) (ve_tup (vl_cons (ve_glob (d := k_HOST) (by rfl) T.c_HOST T.r_HOST T.q_HOST) (vl_cons (ve_glob (d := k_MOST_SEAT) (by rfl) T.c_MOST_SEAT T.r_MOST_SEAT T.q_MOST_SEAT) (vl_cons (ve_glob (d := k_MOST_WORDS) (by rfl) T.c_MOST_WORDS T.r_MOST_WORDS T.q_MOST_WORDS) (vl_cons (ve_glob (d := k_MOST_STRETCH) (by rfl) T.c_MOST_STRETCH T.r_MOST_STRETCH T.q_MOST_STRETCH) (vl_cons (ve_glob (d := k_MOST_PIECES) (by rfl) T.c_MOST_PIECES T.r_MOST_PIECES T.q_MOST_PIECES) (vl_cons (ve_glob (d := k_MOST_PIECE) (by rfl) T.c_MOST_PIECE T.r_MOST_PIECE T.q_MOST_PIECE) vl_nil))))))) (ve_tup (vl_cons (ve_neg ve_int) (vl_cons ve_int (vl_cons ve_int (vl_cons ve_int (vl_cons ve_int (vl_cons ve_int vl_nil))))))) (nomark _)) (ve_one (ve_cmp (opv_eq rfl hr.units) (ve_prop (C := "Bag") rfl (ve_make0 (C := "Bag") (dds := [D.tup []]) T.mk_Bag (ok_Bag_init T) (hr.mono (by decide)) (by rfl) T.g_Bag T.bd_Bag_init.choose_spec.2 T.bd_Bag_init.choose_spec.1 (fun φ H => by simp only [RepL, Rep]; exact ⟨_, _, rfl, ⟨_, _, rfl, .inr (T.se0_Bag_init _), rfl⟩, rfl⟩) (takes_of rfl rfl rfl rfl)) T.cl_Bag T.p_Bag_letters.at_ T.p_Bag_letters.get T.p_Bag_letters.tak T.p_Bag_letters.rec_ (ok_Bag_letters T) T.b_Bag_letters (hr.mono (by decide))) (ve_tup vl_nil) (nomark _)))))))))))
end
theorem pick_is : m_l_pick = mP_pick := rfl
theorem dice_is : m_l_dice = mP_dice := rfl
noncomputable def t_l_right_21 : VL.Env → M VL.Flow := s_l_right_21
noncomputable def t_l_right_20 : VL.Env → M VL.Flow := fun ρ => seqM (s_l_right_20 ρ) t_l_right_21
noncomputable def t_l_right_19 : VL.Env → M VL.Flow := fun ρ => seqM (s_l_right_19 ρ) t_l_right_20
noncomputable def t_l_right_18 : VL.Env → M VL.Flow := fun ρ => seqM (s_l_right_18 ρ) t_l_right_19
noncomputable def t_l_right_17 : VL.Env → M VL.Flow := fun ρ => seqM (s_l_right_17 ρ) t_l_right_18
noncomputable def t_l_right_16 : VL.Env → M VL.Flow := fun ρ => seqM (s_l_right_16 ρ) t_l_right_17
noncomputable def t_l_right_15 : VL.Env → M VL.Flow := fun ρ => seqM (s_l_right_15 ρ) t_l_right_16
noncomputable def t_l_right_14 : VL.Env → M VL.Flow := fun ρ => seqM (s_l_right_14 ρ) t_l_right_15
noncomputable def t_l_right_13 : VL.Env → M VL.Flow := fun ρ => seqM (s_l_right_13 ρ) t_l_right_14
noncomputable def t_l_right_12 : VL.Env → M VL.Flow := fun ρ => seqM (s_l_right_12 ρ) t_l_right_13
noncomputable def t_l_right_11 : VL.Env → M VL.Flow := fun ρ => seqM (s_l_right_11 ρ) t_l_right_12
noncomputable def t_l_right_10 : VL.Env → M VL.Flow := fun ρ => seqM (s_l_right_10 ρ) t_l_right_11
noncomputable def t_l_right_9 : VL.Env → M VL.Flow := fun ρ => seqM (s_l_right_9 ρ) t_l_right_10
noncomputable def t_l_right_8 : VL.Env → M VL.Flow := fun ρ => seqM (s_l_right_8 ρ) t_l_right_9
noncomputable def t_l_right_7 : VL.Env → M VL.Flow := fun ρ => seqM (s_l_right_7 ρ) t_l_right_8
noncomputable def t_l_right_6 : VL.Env → M VL.Flow := fun ρ => seqM (s_l_right_6 ρ) t_l_right_7
noncomputable def t_l_right_5 : VL.Env → M VL.Flow := fun ρ => seqM (s_l_right_5 ρ) t_l_right_6
noncomputable def t_l_right_4 : VL.Env → M VL.Flow := fun ρ => seqM (s_l_right_4 ρ) t_l_right_5
noncomputable def t_l_right_3 : VL.Env → M VL.Flow := fun ρ => seqM (s_l_right_3 ρ) t_l_right_4
noncomputable def t_l_right_2 : VL.Env → M VL.Flow := fun ρ => seqM (s_l_right_2 ρ) t_l_right_3
noncomputable def t_l_right_1 : VL.Env → M VL.Flow := fun ρ => seqM (s_l_right_1 ρ) t_l_right_2
noncomputable def t_law_5 : VL.Env → M VL.Flow := s_law_5
noncomputable def t_law_4 : VL.Env → M VL.Flow := fun ρ => seqM (s_law_4 ρ) t_law_5
noncomputable def t_law_3 : VL.Env → M VL.Flow := fun ρ => seqM (s_law_3 ρ) t_law_4
noncomputable def t_law_2 : VL.Env → M VL.Flow := fun ρ => seqM (s_law_2 ρ) t_law_3
noncomputable def t_law_1 : VL.Env → M VL.Flow := fun ρ => seqM (s_law_1 ρ) t_law_2
theorem all_eq {α : Type} {xss : List (List D)} {f g : List D → α} (h : (prod xss).map f = (prod xss).map g) {ds : List D} (hd : Picked ds xss) : f ds = g ds :=
  List.map_inj_left.1 h ds (mem_prod ds xss hd)
def lstOf : Out D → List D
  | .ok (.lst xs) _ => xs
  | _ => []
noncomputable def odds : List D := lstOf (m_l_odd_letters [] [])
theorem odds_ok (μ : Mem) : noX (m_l_odd_letters []) μ = .ok (.lst odds) μ := by kernel_rfl
abbrev R : D := .tup [.str "word", .int 3, .str "go"]
abbrev B : D := .ins "Bag" [.tup [R, .tup [.str "rows", .int 2, .int 0, .tup []], .tup [.str "keys", .int 2, .int 1, .tup [.int 7], .int 5]]]
abbrev numbers : List D := [.non, .int (-1), .int 3, .bl true, .str "0", .tup [.int 0], .int (10 ^ 60), .int 99]
abbrev places : List D := [.non, .int (-2), .int 6, .bl true, .str "1", .tup [.int 1], .int (10 ^ 60)]
abbrev texts : List D := [.non, .int 5, .lst [.str "t0:"], .str "a\nb", .tup [.str "t0:"], .dct [] [], .bl true]
abbrev nones : List D := [.non, .tup [], .tup [R], .lst [B], .int 0, .str "bag", R]
abbrev hands : List D := [.non, .lst [.int 0], .tup [.int 3], .tup [.int (-1)], .tup [.bl true], .tup [.str "0"], .tup [.int 0, .non], .int 0, .dct [] [], .str "0", .tup [.int 0, .int 1, .int 2, .int 3]]
abbrev TL : D := .tup [.str "refused", .str "letter"]
abbrev TT : D := .tup [.str "refused", .str "text"]
abbrev TO : D := .tup [.str "refused", .str "operation"]
def repD (d : D) : D := match toP d with
  | some p => .tup [.str "refused", .str ("number " ++ p.shown)]
  | none => .non
theorem g7 (c : Cell) (n p x z h : D) : (prod [odds]).map (fun ds => match ds with | [u] => s_l_right_7 [some (.ptr 0), some (u), some (R), some (B), some (n), some (p), some (x), some (z), some (h), none, none] [c] | _ => .stuck) = (prod [odds]).map (fun ds => match ds with | [u] => .ok (.nx [some (.ptr 0), some (u), some (R), some (B), some (n), some (p), some (x), some (z), some (h), some (.ptr 1), none]) [c, .lst [TL]] | _ => .stuck) := by kernel_rfl
theorem k7 (c : Cell) (u n p x z h : D) (hu : u ∈ odds) : s_l_right_7 [some (.ptr 0), some (u), some (R), some (B), some (n), some (p), some (x), some (z), some (h), none, none] [c] = .ok (.nx [some (.ptr 0), some (u), some (R), some (B), some (n), some (p), some (x), some (z), some (h), some (.ptr 1), none]) [c, .lst [TL]] := all_eq (g7 c n p x z h) (ds := [u]) ⟨hu, trivial⟩
theorem g8 (c : Cell) (n p x z h : D) : (prod [odds]).map (fun ds => match ds with | [u] => s_l_right_8 [some (.ptr 0), some (u), some (R), some (B), some (n), some (p), some (x), some (z), some (h), some (.ptr 1), none] [c, .lst [TL]] | _ => .stuck) = (prod [odds]).map (fun ds => match ds with | [u] => .ok (.nx [some (.ptr 0), some (u), some (R), some (B), some (n), some (p), some (x), some (z), some (h), some (.ptr 1), none]) [c, .lst [TL, TL]] | _ => .stuck) := by kernel_rfl
theorem k8 (c : Cell) (u n p x z h : D) (hu : u ∈ odds) : s_l_right_8 [some (.ptr 0), some (u), some (R), some (B), some (n), some (p), some (x), some (z), some (h), some (.ptr 1), none] [c, .lst [TL]] = .ok (.nx [some (.ptr 0), some (u), some (R), some (B), some (n), some (p), some (x), some (z), some (h), some (.ptr 1), none]) [c, .lst [TL, TL]] := all_eq (g8 c n p x z h) (ds := [u]) ⟨hu, trivial⟩
theorem g9 (c : Cell) (n p x z h : D) : (prod [odds]).map (fun ds => match ds with | [u] => s_l_right_9 [some (.ptr 0), some (u), some (R), some (B), some (n), some (p), some (x), some (z), some (h), some (.ptr 1), none] [c, .lst [TL, TL]] | _ => .stuck) = (prod [odds]).map (fun ds => match ds with | [u] => .ok (.nx [some (.ptr 0), some (u), some (R), some (B), some (n), some (p), some (x), some (z), some (h), some (.ptr 1), none]) [c, .lst [TL, TL, TL]] | _ => .stuck) := by kernel_rfl
theorem k9 (c : Cell) (u n p x z h : D) (hu : u ∈ odds) : s_l_right_9 [some (.ptr 0), some (u), some (R), some (B), some (n), some (p), some (x), some (z), some (h), some (.ptr 1), none] [c, .lst [TL, TL]] = .ok (.nx [some (.ptr 0), some (u), some (R), some (B), some (n), some (p), some (x), some (z), some (h), some (.ptr 1), none]) [c, .lst [TL, TL, TL]] := all_eq (g9 c n p x z h) (ds := [u]) ⟨hu, trivial⟩
theorem g10 (c : Cell) (n p x z h : D) : (prod [odds]).map (fun ds => match ds with | [u] => s_l_right_10 [some (.ptr 0), some (u), some (R), some (B), some (n), some (p), some (x), some (z), some (h), some (.ptr 1), none] [c, .lst [TL, TL, TL]] | _ => .stuck) = (prod [odds]).map (fun ds => match ds with | [u] => .ok (.nx [some (.ptr 0), some (u), some (R), some (B), some (n), some (p), some (x), some (z), some (h), some (.ptr 1), none]) [c, .lst [TL, TL, TL, TL]] | _ => .stuck) := by kernel_rfl
theorem k10 (c : Cell) (u n p x z h : D) (hu : u ∈ odds) : s_l_right_10 [some (.ptr 0), some (u), some (R), some (B), some (n), some (p), some (x), some (z), some (h), some (.ptr 1), none] [c, .lst [TL, TL, TL]] = .ok (.nx [some (.ptr 0), some (u), some (R), some (B), some (n), some (p), some (x), some (z), some (h), some (.ptr 1), none]) [c, .lst [TL, TL, TL, TL]] := all_eq (g10 c n p x z h) (ds := [u]) ⟨hu, trivial⟩
theorem g11 (c : Cell) (n p x z h : D) : (prod [odds]).map (fun ds => match ds with | [u] => s_l_right_11 [some (.ptr 0), some (u), some (R), some (B), some (n), some (p), some (x), some (z), some (h), some (.ptr 1), none] [c, .lst [TL, TL, TL, TL]] | _ => .stuck) = (prod [odds]).map (fun ds => match ds with | [u] => .ok (.nx [some (.ptr 0), some (u), some (R), some (B), some (n), some (p), some (x), some (z), some (h), some (.ptr 1), none]) [c, .lst [TL, TL, TL, TL, TL]] | _ => .stuck) := by kernel_rfl
theorem k11 (c : Cell) (u n p x z h : D) (hu : u ∈ odds) : s_l_right_11 [some (.ptr 0), some (u), some (R), some (B), some (n), some (p), some (x), some (z), some (h), some (.ptr 1), none] [c, .lst [TL, TL, TL, TL]] = .ok (.nx [some (.ptr 0), some (u), some (R), some (B), some (n), some (p), some (x), some (z), some (h), some (.ptr 1), none]) [c, .lst [TL, TL, TL, TL, TL]] := all_eq (g11 c n p x z h) (ds := [u]) ⟨hu, trivial⟩
theorem g12 (c : Cell) (n p x z h : D) : (prod [odds]).map (fun ds => match ds with | [u] => s_l_right_12 [some (.ptr 0), some (u), some (R), some (B), some (n), some (p), some (x), some (z), some (h), some (.ptr 1), none] [c, .lst [TL, TL, TL, TL, TL]] | _ => .stuck) = (prod [odds]).map (fun ds => match ds with | [u] => .ok (.nx [some (.ptr 0), some (u), some (R), some (B), some (n), some (p), some (x), some (z), some (h), some (.ptr 1), none]) [c, .lst [TL, TL, TL, TL, TL, TL]] | _ => .stuck) := by kernel_rfl
theorem k12 (c : Cell) (u n p x z h : D) (hu : u ∈ odds) : s_l_right_12 [some (.ptr 0), some (u), some (R), some (B), some (n), some (p), some (x), some (z), some (h), some (.ptr 1), none] [c, .lst [TL, TL, TL, TL, TL]] = .ok (.nx [some (.ptr 0), some (u), some (R), some (B), some (n), some (p), some (x), some (z), some (h), some (.ptr 1), none]) [c, .lst [TL, TL, TL, TL, TL, TL]] := all_eq (g12 c n p x z h) (ds := [u]) ⟨hu, trivial⟩
theorem g13 (c : Cell) (n p x z h : D) : (prod [odds]).map (fun ds => match ds with | [u] => s_l_right_13 [some (.ptr 0), some (u), some (R), some (B), some (n), some (p), some (x), some (z), some (h), some (.ptr 1), none] [c, .lst [TL, TL, TL, TL, TL, TL]] | _ => .stuck) = (prod [odds]).map (fun ds => match ds with | [u] => .ok (.nx [some (.ptr 0), some (u), some (R), some (B), some (n), some (p), some (x), some (z), some (h), some (.ptr 1), none]) [c, .lst [TL, TL, TL, TL, TL, TL, TL]] | _ => .stuck) := by kernel_rfl
theorem k13 (c : Cell) (u n p x z h : D) (hu : u ∈ odds) : s_l_right_13 [some (.ptr 0), some (u), some (R), some (B), some (n), some (p), some (x), some (z), some (h), some (.ptr 1), none] [c, .lst [TL, TL, TL, TL, TL, TL]] = .ok (.nx [some (.ptr 0), some (u), some (R), some (B), some (n), some (p), some (x), some (z), some (h), some (.ptr 1), none]) [c, .lst [TL, TL, TL, TL, TL, TL, TL]] := all_eq (g13 c n p x z h) (ds := [u]) ⟨hu, trivial⟩
theorem k14 (c : Cell) (u n p x z h : D) : s_l_right_14 [some (.ptr 0), some (u), some (R), some (B), some (n), some (p), some (x), some (z), some (h), some (.ptr 1), none] [c, .lst [TL, TL, TL, TL, TL, TL, TL]] = .ok (.nx [some (.ptr 0), some (u), some (R), some (B), some (n), some (p), some (x), some (z), some (h), some (.ptr 1), some (.lst [TL, TL, TL, TL, TL, TL, TL])]) [c, .lst [TL, TL, TL, TL, TL, TL, TL]] := by kernel_rfl
theorem g15 (c : Cell) (u n p z h : D) : (prod [texts]).map (fun ds => match ds with | [x] => s_l_right_15 [some (.ptr 0), some (u), some (R), some (B), some (n), some (p), some (x), some (z), some (h), some (.ptr 1), some (.lst [TL, TL, TL, TL, TL, TL, TL])] [c, .lst [TL, TL, TL, TL, TL, TL, TL]] | _ => .stuck) = (prod [texts]).map (fun ds => match ds with | [x] => .ok (.nx [some (.ptr 0), some (u), some (R), some (B), some (n), some (p), some (x), some (z), some (h), some (.ptr 1), some (.lst [TL, TL, TL, TL, TL, TL, TL])]) [c, .lst [TL, TL, TL, TL, TL, TL, TL, TT]] | _ => .stuck) := by kernel_rfl
theorem k15 (c : Cell) (u n p x z h : D) (hx : x ∈ texts) : s_l_right_15 [some (.ptr 0), some (u), some (R), some (B), some (n), some (p), some (x), some (z), some (h), some (.ptr 1), some (.lst [TL, TL, TL, TL, TL, TL, TL])] [c, .lst [TL, TL, TL, TL, TL, TL, TL]] = .ok (.nx [some (.ptr 0), some (u), some (R), some (B), some (n), some (p), some (x), some (z), some (h), some (.ptr 1), some (.lst [TL, TL, TL, TL, TL, TL, TL])]) [c, .lst [TL, TL, TL, TL, TL, TL, TL, TT]] := all_eq (g15 c u n p z h) (ds := [x]) ⟨hx, trivial⟩
theorem g16 (c : Cell) (u p x z h : D) : (prod [numbers]).map (fun ds => match ds with | [n] => s_l_right_16 [some (.ptr 0), some (u), some (R), some (B), some (n), some (p), some (x), some (z), some (h), some (.ptr 1), some (.lst [TL, TL, TL, TL, TL, TL, TL])] [c, .lst [TL, TL, TL, TL, TL, TL, TL, TT]] | _ => .stuck) = (prod [numbers]).map (fun ds => match ds with | [n] => .ok (.nx [some (.ptr 0), some (u), some (R), some (B), some (n), some (p), some (x), some (z), some (h), some (.ptr 1), some (.lst [TL, TL, TL, TL, TL, TL, TL])]) [c, .lst [TL, TL, TL, TL, TL, TL, TL, TT, repD n]] | _ => .stuck) := by kernel_rfl
theorem k16 (c : Cell) (u n p x z h : D) (hn : n ∈ numbers) : s_l_right_16 [some (.ptr 0), some (u), some (R), some (B), some (n), some (p), some (x), some (z), some (h), some (.ptr 1), some (.lst [TL, TL, TL, TL, TL, TL, TL])] [c, .lst [TL, TL, TL, TL, TL, TL, TL, TT]] = .ok (.nx [some (.ptr 0), some (u), some (R), some (B), some (n), some (p), some (x), some (z), some (h), some (.ptr 1), some (.lst [TL, TL, TL, TL, TL, TL, TL])]) [c, .lst [TL, TL, TL, TL, TL, TL, TL, TT, repD n]] := all_eq (g16 c u p x z h) (ds := [n]) ⟨hn, trivial⟩
theorem g17 (c : Cell) (u n x z h : D) : (prod [places]).map (fun ds => match ds with | [p] => s_l_right_17 [some (.ptr 0), some (u), some (R), some (B), some (n), some (p), some (x), some (z), some (h), some (.ptr 1), some (.lst [TL, TL, TL, TL, TL, TL, TL])] [c, .lst [TL, TL, TL, TL, TL, TL, TL, TT, repD n]] | _ => .stuck) = (prod [places]).map (fun ds => match ds with | [p] => .ok (.nx [some (.ptr 0), some (u), some (R), some (B), some (n), some (p), some (x), some (z), some (h), some (.ptr 1), some (.lst [TL, TL, TL, TL, TL, TL, TL])]) [c, .lst [TL, TL, TL, TL, TL, TL, TL, TT, repD n, repD p]] | _ => .stuck) := by kernel_rfl
theorem k17 (c : Cell) (u n p x z h : D) (hp : p ∈ places) : s_l_right_17 [some (.ptr 0), some (u), some (R), some (B), some (n), some (p), some (x), some (z), some (h), some (.ptr 1), some (.lst [TL, TL, TL, TL, TL, TL, TL])] [c, .lst [TL, TL, TL, TL, TL, TL, TL, TT, repD n]] = .ok (.nx [some (.ptr 0), some (u), some (R), some (B), some (n), some (p), some (x), some (z), some (h), some (.ptr 1), some (.lst [TL, TL, TL, TL, TL, TL, TL])]) [c, .lst [TL, TL, TL, TL, TL, TL, TL, TT, repD n, repD p]] := all_eq (g17 c u n x z h) (ds := [p]) ⟨hp, trivial⟩
theorem g18 (c : Cell) (u n p x : D) : (prod [nones, hands]).map (fun ds => match ds with | [z, h] => s_l_right_18 [some (.ptr 0), some (u), some (R), some (B), some (n), some (p), some (x), some (z), some (h), some (.ptr 1), some (.lst [TL, TL, TL, TL, TL, TL, TL])] [c, .lst [TL, TL, TL, TL, TL, TL, TL, TT, repD n, repD p]] | _ => .stuck) = (prod [nones, hands]).map (fun ds => match ds with | [z, h] => .ok (.nx [some (.ptr 0), some (u), some (R), some (B), some (n), some (p), some (x), some (z), some (h), some (.ptr 1), some (.lst [TL, TL, TL, TL, TL, TL, TL])]) [c, .lst [TL, TL, TL, TL, TL, TL, TL, TT, repD n, repD p, TO]] | _ => .stuck) := by kernel_rfl
theorem k18 (c : Cell) (u n p x z h : D) (hz : z ∈ nones) (hh : h ∈ hands) : s_l_right_18 [some (.ptr 0), some (u), some (R), some (B), some (n), some (p), some (x), some (z), some (h), some (.ptr 1), some (.lst [TL, TL, TL, TL, TL, TL, TL])] [c, .lst [TL, TL, TL, TL, TL, TL, TL, TT, repD n, repD p]] = .ok (.nx [some (.ptr 0), some (u), some (R), some (B), some (n), some (p), some (x), some (z), some (h), some (.ptr 1), some (.lst [TL, TL, TL, TL, TL, TL, TL])]) [c, .lst [TL, TL, TL, TL, TL, TL, TL, TT, repD n, repD p, TO]] := all_eq (g18 c u n p x) (ds := [z, h]) ⟨hz, hh, trivial⟩
theorem g19 (c : Cell) (u n p x z : D) : (prod [hands]).map (fun ds => match ds with | [h] => s_l_right_19 [some (.ptr 0), some (u), some (R), some (B), some (n), some (p), some (x), some (z), some (h), some (.ptr 1), some (.lst [TL, TL, TL, TL, TL, TL, TL])] [c, .lst [TL, TL, TL, TL, TL, TL, TL, TT, repD n, repD p, TO]] | _ => .stuck) = (prod [hands]).map (fun ds => match ds with | [h] => .ok (.nx [some (.ptr 0), some (u), some (R), some (B), some (n), some (p), some (x), some (z), some (h), some (.ptr 1), some (.lst [TL, TL, TL, TL, TL, TL, TL])]) [c, .lst [TL, TL, TL, TL, TL, TL, TL, TT, repD n, repD p, TO, TO]] | _ => .stuck) := by kernel_rfl
theorem k19 (c : Cell) (u n p x z h : D) (hh : h ∈ hands) : s_l_right_19 [some (.ptr 0), some (u), some (R), some (B), some (n), some (p), some (x), some (z), some (h), some (.ptr 1), some (.lst [TL, TL, TL, TL, TL, TL, TL])] [c, .lst [TL, TL, TL, TL, TL, TL, TL, TT, repD n, repD p, TO]] = .ok (.nx [some (.ptr 0), some (u), some (R), some (B), some (n), some (p), some (x), some (z), some (h), some (.ptr 1), some (.lst [TL, TL, TL, TL, TL, TL, TL])]) [c, .lst [TL, TL, TL, TL, TL, TL, TL, TT, repD n, repD p, TO, TO]] := all_eq (g19 c u n p x z) (ds := [h]) ⟨hh, trivial⟩
theorem g20 (c : Cell) (u x z h : D) : (prod [numbers, places]).map (fun ds => match ds with | [n, p] => s_l_right_20 [some (.ptr 0), some (u), some (R), some (B), some (n), some (p), some (x), some (z), some (h), some (.ptr 1), some (.lst [TL, TL, TL, TL, TL, TL, TL])] [c, .lst [TL, TL, TL, TL, TL, TL, TL, TT, repD n, repD p, TO, TO]] | _ => .stuck) = (prod [numbers, places]).map (fun ds => match ds with | [n, p] => .ok (.nx [some (.ptr 0), some (u), some (R), some (B), some (n), some (p), some (x), some (z), some (h), some (.ptr 1), some (.lst [TL, TL, TL, TL, TL, TL, TL, TT, repD n, repD p, TO, TO])]) [c, .lst [TL, TL, TL, TL, TL, TL, TL, TT, repD n, repD p, TO, TO]] | _ => .stuck) := by kernel_rfl
theorem k20 (c : Cell) (u n p x z h : D) (hn : n ∈ numbers) (hp : p ∈ places) : s_l_right_20 [some (.ptr 0), some (u), some (R), some (B), some (n), some (p), some (x), some (z), some (h), some (.ptr 1), some (.lst [TL, TL, TL, TL, TL, TL, TL])] [c, .lst [TL, TL, TL, TL, TL, TL, TL, TT, repD n, repD p, TO, TO]] = .ok (.nx [some (.ptr 0), some (u), some (R), some (B), some (n), some (p), some (x), some (z), some (h), some (.ptr 1), some (.lst [TL, TL, TL, TL, TL, TL, TL, TT, repD n, repD p, TO, TO])]) [c, .lst [TL, TL, TL, TL, TL, TL, TL, TT, repD n, repD p, TO, TO]] := all_eq (g20 c u x z h) (ds := [n, p]) ⟨hn, hp, trivial⟩
theorem g21 (c : Cell) (x z h : D) : (prod [odds, numbers, places]).map (fun ds => match ds with | [u, n, p] => s_l_right_21 [some (.ptr 0), some (u), some (R), some (B), some (n), some (p), some (x), some (z), some (h), some (.ptr 1), some (.lst [TL, TL, TL, TL, TL, TL, TL, TT, repD n, repD p, TO, TO])] [c, .lst [TL, TL, TL, TL, TL, TL, TL, TT, repD n, repD p, TO, TO]] | _ => .stuck) = (prod [odds, numbers, places]).map (fun ds => match ds with | [u, n, p] => .ok (.rt (.bl true)) [c, .lst [TL, TL, TL, TL, TL, TL, TL, TT, repD n, repD p, TO, TO]] | _ => .stuck) := by kernel_rfl
theorem k21 (c : Cell) (u n p x z h : D) (hu : u ∈ odds) (hn : n ∈ numbers) (hp : p ∈ places) : s_l_right_21 [some (.ptr 0), some (u), some (R), some (B), some (n), some (p), some (x), some (z), some (h), some (.ptr 1), some (.lst [TL, TL, TL, TL, TL, TL, TL, TT, repD n, repD p, TO, TO])] [c, .lst [TL, TL, TL, TL, TL, TL, TL, TT, repD n, repD p, TO, TO]] = .ok (.rt (.bl true)) [c, .lst [TL, TL, TL, TL, TL, TL, TL, TT, repD n, repD p, TO, TO]] := all_eq (g21 c x z h) (ds := [u, n, p]) ⟨hu, hn, hp, trivial⟩
theorem draw_ok {xs : List D} {ρ ρ' : VL.Env} {A : M (List D)} {d : D} {μ μ' : Mem} (i : Nat) (hA : A μ = .ok [.ptr 0, .lst xs] μ) (e : mP_pick [.ptr 0, .lst xs] μ = .ok d μ') (hr : ρ.set i (some d) = ρ') : liftS ρ (A >>= callM 2 m_l_pick) (fun d => pure (VL.Flow.nx (ρ.set i (some d)))) μ = .ok (.nx ρ') μ' := by
  rw [← pick_is] at e
  rw [← hr]
  exact lift_ok (bind_ok hA (call_ok rfl e)) rfl
theorem right_is : f_l_right = fun ρ => seqM (s_l_right_0 ρ) t_l_right_1 := by kernel_rfl
theorem right_ok {k : Int} {c : Cell} (hc : DiceC k c) (hk : k < 900) : ∃ c', DiceC (k + 6) c' ∧ ∀ (μ : Mem) (i : Nat), μ[i]? = some c → m_l_right [.ptr i] μ = .ok (.bl true) (μ.set i c') := by
  obtain ⟨u, μ1, hu, d1, e1⟩ := pick_ok (xs := odds) (x := .lst odds) (hc.dice []) rfl (by kernel_rfl) (by omega)
  obtain ⟨n, μ2, hn, d2, e2⟩ := pick_ok (xs := numbers) (x := .lst numbers) d1 rfl rfl (by omega)
  obtain ⟨p, μ3, hp, d3, e3⟩ := pick_ok (xs := places) (x := .lst places) d2 rfl rfl (by omega)
  obtain ⟨x, μ4, hx, d4, e4⟩ := pick_ok (xs := texts) (x := .lst texts) d3 rfl rfl (by omega)
  obtain ⟨z, μ5, hz, d5, e5⟩ := pick_ok (xs := nones) (x := .lst nones) d4 rfl rfl (by omega)
  obtain ⟨h, μ6, hh, d6, e6⟩ := pick_ok (xs := hands) (x := .lst hands) d5 rfl rfl (by omega)
  have d7 : Dice (k + 6) μ6 [] := d6.up (by omega)
  obtain ⟨c', dc, rfl⟩ := d7.cell
  have f0 : s_l_right_0 [some (.ptr 0), none, none, none, none, none, none, none, none, none, none] [c] = .ok (.nx [some (.ptr 0), some u, some R, none, none, none, none, none, none, none, none]) μ1 := by
    unfold s_l_right_0
    rw [← pick_is] at e1
    have eo := odds_ok [c]
    repeat (first | with_reducible exact pure_ok | (with_reducible refine rd_ok ?_; rfl) | (with_reducible refine call_ok ?_ ?_; (first | rfl | decide); (first | assumption | skip)) | (with_reducible refine tup_ok ?_; rfl) | (with_reducible refine lst_ok ?_; rfl) | assumption | with_reducible apply ask_bind | with_reducible apply bind_ok | with_reducible apply lift_ok | with_reducible apply liftT_ok | with_reducible apply seq_nx | rfl)
  have f1 : s_l_right_1 [some (.ptr 0), some u, some R, none, none, none, none, none, none, none, none] μ1 = .ok (.nx [some (.ptr 0), some u, some R, some B, none, none, none, none, none, none, none]) μ1 := by kernel_rfl
  have f2 : s_l_right_2 [some (.ptr 0), some u, some R, some B, none, none, none, none, none, none, none] μ1 = .ok (.nx [some (.ptr 0), some u, some R, some B, some n, none, none, none, none, none, none]) μ2 := by
    unfold s_l_right_2
    refine draw_ok (xs := numbers) 4 ?_ e2 rfl
    kernel_rfl
  have f3 : s_l_right_3 [some (.ptr 0), some u, some R, some B, some n, none, none, none, none, none, none] μ2 = .ok (.nx [some (.ptr 0), some u, some R, some B, some n, some p, none, none, none, none, none]) μ3 := by
    unfold s_l_right_3
    refine draw_ok (xs := places) 5 ?_ e3 rfl
    kernel_rfl
  have f4 : s_l_right_4 [some (.ptr 0), some u, some R, some B, some n, some p, none, none, none, none, none] μ3 = .ok (.nx [some (.ptr 0), some u, some R, some B, some n, some p, some x, none, none, none, none]) μ4 := by
    unfold s_l_right_4
    refine draw_ok (xs := texts) 6 ?_ e4 rfl
    kernel_rfl
  have f5 : s_l_right_5 [some (.ptr 0), some u, some R, some B, some n, some p, some x, none, none, none, none] μ4 = .ok (.nx [some (.ptr 0), some u, some R, some B, some n, some p, some x, some z, none, none, none]) μ5 := by
    unfold s_l_right_5
    refine draw_ok (xs := nones) 7 ?_ e5 rfl
    kernel_rfl
  have f6 : s_l_right_6 [some (.ptr 0), some u, some R, some B, some n, some p, some x, some z, none, none, none] μ5 = .ok (.nx [some (.ptr 0), some u, some R, some B, some n, some p, some x, some z, some h, none, none]) [c'] := by
    unfold s_l_right_6
    refine draw_ok (xs := hands) 8 ?_ e6 rfl
    kernel_rfl
  refine ⟨_, dc, fun μ i hi => locM_ok hi hc.np (μ' := [.lst [TL, TL, TL, TL, TL, TL, TL, TT, repD n, repD p, TO, TO]]) (run_rt (s := f_l_right) ?_) rfl dc.np⟩
  rw [right_is]
  exact (seq_nx f0 (seq_nx f1 (seq_nx f2 (seq_nx f3 (seq_nx f4 (seq_nx f5 (seq_nx f6 (seq_nx (k7 _ _ _ _ _ _ _ hu) (seq_nx (k8 _ _ _ _ _ _ _ hu) (seq_nx (k9 _ _ _ _ _ _ _ hu) (seq_nx (k10 _ _ _ _ _ _ _ hu) (seq_nx (k11 _ _ _ _ _ _ _ hu) (seq_nx (k12 _ _ _ _ _ _ _ hu) (seq_nx (k13 _ _ _ _ _ _ _ hu) (seq_nx (k14 _ _ _ _ _ _ _) (seq_nx (k15 _ _ _ _ _ _ _ hx) (seq_nx (k16 _ _ _ _ _ _ _ hn) (seq_nx (k17 _ _ _ _ _ _ _ hp) (seq_nx (k18 _ _ _ _ _ _ _ hz hh) (seq_nx (k19 _ _ _ _ _ _ _ hh) (seq_nx (k20 _ _ _ _ _ _ _ hn hp) (k21 _ _ _ _ _ _ _ hu hn hp))))))))))))))))))))))
abbrev E (xs : List D) (a b : Option D) : VL.Env := [some (.scr xs), a, none, none]
def okR : Out VL.Flow → Bool
  | .ok (.rt (.bl b)) _ => b
  | _ => false
theorem okR_ok {x : Out VL.Flow} (h : okR x = true) : ∃ μ, x = .ok (.rt (.bl true)) μ := by
  unfold okR at h
  split at h
  · cases h
    exact ⟨_, rfl⟩
  · cases h
theorem law_is : f_law = fun ρ => seqM (s_law_0 ρ) t_law_1 := by kernel_rfl
theorem end1 (xs : List D) (c0 : Cell) : okR (t_law_1 (E xs (some (.int 0)) none) [c0]) = true := by kernel_rfl
theorem end2 (xs : List D) (c0 c1 : Cell) : okR (t_law_1 (E xs (some (.int 1)) none) [c0, c1]) = true := by kernel_rfl
theorem end3 (xs : List D) (c0 c1 c2 : Cell) : okR (t_law_1 (E xs (some (.int 2)) none) [c0, c1, c2]) = true := by kernel_rfl
theorem end4 (xs : List D) (c0 c1 c2 c3 : Cell) : okR (t_law_1 (E xs (some (.int 3)) none) [c0, c1, c2, c3]) = true := by kernel_rfl
theorem plain : ∀ ns : List Int, ns.length ≤ 63 → ∃ μ, m_law [.scr (ns.map D.int)] [] = .ok (.bl true) μ := by
  intro ns _
  obtain ⟨n, hn, hr⟩ := rng_ok ns (i := 0) (ρ := E (ns.map D.int) none none) rfl
  have key : ∃ (ρ : VL.Env) (cs : Mem) (μ : Mem), s_law_0 (E (ns.map D.int) none none) [] = .ok (.nx ρ) cs ∧ t_law_1 ρ cs = .ok (.rt (.bl true)) μ := by
    have all := cells_ok (it := ⟨rangeD 0 n, fun _ => True⟩) (g := gN 1) (body := (fun ρ => liftS ρ (((((((rd 0 ρ) >>= fun x => ((rd 1 ρ) >>= fun x => (pure [] : M (List D)) >>= fun r => pure (x :: r)) >>= fun r => pure (x :: r)) >>= callM 2 m_l_dice) >>= fun x => (pure [] : M (List D)) >>= fun r => pure (x :: r)) >>= callM 1 m_l_right) >>= asB) >>= fun b => pure (!b)) fun k => if k then (liftS ρ (pure (D.bl false) : M D) fun d => pure (VL.Flow.rt d)) else (pure (VL.Flow.nx ρ)))) (E := E (ns.map D.int)) rfl (fun _ _ _ _ => rfl) (fun i b μ hi hl => by
        obtain ⟨l, s, e⟩ := dice_ok (ns := ns) (i := i) (μ := μ) (by omega) (by omega)
        rw [← dice_is, hl] at e
        have c1 : DiceC 1 (.lst [.int l, .int s, .int 0]) := ⟨l, s, 0, by decide, by decide, rfl⟩
        obtain ⟨c', d', e'⟩ := right_ok c1 (by decide)
        have g1 : (μ ++ [.lst [.int l, .int s, .int 0]])[i]? = some (.lst [.int l, .int s, .int 0]) := by rw [← hl]; simp
        have s1 : ∀ x y : Cell, (μ ++ [x]).set i y = μ ++ [y] := fun x y => by rw [← hl]; simp
        have f1 := e' _ i g1
        rw [s1] at f1
        refine ⟨c', lift_ok (a := false) (μ' := μ ++ [c']) ?_ rfl⟩
        repeat (first | with_reducible exact pure_ok | (with_reducible refine rd_ok ?_; rfl) | (with_reducible refine call_ok ?_ ?_; (first | rfl | decide); (first | assumption | skip)) | (with_reducible refine tup_ok ?_; rfl) | (with_reducible refine lst_ok ?_; rfl) | assumption | with_reducible apply ask_bind | with_reducible apply bind_ok | with_reducible apply lift_ok | with_reducible apply liftT_ok | with_reducible apply seq_nx | rfl))
    rcases hn with rfl | rfl | rfl | rfl
    · obtain ⟨c0, e⟩ := all.1
      obtain ⟨μ, q⟩ := okR_ok (end1 (ns.map D.int) c0)
      exact ⟨_, _, μ, lift_ok (hr []) e, q⟩
    · obtain ⟨c0, c1, e⟩ := all.2.1
      obtain ⟨μ, q⟩ := okR_ok (end2 (ns.map D.int) c0 c1)
      exact ⟨_, _, μ, lift_ok (hr []) e, q⟩
    · obtain ⟨c0, c1, c2, e⟩ := all.2.2.1
      obtain ⟨μ, q⟩ := okR_ok (end3 (ns.map D.int) c0 c1 c2)
      exact ⟨_, _, μ, lift_ok (hr []) e, q⟩
    · obtain ⟨c0, c1, c2, c3, e⟩ := all.2.2.2
      obtain ⟨μ, q⟩ := okR_ok (end4 (ns.map D.int) c0 c1 c2 c3)
      exact ⟨_, _, μ, lift_ok (hr []) e, q⟩
  obtain ⟨ρ, cs, μ, h1, h2⟩ := key
  refine ⟨μ, run_rt (s := f_law) ?_⟩
  rw [law_is]
  exact seq_nx h1 h2

theorem all_mk {l : PySem.W.OpenLaw} {w : World} {K : PySem.W.Frag} {h : Heap} {mg : Str → Option Value} {fa : Addr} (X : K.In h) (G : h.Ns mainGlobals mg) (hfa : mg "law" = some (.ref fa))
  {C_Known : Addr}
  {q_Known_own_found : Addr}
  {C_Bag : Addr}
  {q_Bag_own_letters : Addr}
  {f0 : Addr} {od0 an0 : Option Addr} {sl0 : Array (Option Value)} {oc0 kV0 dc0 pm0 cd0 ct0 : Value}
  {f1 : Addr} {od1 an1 : Option Addr} {sl1 : Array (Option Value)} {oc1 kV1 dc1 pm1 cd1 ct1 : Value}
  {f2 : Addr} {od2 an2 : Option Addr} {sl2 : Array (Option Value)} {oc2 kV2 dc2 pm2 cd2 ct2 : Value}
  {f3 : Addr} {od3 an3 : Option Addr} {sl3 : Array (Option Value)} {oc3 kV3 dc3 pm3 cd3 ct3 : Value}
  {f4 : Addr} {od4 an4 : Option Addr} {sl4 : Array (Option Value)} {oc4 kV4 dc4 pm4 cd4 ct4 : Value}
  {f5 : Addr} {od5 an5 : Option Addr} {sl5 : Array (Option Value)} {oc5 kV5 dc5 pm5 cd5 ct5 : Value}
  {f6 : Addr} {od6 an6 : Option Addr} {sl6 : Array (Option Value)} {oc6 kV6 dc6 pm6 cd6 ct6 : Value}
  {f7 : Addr} {od7 an7 : Option Addr} {sl7 : Array (Option Value)} {oc7 kV7 dc7 pm7 cd7 ct7 : Value}
  {f8 : Addr} {od8 an8 : Option Addr} {sl8 : Array (Option Value)} {oc8 kV8 dc8 pm8 cd8 ct8 : Value}
  {f9 : Addr} {od9 an9 : Option Addr} {sl9 : Array (Option Value)} {oc9 kV9 dc9 pm9 cd9 ct9 : Value}
  {f10 : Addr} {od10 an10 : Option Addr} {sl10 : Array (Option Value)} {oc10 kV10 dc10 pm10 cd10 ct10 : Value}
  {f11 : Addr} {od11 an11 : Option Addr} {sl11 : Array (Option Value)} {oc11 kV11 dc11 pm11 cd11 ct11 : Value}
  {f12 : Addr} {od12 an12 : Option Addr} {sl12 : Array (Option Value)} {oc12 kV12 dc12 pm12 cd12 ct12 : Value}
  {f13 : Addr} {od13 an13 : Option Addr} {sl13 : Array (Option Value)} {oc13 kV13 dc13 pm13 cd13 ct13 : Value}
  {f14 : Addr} {od14 an14 : Option Addr} {sl14 : Array (Option Value)} {oc14 kV14 dc14 pm14 cd14 ct14 : Value}
  {f15 : Addr} {od15 an15 : Option Addr} {sl15 : Array (Option Value)} {oc15 kV15 dc15 pm15 cd15 ct15 : Value}
  {f16 : Addr} {od16 an16 : Option Addr} {sl16 : Array (Option Value)} {oc16 kV16 dc16 pm16 cd16 ct16 : Value}
  {f17 : Addr} {od17 an17 : Option Addr} {sl17 : Array (Option Value)} {oc17 kV17 dc17 pm17 cd17 ct17 : Value}
  {f18 : Addr} {od18 an18 : Option Addr} {sl18 : Array (Option Value)} {oc18 kV18 dc18 pm18 cd18 ct18 : Value}
  {f19 : Addr} {od19 an19 : Option Addr} {sl19 : Array (Option Value)} {oc19 kV19 dc19 pm19 cd19 ct19 : Value}
  {f20 : Addr} {od20 an20 : Option Addr} {sl20 : Array (Option Value)} {oc20 kV20 dc20 pm20 cd20 ct20 : Value}
  {f21 : Addr} {od21 an21 : Option Addr} {sl21 : Array (Option Value)} {oc21 kV21 dc21 pm21 cd21 ct21 : Value}
  {f22 : Addr} {od22 an22 : Option Addr} {sl22 : Array (Option Value)} {oc22 kV22 dc22 pm22 cd22 ct22 : Value}
  {f23 : Addr} {od23 an23 : Option Addr} {sl23 : Array (Option Value)} {oc23 kV23 dc23 pm23 cd23 ct23 : Value}
  {f24 : Addr} {od24 an24 : Option Addr} {sl24 : Array (Option Value)} {oc24 kV24 dc24 pm24 cd24 ct24 : Value}
  {f25 : Addr} {od25 an25 : Option Addr} {sl25 : Array (Option Value)} {oc25 kV25 dc25 pm25 cd25 ct25 : Value}
  {f26 : Addr} {od26 an26 : Option Addr} {sl26 : Array (Option Value)} {oc26 kV26 dc26 pm26 cd26 ct26 : Value}
  {f27 : Addr} {od27 an27 : Option Addr} {sl27 : Array (Option Value)} {oc27 kV27 dc27 pm27 cd27 ct27 : Value}
  {f28 : Addr} {od28 an28 : Option Addr} {sl28 : Array (Option Value)} {oc28 kV28 dc28 pm28 cd28 ct28 : Value}
  {f29 dT29 : Addr} {oT29 : Obj} {iT29 : Array Value} {nT29 : Nat} {e29_0 : Addr} {eo29_0 : Obj} {ei29_0 : Array Value} {en29_0 : Nat} {od29 an29 : Option Addr} {sl29 : Array (Option Value)} {oc29 kV29 dc29 pm29 cd29 ct29 : Value}
  {f30 : Addr} {od30 an30 : Option Addr} {sl30 : Array (Option Value)} {oc30 kV30 dc30 pm30 cd30 ct30 : Value} {pp30 : Addr} {rs30 : List Value}
  {f31 : Addr} {od31 an31 : Option Addr} {sl31 : Array (Option Value)} {oc31 kV31 dc31 pm31 cd31 ct31 : Value}
  {f32 : Addr} {od32 an32 : Option Addr} {sl32 : Array (Option Value)} {oc32 kV32 dc32 pm32 cd32 ct32 : Value}
  {f33 : Addr} {od33 an33 : Option Addr} {sl33 : Array (Option Value)} {oc33 kV33 dc33 pm33 cd33 ct33 : Value}
  {f34 : Addr} {od34 an34 : Option Addr} {sl34 : Array (Option Value)} {oc34 kV34 dc34 pm34 cd34 ct34 : Value}
  {f35 : Addr} {od35 an35 : Option Addr} {sl35 : Array (Option Value)} {oc35 kV35 dc35 pm35 cd35 ct35 : Value}
  {f36 : Addr} {od36 an36 : Option Addr} {sl36 : Array (Option Value)} {oc36 kV36 dc36 pm36 cd36 ct36 : Value}
  {f37 : Addr} {od37 an37 : Option Addr} {sl37 : Array (Option Value)} {oc37 kV37 dc37 pm37 cd37 ct37 : Value}
  {f38 : Addr} {od38 an38 : Option Addr} {sl38 : Array (Option Value)} {oc38 kV38 dc38 pm38 cd38 ct38 : Value}
  {f39 : Addr} {od39 an39 : Option Addr} {sl39 : Array (Option Value)} {oc39 kV39 dc39 pm39 cd39 ct39 : Value}
  {f40 : Addr} {od40 an40 : Option Addr} {sl40 : Array (Option Value)} {oc40 kV40 dc40 pm40 cd40 ct40 : Value}
  {f41 : Addr} {od41 an41 : Option Addr} {sl41 : Array (Option Value)} {oc41 kV41 dc41 pm41 cd41 ct41 : Value}
  {f42 : Addr} {od42 an42 : Option Addr} {sl42 : Array (Option Value)} {oc42 kV42 dc42 pm42 cd42 ct42 : Value}
  {f43 : Addr} {od43 an43 : Option Addr} {sl43 : Array (Option Value)} {oc43 kV43 dc43 pm43 cd43 ct43 : Value}
  {f44 : Addr} {od44 an44 : Option Addr} {sl44 : Array (Option Value)} {oc44 kV44 dc44 pm44 ct44 : Value} {q44 P44 : Addr} {cc44 : Value} {cx44 : Option Addr} {cs44 : Array (Option Value)} {vs44 : Array Value}
  {f45 : Addr} {od45 an45 : Option Addr} {sl45 : Array (Option Value)} {oc45 kV45 dc45 pm45 ct45 : Value} {q45 P45 : Addr} {cc45 : Value} {cx45 : Option Addr} {cs45 : Array (Option Value)} {vs45 : Array Value}
  {p_SIZES : Addr} {es_SIZES : Array DictEntry} {n_SIZES : Nat}
  {x_PlayError : Addr}
  {x_InvalidText : Addr}
  {x_InvalidLetter : Addr}
  {x_InvalidOperation : Addr}
  {x_ParseError : Addr}
  {i_ParseError cc_ParseError cd_ParseError : Addr} {od_ParseError an_ParseError cld_ParseError cdd_ParseError : Option Addr} {osl_ParseError csl_ParseError ccs_ParseError : Array (Option Value)} {oc_ParseError kV_ParseError dc_ParseError pm_ParseError ct_ParseError cl_ParseError ccl_ParseError : Value} {vs_ParseError : Array Value} {file_ParseError : Str} {tf_ParseError : Tok}
  {x_InvalidNumber : Addr}
  {i_InvalidNumber cc_InvalidNumber cd_InvalidNumber : Addr} {od_InvalidNumber an_InvalidNumber cld_InvalidNumber cdd_InvalidNumber : Option Addr} {osl_InvalidNumber csl_InvalidNumber ccs_InvalidNumber : Array (Option Value)} {oc_InvalidNumber kV_InvalidNumber dc_InvalidNumber pm_InvalidNumber ct_InvalidNumber cl_InvalidNumber ccl_InvalidNumber : Value} {vs_InvalidNumber : Array Value} {file_InvalidNumber : Str} {tf_InvalidNumber : Tok}
  {t_GREATEST : Tok}
  {t_MOST_TEXT : Tok}
  {t_MOST_LONG : Tok}
  {t_MOST_DEEP : Tok}
  {t_MOST_DIGITS : Tok}
  {t_FIRST_SIGN : Tok}
  {t_LAST_SIGN : Tok}
  {t_DIGITS : Tok}
  {t_HOST : Tok}
  {t_MOST_SEAT : Tok}
  {t_MOST_WORDS : Tok}
  {t_MOST_STRETCH : Tok}
  {t_MOST_PIECES : Tok}
  {t_MOST_PIECE : Tok}
  {t_MOST_KEYS : Tok}
  {t_MOST_PRINT : Tok}
  {t_MOST_ENTRY : Tok}
  {t_MOST_SEATS : Tok}
  {t_ABSENT : Tok}
  {t_KEYS : Tok}
  {t_ROWS : Tok}
  {t_PIECE : Tok}
  {t_WORD : Tok}
  {p_WORDS : Addr} {o_WORDS : Obj} {i_WORDS : Array Value} {n_WORDS : Nat}
  (nsC_Known : PySem.W.nsIn K mainGlobals "Known" = some (some (.ref C_Known)))
  (nsC_Bag : PySem.W.nsIn K mainGlobals "Bag" = some (some (.ref C_Bag)))
  (a0 : PySem.W.nsIn K mainGlobals "is_whole" = some (some (.ref f0))) (l0 : K.lookup f0 = some ⟨oc0, od0, .func (PySem.W.fnOf "is_whole" "is_whole" (defArgs s_is_whole) (defBody s_is_whole) (defScope s_is_whole) .none kV0 dc0 pm0 an0 cd0 ct0), sl0⟩) (c0 : PySem.W.codeIn K cd0 "is_whole" = true) (k0 : PySem.W.keepIn K (.ref f0) = true)
  (a1 : PySem.W.nsIn K mainGlobals "is_short" = some (some (.ref f1))) (l1 : K.lookup f1 = some ⟨oc1, od1, .func (PySem.W.fnOf "is_short" "is_short" (defArgs s_is_short) (defBody s_is_short) (defScope s_is_short) .none kV1 dc1 pm1 an1 cd1 ct1), sl1⟩) (c1 : PySem.W.codeIn K cd1 "is_short" = true) (k1 : PySem.W.keepIn K (.ref f1) = true)
  (a2 : PySem.W.nsIn K mainGlobals "is_from" = some (some (.ref f2))) (l2 : K.lookup f2 = some ⟨oc2, od2, .func (PySem.W.fnOf "is_from" "is_from" (defArgs s_is_from) (defBody s_is_from) (defScope s_is_from) .none kV2 dc2 pm2 an2 cd2 ct2), sl2⟩) (c2 : PySem.W.codeIn K cd2 "is_from" = true) (k2 : PySem.W.keepIn K (.ref f2) = true)
  (a3 : PySem.W.nsIn K mainGlobals "is_tick" = some (some (.ref f3))) (l3 : K.lookup f3 = some ⟨oc3, od3, .func (PySem.W.fnOf "is_tick" "is_tick" (defArgs s_is_tick) (defBody s_is_tick) (defScope s_is_tick) .none kV3 dc3 pm3 an3 cd3 ct3), sl3⟩) (c3 : PySem.W.codeIn K cd3 "is_tick" = true) (k3 : PySem.W.keepIn K (.ref f3) = true)
  (a4 : PySem.W.nsIn K mainGlobals "require_from" = some (some (.ref f4))) (l4 : K.lookup f4 = some ⟨oc4, od4, .func (PySem.W.fnOf "require_from" "require_from" (defArgs s_require_from) (defBody s_require_from) (defScope s_require_from) .none kV4 dc4 pm4 an4 cd4 ct4), sl4⟩) (c4 : PySem.W.codeIn K cd4 "require_from" = true) (k4 : PySem.W.keepIn K (.ref f4) = true)
  (a5 : PySem.W.nsIn K mainGlobals "is_text" = some (some (.ref f5))) (l5 : K.lookup f5 = some ⟨oc5, od5, .func (PySem.W.fnOf "is_text" "is_text" (defArgs s_is_text) (defBody s_is_text) (defScope s_is_text) .none kV5 dc5 pm5 an5 cd5 ct5), sl5⟩) (c5 : PySem.W.codeIn K cd5 "is_text" = true) (k5 : PySem.W.keepIn K (.ref f5) = true)
  (a6 : PySem.W.nsIn K mainGlobals "require_text" = some (some (.ref f6))) (l6 : K.lookup f6 = some ⟨oc6, od6, .func (PySem.W.fnOf "require_text" "require_text" (defArgs s_require_text) (defBody s_require_text) (defScope s_require_text) .none kV6 dc6 pm6 an6 cd6 ct6), sl6⟩) (c6 : PySem.W.codeIn K cd6 "require_text" = true) (k6 : PySem.W.keepIn K (.ref f6) = true)
  (a7 : PySem.W.nsIn K mainGlobals "length_at" = some (some (.ref f7))) (l7 : K.lookup f7 = some ⟨oc7, od7, .func (PySem.W.fnOf "length_at" "length_at" (defArgs s_length_at) (defBody s_length_at) (defScope s_length_at) .none kV7 dc7 pm7 an7 cd7 ct7), sl7⟩) (c7 : PySem.W.codeIn K cd7 "length_at" = true) (k7 : PySem.W.keepIn K (.ref f7) = true)
  (a8 : PySem.W.nsIn K mainGlobals "integer_at" = some (some (.ref f8))) (l8 : K.lookup f8 = some ⟨oc8, od8, .func (PySem.W.fnOf "integer_at" "integer_at" (defArgs s_integer_at) (defBody s_integer_at) (defScope s_integer_at) .none kV8 dc8 pm8 an8 cd8 ct8), sl8⟩) (c8 : PySem.W.codeIn K cd8 "integer_at" = true) (k8 : PySem.W.keepIn K (.ref f8) = true)
  (a9 : PySem.W.nsIn K mainGlobals "string_at" = some (some (.ref f9))) (l9 : K.lookup f9 = some ⟨oc9, od9, .func (PySem.W.fnOf "string_at" "string_at" (defArgs s_string_at) (defBody s_string_at) (defScope s_string_at) .none kV9 dc9 pm9 an9 cd9 ct9), sl9⟩) (c9 : PySem.W.codeIn K cd9 "string_at" = true) (k9 : PySem.W.keepIn K (.ref f9) = true)
  (a10 : PySem.W.nsIn K mainGlobals "leaf_at" = some (some (.ref f10))) (l10 : K.lookup f10 = some ⟨oc10, od10, .func (PySem.W.fnOf "leaf_at" "leaf_at" (defArgs s_leaf_at) (defBody s_leaf_at) (defScope s_leaf_at) .none kV10 dc10 pm10 an10 cd10 ct10), sl10⟩) (c10 : PySem.W.codeIn K cd10 "leaf_at" = true) (k10 : PySem.W.keepIn K (.ref f10) = true)
  (a11 : PySem.W.nsIn K mainGlobals "value_in" = some (some (.ref f11))) (l11 : K.lookup f11 = some ⟨oc11, od11, .func (PySem.W.fnOf "value_in" "value_in" (defArgs s_value_in) (defBody s_value_in) (defScope s_value_in) .none kV11 dc11 pm11 an11 cd11 ct11), sl11⟩) (c11 : PySem.W.codeIn K cd11 "value_in" = true) (k11 : PySem.W.keepIn K (.ref f11) = true)
  (a12 : PySem.W.nsIn K mainGlobals "value_of" = some (some (.ref f12))) (l12 : K.lookup f12 = some ⟨oc12, od12, .func (PySem.W.fnOf "value_of" "value_of" (defArgs s_value_of) (defBody s_value_of) (defScope s_value_of) .none kV12 dc12 pm12 an12 cd12 ct12), sl12⟩) (c12 : PySem.W.codeIn K cd12 "value_of" = true) (k12 : PySem.W.keepIn K (.ref f12) = true)
  (a13 : PySem.W.nsIn K mainGlobals "are_key_words" = some (some (.ref f13))) (l13 : K.lookup f13 = some ⟨oc13, od13, .func (PySem.W.fnOf "are_key_words" "are_key_words" (defArgs s_are_key_words) (defBody s_are_key_words) (defScope s_are_key_words) .none kV13 dc13 pm13 an13 cd13 ct13), sl13⟩) (c13 : PySem.W.codeIn K cd13 "are_key_words" = true) (k13 : PySem.W.keepIn K (.ref f13) = true)
  (a14 : PySem.W.nsIn K mainGlobals "is_joint" = some (some (.ref f14))) (l14 : K.lookup f14 = some ⟨oc14, od14, .func (PySem.W.fnOf "is_joint" "is_joint" (defArgs s_is_joint) (defBody s_is_joint) (defScope s_is_joint) .none kV14 dc14 pm14 an14 cd14 ct14), sl14⟩) (c14 : PySem.W.codeIn K cd14 "is_joint" = true) (k14 : PySem.W.keepIn K (.ref f14) = true)
  (a15 : PySem.W.nsIn K mainGlobals "are_joints" = some (some (.ref f15))) (l15 : K.lookup f15 = some ⟨oc15, od15, .func (PySem.W.fnOf "are_joints" "are_joints" (defArgs s_are_joints) (defBody s_are_joints) (defScope s_are_joints) .none kV15 dc15 pm15 an15 cd15 ct15), sl15⟩) (c15 : PySem.W.codeIn K cd15 "are_joints" = true) (k15 : PySem.W.keepIn K (.ref f15) = true)
  (a16 : PySem.W.nsIn K mainGlobals "is_piece" = some (some (.ref f16))) (l16 : K.lookup f16 = some ⟨oc16, od16, .func (PySem.W.fnOf "is_piece" "is_piece" (defArgs s_is_piece) (defBody s_is_piece) (defScope s_is_piece) .none kV16 dc16 pm16 an16 cd16 ct16), sl16⟩) (c16 : PySem.W.codeIn K cd16 "is_piece" = true) (k16 : PySem.W.keepIn K (.ref f16) = true)
  (a17 : PySem.W.nsIn K mainGlobals "is_right_keys" = some (some (.ref f17))) (l17 : K.lookup f17 = some ⟨oc17, od17, .func (PySem.W.fnOf "is_right_keys" "is_right_keys" (defArgs s_is_right_keys) (defBody s_is_right_keys) (defScope s_is_right_keys) .none kV17 dc17 pm17 an17 cd17 ct17), sl17⟩) (c17 : PySem.W.codeIn K cd17 "is_right_keys" = true) (k17 : PySem.W.keepIn K (.ref f17) = true)
  (a18 : PySem.W.nsIn K mainGlobals "is_right_piece" = some (some (.ref f18))) (l18 : K.lookup f18 = some ⟨oc18, od18, .func (PySem.W.fnOf "is_right_piece" "is_right_piece" (defArgs s_is_right_piece) (defBody s_is_right_piece) (defScope s_is_right_piece) .none kV18 dc18 pm18 an18 cd18 ct18), sl18⟩) (c18 : PySem.W.codeIn K cd18 "is_right_piece" = true) (k18 : PySem.W.keepIn K (.ref f18) = true)
  (a19 : PySem.W.nsIn K mainGlobals "are_right_parts" = some (some (.ref f19))) (l19 : K.lookup f19 = some ⟨oc19, od19, .func (PySem.W.fnOf "are_right_parts" "are_right_parts" (defArgs s_are_right_parts) (defBody s_are_right_parts) (defScope s_are_right_parts) .none kV19 dc19 pm19 an19 cd19 ct19), sl19⟩) (c19 : PySem.W.codeIn K cd19 "are_right_parts" = true) (k19 : PySem.W.keepIn K (.ref f19) = true)
  (a20 : PySem.W.nsIn K mainGlobals "is_letter_in" = some (some (.ref f20))) (l20 : K.lookup f20 = some ⟨oc20, od20, .func (PySem.W.fnOf "is_letter_in" "is_letter_in" (defArgs s_is_letter_in) (defBody s_is_letter_in) (defScope s_is_letter_in) .none kV20 dc20 pm20 an20 cd20 ct20), sl20⟩) (c20 : PySem.W.codeIn K cd20 "is_letter_in" = true) (k20 : PySem.W.keepIn K (.ref f20) = true)
  (a21 : PySem.W.nsIn K mainGlobals "read_in" = some (some (.ref f21))) (l21 : K.lookup f21 = some ⟨oc21, od21, .func (PySem.W.fnOf "read_in" "read_in" (defArgs s_read_in) (defBody s_read_in) (defScope s_read_in) .none kV21 dc21 pm21 an21 cd21 ct21), sl21⟩) (c21 : PySem.W.codeIn K cd21 "read_in" = true) (k21 : PySem.W.keepIn K (.ref f21) = true)
  (a22 : PySem.W.nsIn K mainGlobals "require_letter" = some (some (.ref f22))) (l22 : K.lookup f22 = some ⟨oc22, od22, .func (PySem.W.fnOf "require_letter" "require_letter" (defArgs s_require_letter) (defBody s_require_letter) (defScope s_require_letter) .none kV22 dc22 pm22 an22 cd22 ct22), sl22⟩) (c22 : PySem.W.codeIn K cd22 "require_letter" = true) (k22 : PySem.W.keepIn K (.ref f22) = true)
  (a23 : PySem.W.nsIn K mainGlobals "is_letter" = some (some (.ref f23))) (l23 : K.lookup f23 = some ⟨oc23, od23, .func (PySem.W.fnOf "is_letter" "is_letter" (defArgs s_is_letter) (defBody s_is_letter) (defScope s_is_letter) .none kV23 dc23 pm23 an23 cd23 ct23), sl23⟩) (c23 : PySem.W.codeIn K cd23 "is_letter" = true) (k23 : PySem.W.keepIn K (.ref f23) = true)
  (a24 : PySem.W.nsIn K mainGlobals "goal" = some (some (.ref f24))) (l24 : K.lookup f24 = some ⟨oc24, od24, .func (PySem.W.fnOf "goal" "goal" (defArgs s_goal) (defBody s_goal) (defScope s_goal) .none kV24 dc24 pm24 an24 cd24 ct24), sl24⟩) (c24 : PySem.W.codeIn K cd24 "goal" = true) (k24 : PySem.W.keepIn K (.ref f24) = true)
  (a25 : PySem.W.nsIn K mainGlobals "letter_text" = some (some (.ref f25))) (l25 : K.lookup f25 = some ⟨oc25, od25, .func (PySem.W.fnOf "letter_text" "letter_text" (defArgs s_letter_text) (defBody s_letter_text) (defScope s_letter_text) .none kV25 dc25 pm25 an25 cd25 ct25), sl25⟩) (c25 : PySem.W.codeIn K cd25 "letter_text" = true) (k25 : PySem.W.keepIn K (.ref f25) = true)
  (a26 : PySem.W.nsIn K mainGlobals "read_letter" = some (some (.ref f26))) (l26 : K.lookup f26 = some ⟨oc26, od26, .func (PySem.W.fnOf "read_letter" "read_letter" (defArgs s_read_letter) (defBody s_read_letter) (defScope s_read_letter) .none kV26 dc26 pm26 an26 cd26 ct26), sl26⟩) (c26 : PySem.W.codeIn K cd26 "read_letter" = true) (k26 : PySem.W.keepIn K (.ref f26) = true)
  (a27 : PySem.W.nsIn K mainGlobals "require_letters" = some (some (.ref f27))) (l27 : K.lookup f27 = some ⟨oc27, od27, .func (PySem.W.fnOf "require_letters" "require_letters" (defArgs s_require_letters) (defBody s_require_letters) (defScope s_require_letters) .none kV27 dc27 pm27 an27 cd27 ct27), sl27⟩) (c27 : PySem.W.codeIn K cd27 "require_letters" = true) (k27 : PySem.W.keepIn K (.ref f27) = true)
  (a28 : PySem.W.findIn K (.ref C_Known) "__init__" = some (some (.ref f28))) (i28 : PySem.W.isFn K (.ref f28) = true) (l28 : K.lookup f28 = some ⟨oc28, od28, .func (PySem.W.fnOf "__init__" "Known.__init__" (defArgs s_Known_init) (defBody s_Known_init) (defScope s_Known_init) .none kV28 dc28 pm28 an28 cd28 ct28), sl28⟩) (c28 : PySem.W.codeIn K cd28 "Known.__init__" = true) (k28 : PySem.W.keepIn K (.ref f28) = true)
  (a29 : PySem.W.findIn K (.ref C_Bag) "__init__" = some (some (.ref f29))) (i29 : PySem.W.isFn K (.ref f29) = true) (l29 : K.lookup f29 = some ⟨oc29, od29, .func (PySem.W.fnOf "__init__" "Bag.__init__" (defArgs s_Bag_init) (defBody s_Bag_init) (defScope s_Bag_init) (.ref dT29) kV29 dc29 pm29 an29 cd29 ct29), sl29⟩) (c29 : PySem.W.codeIn K cd29 "Bag.__init__" = true) (k29 : PySem.W.keepIn K (.ref f29) = true) (lT29 : K.lookup dT29 = some oT29) (xT29 : oT29.data = .seq iT29 nT29 ∧ Vals [.ref e29_0] iT29.toList) (ye29_0 : K.lookup e29_0 = some eo29_0) (xe29_0 : eo29_0.cls = .type "tuple" ∧ eo29_0.data = .seq ei29_0 en29_0 ∧ ei29_0.size ≤ sizeLine ∧ Vals [] ei29_0.toList)
  (a30 : PySem.W.findIn K (.ref C_Bag) "letters" = some (some (.ref pp30))) (g30 : PySem.W.specialIn K (.ref pp30) "__get__" = some (some (.builtin "property.__get__"))) (t30 : PySem.W.takesIn K (.ref pp30) = some true) (r30 : PySem.W.recIn K pp30 "property" = some (.ref f30 :: rs30)) (l30 : K.lookup f30 = some ⟨oc30, od30, .func (PySem.W.fnOf "letters" "Bag.letters" (defArgs s_Bag_letters) (defBody s_Bag_letters) (defScope s_Bag_letters) .none kV30 dc30 pm30 an30 cd30 ct30), sl30⟩) (c30 : PySem.W.codeIn K cd30 "Bag.letters" = true) (k30 : PySem.W.keepIn K (.ref f30) = true)
  (a31 : PySem.W.findIn K (.ref C_Bag) "sent" = some (some (.ref f31))) (i31 : PySem.W.isFn K (.ref f31) = true) (l31 : K.lookup f31 = some ⟨oc31, od31, .func (PySem.W.fnOf "sent" "Bag.sent" (defArgs s_Bag_sent) (defBody s_Bag_sent) (defScope s_Bag_sent) .none kV31 dc31 pm31 an31 cd31 ct31), sl31⟩) (c31 : PySem.W.codeIn K cd31 "Bag.sent" = true) (k31 : PySem.W.keepIn K (.ref f31) = true)
  (a32 : PySem.W.findIn K (.ref C_Bag) "sent_all" = some (some (.ref f32))) (i32 : PySem.W.isFn K (.ref f32) = true) (l32 : K.lookup f32 = some ⟨oc32, od32, .func (PySem.W.fnOf "sent_all" "Bag.sent_all" (defArgs s_Bag_sent_all) (defBody s_Bag_sent_all) (defScope s_Bag_sent_all) .none kV32 dc32 pm32 an32 cd32 ct32), sl32⟩) (c32 : PySem.W.codeIn K cd32 "Bag.sent_all" = true) (k32 : PySem.W.keepIn K (.ref f32) = true)
  (a33 : PySem.W.findIn K (.ref C_Bag) "letter" = some (some (.ref f33))) (i33 : PySem.W.isFn K (.ref f33) = true) (l33 : K.lookup f33 = some ⟨oc33, od33, .func (PySem.W.fnOf "letter" "Bag.letter" (defArgs s_Bag_letter) (defBody s_Bag_letter) (defScope s_Bag_letter) .none kV33 dc33 pm33 an33 cd33 ct33), sl33⟩) (c33 : PySem.W.codeIn K cd33 "Bag.letter" = true) (k33 : PySem.W.keepIn K (.ref f33) = true)
  (a34 : PySem.W.findIn K (.ref C_Bag) "to" = some (some (.ref f34))) (i34 : PySem.W.isFn K (.ref f34) = true) (l34 : K.lookup f34 = some ⟨oc34, od34, .func (PySem.W.fnOf "to" "Bag.to" (defArgs s_Bag_to) (defBody s_Bag_to) (defScope s_Bag_to) .none kV34 dc34 pm34 an34 cd34 ct34), sl34⟩) (c34 : PySem.W.codeIn K cd34 "Bag.to" = true) (k34 : PySem.W.keepIn K (.ref f34) = true)
  (a35 : PySem.W.findIn K (.ref C_Bag) "__len__" = some (some (.ref f35))) (i35 : PySem.W.isFn K (.ref f35) = true) (l35 : K.lookup f35 = some ⟨oc35, od35, .func (PySem.W.fnOf "__len__" "Bag.__len__" (defArgs s_Bag_len) (defBody s_Bag_len) (defScope s_Bag_len) .none kV35 dc35 pm35 an35 cd35 ct35), sl35⟩) (c35 : PySem.W.codeIn K cd35 "Bag.__len__" = true) (k35 : PySem.W.keepIn K (.ref f35) = true)
  (a36 : PySem.W.findIn K (.ref C_Bag) "__eq__" = some (some (.ref f36))) (i36 : PySem.W.isFn K (.ref f36) = true) (l36 : K.lookup f36 = some ⟨oc36, od36, .func (PySem.W.fnOf "__eq__" "Bag.__eq__" (defArgs s_Bag_eq) (defBody s_Bag_eq) (defScope s_Bag_eq) .none kV36 dc36 pm36 an36 cd36 ct36), sl36⟩) (c36 : PySem.W.codeIn K cd36 "Bag.__eq__" = true) (k36 : PySem.W.keepIn K (.ref f36) = true)
  (a37 : PySem.W.findIn K (.ref C_Bag) "__str__" = some (some (.ref f37))) (i37 : PySem.W.isFn K (.ref f37) = true) (l37 : K.lookup f37 = some ⟨oc37, od37, .func (PySem.W.fnOf "__str__" "Bag.__str__" (defArgs s_Bag_str) (defBody s_Bag_str) (defScope s_Bag_str) .none kV37 dc37 pm37 an37 cd37 ct37), sl37⟩) (c37 : PySem.W.codeIn K cd37 "Bag.__str__" = true) (k37 : PySem.W.keepIn K (.ref f37) = true)
  (a38 : PySem.W.nsIn K mainGlobals "judged_handing" = some (some (.ref f38))) (l38 : K.lookup f38 = some ⟨oc38, od38, .func (PySem.W.fnOf "judged_handing" "judged_handing" (defArgs s_judged_handing) (defBody s_judged_handing) (defScope s_judged_handing) .none kV38 dc38 pm38 an38 cd38 ct38), sl38⟩) (c38 : PySem.W.codeIn K cd38 "judged_handing" = true) (k38 : PySem.W.keepIn K (.ref f38) = true)
  (a39 : PySem.W.nsIn K mainGlobals "_law_dice" = some (some (.ref f39))) (l39 : K.lookup f39 = some ⟨oc39, od39, .func (PySem.W.fnOf "_law_dice" "_law_dice" (defArgs s_l_dice) (defBody s_l_dice) (defScope s_l_dice) .none kV39 dc39 pm39 an39 cd39 ct39), sl39⟩) (c39 : PySem.W.codeIn K cd39 "_law_dice" = true) (k39 : PySem.W.keepIn K (.ref f39) = true)
  (a40 : PySem.W.nsIn K mainGlobals "_law_roll" = some (some (.ref f40))) (l40 : K.lookup f40 = some ⟨oc40, od40, .func (PySem.W.fnOf "_law_roll" "_law_roll" (defArgs s_l_roll) (defBody s_l_roll) (defScope s_l_roll) .none kV40 dc40 pm40 an40 cd40 ct40), sl40⟩) (c40 : PySem.W.codeIn K cd40 "_law_roll" = true) (k40 : PySem.W.keepIn K (.ref f40) = true)
  (a41 : PySem.W.nsIn K mainGlobals "_law_pick" = some (some (.ref f41))) (l41 : K.lookup f41 = some ⟨oc41, od41, .func (PySem.W.fnOf "_law_pick" "_law_pick" (defArgs s_l_pick) (defBody s_l_pick) (defScope s_l_pick) .none kV41 dc41 pm41 an41 cd41 ct41), sl41⟩) (c41 : PySem.W.codeIn K cd41 "_law_pick" = true) (k41 : PySem.W.keepIn K (.ref f41) = true)
  (a42 : PySem.W.nsIn K mainGlobals "_law_met" = some (some (.ref f42))) (l42 : K.lookup f42 = some ⟨oc42, od42, .func (PySem.W.fnOf "_law_met" "_law_met" (defArgs s_l_met) (defBody s_l_met) (defScope s_l_met) .none kV42 dc42 pm42 an42 cd42 ct42), sl42⟩) (c42 : PySem.W.codeIn K cd42 "_law_met" = true) (k42 : PySem.W.keepIn K (.ref f42) = true)
  (a43 : PySem.W.nsIn K mainGlobals "_law_odd_letters" = some (some (.ref f43))) (l43 : K.lookup f43 = some ⟨oc43, od43, .func (PySem.W.fnOf "_law_odd_letters" "_law_odd_letters" (defArgs s_l_odd_letters) (defBody s_l_odd_letters) (defScope s_l_odd_letters) .none kV43 dc43 pm43 an43 cd43 ct43), sl43⟩) (c43 : PySem.W.codeIn K cd43 "_law_odd_letters" = true) (k43 : PySem.W.keepIn K (.ref f43) = true)
  (a44 : PySem.W.nsIn K mainGlobals "_law_right" = some (some (.ref f44))) (l44 : K.lookup f44 = some ⟨oc44, od44, .func (PySem.W.fnOf "_law_right" "_law_right" (defArgs s_l_right) (defBody s_l_right) (defScope s_l_right) .none kV44 dc44 pm44 an44 (.ref q44) ct44), sl44⟩) (c44 : PySem.W.codeIn K (.ref q44) "_law_right" = true) (k44 : PySem.W.keepIn K (.ref f44) = true) (tb44 : K.lookup q44 = some ⟨cc44, cx44, .fields vs44, cs44⟩) (vt44 : vs44[11]? = some (.ref P44)) (np44 : K.lookup P44 = none)
  (a45 : PySem.W.nsIn K mainGlobals "law" = some (some (.ref f45))) (l45 : K.lookup f45 = some ⟨oc45, od45, .func (PySem.W.fnOf "law" "law" (defArgs s_law) (defBody s_law) (defScope s_law) .none kV45 dc45 pm45 an45 (.ref q45) ct45), sl45⟩) (c45 : PySem.W.codeIn K (.ref q45) "law" = true) (k45 : PySem.W.keepIn K (.ref f45) = true) (tb45 : K.lookup q45 = some ⟨cc45, cx45, .fields vs45, cs45⟩) (vt45 : vs45[11]? = some (.ref P45)) (np45 : K.lookup P45 = none)
  (opq : PySem.W.nsIn K PySem.cStatics "thirdparty.any" = some none)
  (nsup : PySem.W.nsIn K mainGlobals "super" = some none)
  (tps : (l.prog.main.scope.names.lookup ("super" : Str)).isSome = false)
  (z_SIZES : PySem.W.nsIn K mainGlobals "SIZES" = some (some (.ref p_SIZES))) (y_SIZES : K.lookup p_SIZES = some ⟨.type "dict", none, .dict es_SIZES n_SIZES, #[]⟩) (x_SIZES : PySem.W.KeysLit w.params es_SIZES.toList) (lo_SIZES : (p_SIZES == sysModules) = false) (en_SIZES : EntI es_SIZES.toList [("keys", 5), ("rows", 4), ("piece", 6), ("word", 3)])
  (gx_PlayError : PySem.W.nsIn K mainGlobals "PlayError" = some (some (.ref x_PlayError)))
  (kx_PlayError : PySem.W.keepIn K (.ref x_PlayError) = true)
  (bx_PlayError : PySem.W.subIn K (.ref x_PlayError) (.type "BaseException") = some true)
  (tx_PlayError : PySem.W.typeIn K (.ref x_PlayError) = some (.type "type"))
  (ix_PlayError : PySem.W.isClsIn K x_PlayError = true)
  (xc_PlayError : PySem.W.excIn K x_PlayError [.type "ValueError", .type "Exception", .type "BaseException", .type "object"] "ValueError.__new__" = true)
  (gx_InvalidText : PySem.W.nsIn K mainGlobals "InvalidText" = some (some (.ref x_InvalidText)))
  (kx_InvalidText : PySem.W.keepIn K (.ref x_InvalidText) = true)
  (bx_InvalidText : PySem.W.subIn K (.ref x_InvalidText) (.type "BaseException") = some true)
  (tx_InvalidText : PySem.W.typeIn K (.ref x_InvalidText) = some (.type "type"))
  (ix_InvalidText : PySem.W.isClsIn K x_InvalidText = true)
  (xc_InvalidText : PySem.W.excIn K x_InvalidText [.type "ValueError", .type "Exception", .type "BaseException", .type "object"] "ValueError.__new__" = true)
  (gx_InvalidLetter : PySem.W.nsIn K mainGlobals "InvalidLetter" = some (some (.ref x_InvalidLetter)))
  (kx_InvalidLetter : PySem.W.keepIn K (.ref x_InvalidLetter) = true)
  (bx_InvalidLetter : PySem.W.subIn K (.ref x_InvalidLetter) (.type "BaseException") = some true)
  (tx_InvalidLetter : PySem.W.typeIn K (.ref x_InvalidLetter) = some (.type "type"))
  (ix_InvalidLetter : PySem.W.isClsIn K x_InvalidLetter = true)
  (xc_InvalidLetter : PySem.W.excIn K x_InvalidLetter [.type "ValueError", .type "Exception", .type "BaseException", .type "object"] "ValueError.__new__" = true)
  (gx_InvalidOperation : PySem.W.nsIn K mainGlobals "InvalidOperation" = some (some (.ref x_InvalidOperation)))
  (kx_InvalidOperation : PySem.W.keepIn K (.ref x_InvalidOperation) = true)
  (bx_InvalidOperation : PySem.W.subIn K (.ref x_InvalidOperation) (.type "BaseException") = some true)
  (tx_InvalidOperation : PySem.W.typeIn K (.ref x_InvalidOperation) = some (.type "type"))
  (ix_InvalidOperation : PySem.W.isClsIn K x_InvalidOperation = true)
  (xc_InvalidOperation : PySem.W.excIn K x_InvalidOperation [.type "ValueError", .type "Exception", .type "BaseException", .type "object"] "ValueError.__new__" = true)
  (gx_ParseError : PySem.W.nsIn K mainGlobals "ParseError" = some (some (.ref x_ParseError)))
  (kx_ParseError : PySem.W.keepIn K (.ref x_ParseError) = true)
  (bx_ParseError : PySem.W.subIn K (.ref x_ParseError) (.type "BaseException") = some true)
  (tx_ParseError : PySem.W.typeIn K (.ref x_ParseError) = some (.type "type"))
  (ix_ParseError : PySem.W.isClsIn K x_ParseError = true)
  (hB_ParseError : PySem.W.subIn K (.ref x_ParseError) (.type "ValueError") = some true)
  (ei_ParseError : PySem.W.excInitIn K x_ParseError [.type "ValueError", .type "Exception", .type "BaseException", .type "object"] "ValueError.__new__" = true)
  (eo_ParseError : PySem.W.excOver K x_ParseError [.type "ValueError", .type "Exception", .type "BaseException", .type "object"] = true)
  (sa_ParseError : PySem.W.findIn K (.ref x_ParseError) "__setattr__" = some (some (.builtin "object.__setattr__")))
  (no_ParseError : PySem.W.takerIn K x_ParseError "spot" = some none)
  (nf_ParseError : PySem.W.findIn K (.ref x_ParseError) "spot" = some none)
  (ic_ParseError : PySem.W.findIn K (.ref x_ParseError) "__init__" = some (some (.ref i_ParseError)))
  (tc_ParseError : PySem.W.typeIn K (.ref i_ParseError) = some (.type "function"))
  (hd_ParseError : PySem.W.hasDictIn K x_ParseError = true)
  (cm_ParseError : PySem.W.mroIn K x_ParseError (.ref x_ParseError) = some true)
  (su_ParseError : PySem.W.ks_superIn K x_ParseError x_ParseError "__init__" = some (some (.builtin "ValueError.__init__")))
  (ga_ParseError : PySem.W.findIn K (.ref x_ParseError) "__getattribute__" = some (some (.builtin "BaseException.__getattribute__")))
  (gg_ParseError : PySem.W.findIn K (.ref x_ParseError) "__getattr__" = some none)
  (lk_ParseError : K.lookup i_ParseError = some ⟨oc_ParseError, od_ParseError, .func (PySem.W.fnX "__init__" "ParseError.__init__" (defArgs (inClass (topS 5) 0)) (defBody (inClass (topS 5) 0)) (defScope (inClass (topS 5) 0)) [("__class__", cc_ParseError)] .none kV_ParseError dc_ParseError pm_ParseError an_ParseError (.ref cd_ParseError) ct_ParseError), osl_ParseError⟩)
  (co_ParseError : PySem.W.codeIn K (.ref cd_ParseError) "ParseError.__init__" = true)
  (ck_ParseError : K.lookup cc_ParseError = some ⟨cl_ParseError, cld_ParseError, .cell (some (.ref x_ParseError)), csl_ParseError⟩)
  (cj_ParseError : K.lookup cd_ParseError = some ⟨ccl_ParseError, cdd_ParseError, .fields vs_ParseError, ccs_ParseError⟩)
  (vf_ParseError : vs_ParseError[2]? = some (.str file_ParseError tf_ParseError))
  (fm_ParseError : ((l.prog.main.file : Str) == file_ParseError) = true)
  (gx_InvalidNumber : PySem.W.nsIn K mainGlobals "InvalidNumber" = some (some (.ref x_InvalidNumber)))
  (kx_InvalidNumber : PySem.W.keepIn K (.ref x_InvalidNumber) = true)
  (bx_InvalidNumber : PySem.W.subIn K (.ref x_InvalidNumber) (.type "BaseException") = some true)
  (tx_InvalidNumber : PySem.W.typeIn K (.ref x_InvalidNumber) = some (.type "type"))
  (ix_InvalidNumber : PySem.W.isClsIn K x_InvalidNumber = true)
  (hB_InvalidNumber : PySem.W.subIn K (.ref x_InvalidNumber) (.type "IndexError") = some true)
  (ei_InvalidNumber : PySem.W.excInitIn K x_InvalidNumber [.type "IndexError", .type "LookupError", .type "Exception", .type "BaseException", .type "object"] "IndexError.__new__" = true)
  (eo_InvalidNumber : PySem.W.excOver K x_InvalidNumber [.type "IndexError", .type "LookupError", .type "Exception", .type "BaseException", .type "object"] = true)
  (sa_InvalidNumber : PySem.W.findIn K (.ref x_InvalidNumber) "__setattr__" = some (some (.builtin "object.__setattr__")))
  (no_InvalidNumber : PySem.W.takerIn K x_InvalidNumber "given" = some none)
  (nf_InvalidNumber : PySem.W.findIn K (.ref x_InvalidNumber) "given" = some none)
  (ic_InvalidNumber : PySem.W.findIn K (.ref x_InvalidNumber) "__init__" = some (some (.ref i_InvalidNumber)))
  (tc_InvalidNumber : PySem.W.typeIn K (.ref i_InvalidNumber) = some (.type "function"))
  (hd_InvalidNumber : PySem.W.hasDictIn K x_InvalidNumber = true)
  (cm_InvalidNumber : PySem.W.mroIn K x_InvalidNumber (.ref x_InvalidNumber) = some true)
  (su_InvalidNumber : PySem.W.ks_superIn K x_InvalidNumber x_InvalidNumber "__init__" = some (some (.builtin "IndexError.__init__")))
  (ga_InvalidNumber : PySem.W.findIn K (.ref x_InvalidNumber) "__getattribute__" = some (some (.builtin "BaseException.__getattribute__")))
  (gg_InvalidNumber : PySem.W.findIn K (.ref x_InvalidNumber) "__getattr__" = some none)
  (lk_InvalidNumber : K.lookup i_InvalidNumber = some ⟨oc_InvalidNumber, od_InvalidNumber, .func (PySem.W.fnX "__init__" "InvalidNumber.__init__" (defArgs (inClass (topS 6) 0)) (defBody (inClass (topS 6) 0)) (defScope (inClass (topS 6) 0)) [("__class__", cc_InvalidNumber)] .none kV_InvalidNumber dc_InvalidNumber pm_InvalidNumber an_InvalidNumber (.ref cd_InvalidNumber) ct_InvalidNumber), osl_InvalidNumber⟩)
  (co_InvalidNumber : PySem.W.codeIn K (.ref cd_InvalidNumber) "InvalidNumber.__init__" = true)
  (ck_InvalidNumber : K.lookup cc_InvalidNumber = some ⟨cl_InvalidNumber, cld_InvalidNumber, .cell (some (.ref x_InvalidNumber)), csl_InvalidNumber⟩)
  (cj_InvalidNumber : K.lookup cd_InvalidNumber = some ⟨ccl_InvalidNumber, cdd_InvalidNumber, .fields vs_InvalidNumber, ccs_InvalidNumber⟩)
  (vf_InvalidNumber : vs_InvalidNumber[2]? = some (.str file_InvalidNumber tf_InvalidNumber))
  (fm_InvalidNumber : ((l.prog.main.file : Str) == file_InvalidNumber) = true)
  (sx_PlayError_PlayError : PySem.W.subIn K (.ref x_PlayError) (.ref x_PlayError) = some true)
  (sx_PlayError_InvalidText : PySem.W.subIn K (.ref x_PlayError) (.ref x_InvalidText) = some false)
  (sx_PlayError_InvalidLetter : PySem.W.subIn K (.ref x_PlayError) (.ref x_InvalidLetter) = some false)
  (sx_PlayError_InvalidOperation : PySem.W.subIn K (.ref x_PlayError) (.ref x_InvalidOperation) = some false)
  (sx_PlayError_ParseError : PySem.W.subIn K (.ref x_PlayError) (.ref x_ParseError) = some false)
  (sx_PlayError_InvalidNumber : PySem.W.subIn K (.ref x_PlayError) (.ref x_InvalidNumber) = some false)
  (sx_InvalidText_PlayError : PySem.W.subIn K (.ref x_InvalidText) (.ref x_PlayError) = some true)
  (sx_InvalidText_InvalidText : PySem.W.subIn K (.ref x_InvalidText) (.ref x_InvalidText) = some true)
  (sx_InvalidText_InvalidLetter : PySem.W.subIn K (.ref x_InvalidText) (.ref x_InvalidLetter) = some false)
  (sx_InvalidText_InvalidOperation : PySem.W.subIn K (.ref x_InvalidText) (.ref x_InvalidOperation) = some false)
  (sx_InvalidText_ParseError : PySem.W.subIn K (.ref x_InvalidText) (.ref x_ParseError) = some false)
  (sx_InvalidText_InvalidNumber : PySem.W.subIn K (.ref x_InvalidText) (.ref x_InvalidNumber) = some false)
  (sx_InvalidLetter_PlayError : PySem.W.subIn K (.ref x_InvalidLetter) (.ref x_PlayError) = some true)
  (sx_InvalidLetter_InvalidText : PySem.W.subIn K (.ref x_InvalidLetter) (.ref x_InvalidText) = some false)
  (sx_InvalidLetter_InvalidLetter : PySem.W.subIn K (.ref x_InvalidLetter) (.ref x_InvalidLetter) = some true)
  (sx_InvalidLetter_InvalidOperation : PySem.W.subIn K (.ref x_InvalidLetter) (.ref x_InvalidOperation) = some false)
  (sx_InvalidLetter_ParseError : PySem.W.subIn K (.ref x_InvalidLetter) (.ref x_ParseError) = some false)
  (sx_InvalidLetter_InvalidNumber : PySem.W.subIn K (.ref x_InvalidLetter) (.ref x_InvalidNumber) = some false)
  (sx_InvalidOperation_PlayError : PySem.W.subIn K (.ref x_InvalidOperation) (.ref x_PlayError) = some true)
  (sx_InvalidOperation_InvalidText : PySem.W.subIn K (.ref x_InvalidOperation) (.ref x_InvalidText) = some false)
  (sx_InvalidOperation_InvalidLetter : PySem.W.subIn K (.ref x_InvalidOperation) (.ref x_InvalidLetter) = some false)
  (sx_InvalidOperation_InvalidOperation : PySem.W.subIn K (.ref x_InvalidOperation) (.ref x_InvalidOperation) = some true)
  (sx_InvalidOperation_ParseError : PySem.W.subIn K (.ref x_InvalidOperation) (.ref x_ParseError) = some false)
  (sx_InvalidOperation_InvalidNumber : PySem.W.subIn K (.ref x_InvalidOperation) (.ref x_InvalidNumber) = some false)
  (sx_ParseError_PlayError : PySem.W.subIn K (.ref x_ParseError) (.ref x_PlayError) = some true)
  (sx_ParseError_InvalidText : PySem.W.subIn K (.ref x_ParseError) (.ref x_InvalidText) = some false)
  (sx_ParseError_InvalidLetter : PySem.W.subIn K (.ref x_ParseError) (.ref x_InvalidLetter) = some false)
  (sx_ParseError_InvalidOperation : PySem.W.subIn K (.ref x_ParseError) (.ref x_InvalidOperation) = some false)
  (sx_ParseError_ParseError : PySem.W.subIn K (.ref x_ParseError) (.ref x_ParseError) = some true)
  (sx_ParseError_InvalidNumber : PySem.W.subIn K (.ref x_ParseError) (.ref x_InvalidNumber) = some false)
  (sx_InvalidNumber_PlayError : PySem.W.subIn K (.ref x_InvalidNumber) (.ref x_PlayError) = some false)
  (sx_InvalidNumber_InvalidText : PySem.W.subIn K (.ref x_InvalidNumber) (.ref x_InvalidText) = some false)
  (sx_InvalidNumber_InvalidLetter : PySem.W.subIn K (.ref x_InvalidNumber) (.ref x_InvalidLetter) = some false)
  (sx_InvalidNumber_InvalidOperation : PySem.W.subIn K (.ref x_InvalidNumber) (.ref x_InvalidOperation) = some false)
  (sx_InvalidNumber_ParseError : PySem.W.subIn K (.ref x_InvalidNumber) (.ref x_ParseError) = some false)
  (sx_InvalidNumber_InvalidNumber : PySem.W.subIn K (.ref x_InvalidNumber) (.ref x_InvalidNumber) = some true)
  (uTh : ∀ p ∈ ([(P44, (("_law_right" : Str) ++ ".<locals>.") ++ "<lambda>"), (P45, (("law" : Str) ++ ".<locals>.") ++ "<lambda>")] : List (Addr × Str)), ∀ p2 ∈ ([(P44, (("_law_right" : Str) ++ ".<locals>.") ++ "<lambda>"), (P45, (("law" : Str) ++ ".<locals>.") ++ "<lambda>")] : List (Addr × Str)), p.1 = p2.1 → p.2 = p2.2)
  (z_abs : PySem.W.nsIn K mainGlobals "abs" = some none)
  (z_all : PySem.W.nsIn K mainGlobals "all" = some none)
  (z_bool : PySem.W.nsIn K mainGlobals "bool" = some none)
  (z_enumerate : PySem.W.nsIn K mainGlobals "enumerate" = some none)
  (z_int : PySem.W.nsIn K mainGlobals "int" = some none)
  (z_isinstance : PySem.W.nsIn K mainGlobals "isinstance" = some none)
  (z_len : PySem.W.nsIn K mainGlobals "len" = some none)
  (z_max : PySem.W.nsIn K mainGlobals "max" = some none)
  (z_min : PySem.W.nsIn K mainGlobals "min" = some none)
  (z_range : PySem.W.nsIn K mainGlobals "range" = some none)
  (z_repr : PySem.W.nsIn K mainGlobals "repr" = some none)
  (z_sorted : PySem.W.nsIn K mainGlobals "sorted" = some none)
  (z_str : PySem.W.nsIn K mainGlobals "str" = some none)
  (z_tuple : PySem.W.nsIn K mainGlobals "tuple" = some none)
  (z_GREATEST : PySem.W.nsIn K mainGlobals "GREATEST" = some (some (.int (10 ^ 60) t_GREATEST)))
  (z_MOST_TEXT : PySem.W.nsIn K mainGlobals "MOST_TEXT" = some (some (.int 20000 t_MOST_TEXT)))
  (z_MOST_LONG : PySem.W.nsIn K mainGlobals "MOST_LONG" = some (some (.int 2000 t_MOST_LONG)))
  (z_MOST_DEEP : PySem.W.nsIn K mainGlobals "MOST_DEEP" = some (some (.int 200 t_MOST_DEEP)))
  (z_MOST_DIGITS : PySem.W.nsIn K mainGlobals "MOST_DIGITS" = some (some (.int 60 t_MOST_DIGITS)))
  (z_FIRST_SIGN : PySem.W.nsIn K mainGlobals "FIRST_SIGN" = some (some (.str " " t_FIRST_SIGN)))
  (z_LAST_SIGN : PySem.W.nsIn K mainGlobals "LAST_SIGN" = some (some (.str "~" t_LAST_SIGN)))
  (z_DIGITS : PySem.W.nsIn K mainGlobals "DIGITS" = some (some (.str "0123456789" t_DIGITS)))
  (z_HOST : PySem.W.nsIn K mainGlobals "HOST" = some (some (.int (-1) t_HOST)))
  (z_MOST_SEAT : PySem.W.nsIn K mainGlobals "MOST_SEAT" = some (some (.int 5 t_MOST_SEAT)))
  (z_MOST_WORDS : PySem.W.nsIn K mainGlobals "MOST_WORDS" = some (some (.int 20 t_MOST_WORDS)))
  (z_MOST_STRETCH : PySem.W.nsIn K mainGlobals "MOST_STRETCH" = some (some (.int 32 t_MOST_STRETCH)))
  (z_MOST_PIECES : PySem.W.nsIn K mainGlobals "MOST_PIECES" = some (some (.int 100 t_MOST_PIECES)))
  (z_MOST_PIECE : PySem.W.nsIn K mainGlobals "MOST_PIECE" = some (some (.int 200 t_MOST_PIECE)))
  (z_MOST_KEYS : PySem.W.nsIn K mainGlobals "MOST_KEYS" = some (some (.int 63 t_MOST_KEYS)))
  (z_MOST_PRINT : PySem.W.nsIn K mainGlobals "MOST_PRINT" = some (some (.int 999999936 t_MOST_PRINT)))
  (z_MOST_ENTRY : PySem.W.nsIn K mainGlobals "MOST_ENTRY" = some (some (.int 127 t_MOST_ENTRY)))
  (z_MOST_SEATS : PySem.W.nsIn K mainGlobals "MOST_SEATS" = some (some (.int 4 t_MOST_SEATS)))
  (z_ABSENT : PySem.W.nsIn K mainGlobals "ABSENT" = some (some (.int (-1) t_ABSENT)))
  (z_KEYS : PySem.W.nsIn K mainGlobals "KEYS" = some (some (.str "keys" t_KEYS)))
  (z_ROWS : PySem.W.nsIn K mainGlobals "ROWS" = some (some (.str "rows" t_ROWS)))
  (z_PIECE : PySem.W.nsIn K mainGlobals "PIECE" = some (some (.str "piece" t_PIECE)))
  (z_WORD : PySem.W.nsIn K mainGlobals "WORD" = some (some (.str "word" t_WORD)))
  (z_WORDS : PySem.W.nsIn K mainGlobals "WORDS" = some (some (.ref p_WORDS))) (y_WORDS : K.lookup p_WORDS = some o_WORDS) (x_WORDS : o_WORDS.cls = .type "tuple" ∧ o_WORDS.data = .seq i_WORDS n_WORDS ∧ i_WORDS.size ≤ sizeLine ∧ Vals [.str "come", .str "go"] i_WORDS.toList)
  (pg_Known : PySem.W.plainGet K C_Known Str.empty = true)
  (ic_Known : PySem.W.isClsIn K C_Known = true)
  (po_Known : PySem.W.plainOver K C_Known = true)
  (sa_Known : PySem.W.findIn K (.ref C_Known) "__setattr__" = some (some (.builtin "object.__setattr__")))
  (mk_Known : PySem.W.makesIn K C_Known = true)
  (kc_Known : PySem.W.keepIn K (.ref C_Known) = true)
  (ca_Known : PySem.W.findIn K (.ref C_Known) "__class__" = some (some (.builtin "object.__class__")))
  (cn_Known : PySem.W.specialIn K (.builtin "object.__class__") "__get__" = some (some (.builtin "getset_descriptor.__get__")))
  (ct_Known : PySem.W.takesIn K (.builtin "object.__class__") = some true)
  (cm_Known : PySem.W.mroIn K C_Known (.type "object") = some true)
  (ty_Known : PySem.W.typeIn K (.ref C_Known) = some (.type "type"))
  (sat_own_found_Known : PySem.W.findIn K (.ref C_Known) "own_found" = some (some (.ref q_Known_own_found)))
  (sge_own_found_Known : PySem.W.specialIn K (.ref q_Known_own_found) "__get__" = some (some (.builtin "member_descriptor.__get__")))
  (stk_own_found_Known : PySem.W.takesIn K (.ref q_Known_own_found) = some true)
  (sty_own_found_Known : PySem.W.typeIn K (.ref q_Known_own_found) = some (.type "member_descriptor"))
  (six_own_found_Known : PySem.W.slotIn K q_Known_own_found C_Known = some 0)
  (kit_NoneType_Known : PySem.W.subIn K (.type "NoneType") (.ref C_Known) = some false)
  (kit_bool_Known : PySem.W.subIn K (.type "bool") (.ref C_Known) = some false)
  (kit_int_Known : PySem.W.subIn K (.type "int") (.ref C_Known) = some false)
  (kit_str_Known : PySem.W.subIn K (.type "str") (.ref C_Known) = some false)
  (kit_tuple_Known : PySem.W.subIn K (.type "tuple") (.ref C_Known) = some false)
  (kit_list_Known : PySem.W.subIn K (.type "list") (.ref C_Known) = some false)
  (kit_dict_Known : PySem.W.subIn K (.type "dict") (.ref C_Known) = some false)
  (kit_Bag_Known : PySem.W.subIn K (.ref C_Bag) (.ref C_Known) = some false)
  (kt_NoneType_Known : PySem.W.subIn K (.ref C_Known) (.type "NoneType") = some false)
  (kt_bool_Known : PySem.W.subIn K (.ref C_Known) (.type "bool") = some false)
  (kt_int_Known : PySem.W.subIn K (.ref C_Known) (.type "int") = some false)
  (kt_str_Known : PySem.W.subIn K (.ref C_Known) (.type "str") = some false)
  (kt_tuple_Known : PySem.W.subIn K (.ref C_Known) (.type "tuple") = some false)
  (kt_list_Known : PySem.W.subIn K (.ref C_Known) (.type "list") = some false)
  (kt_dict_Known : PySem.W.subIn K (.ref C_Known) (.type "dict") = some false)
  (kn_Bag_Known : ((Value.ref C_Bag) == Value.ref C_Known) = false)
  (pg_Bag : PySem.W.plainGet K C_Bag Str.empty = true)
  (ic_Bag : PySem.W.isClsIn K C_Bag = true)
  (po_Bag : PySem.W.plainOver K C_Bag = true)
  (sa_Bag : PySem.W.findIn K (.ref C_Bag) "__setattr__" = some (some (.builtin "object.__setattr__")))
  (mk_Bag : PySem.W.makesIn K C_Bag = true)
  (kc_Bag : PySem.W.keepIn K (.ref C_Bag) = true)
  (ca_Bag : PySem.W.findIn K (.ref C_Bag) "__class__" = some (some (.builtin "object.__class__")))
  (cn_Bag : PySem.W.specialIn K (.builtin "object.__class__") "__get__" = some (some (.builtin "getset_descriptor.__get__")))
  (ct_Bag : PySem.W.takesIn K (.builtin "object.__class__") = some true)
  (cm_Bag : PySem.W.mroIn K C_Bag (.type "object") = some true)
  (ty_Bag : PySem.W.typeIn K (.ref C_Bag) = some (.type "type"))
  (sat_own_letters_Bag : PySem.W.findIn K (.ref C_Bag) "own_letters" = some (some (.ref q_Bag_own_letters)))
  (sge_own_letters_Bag : PySem.W.specialIn K (.ref q_Bag_own_letters) "__get__" = some (some (.builtin "member_descriptor.__get__")))
  (stk_own_letters_Bag : PySem.W.takesIn K (.ref q_Bag_own_letters) = some true)
  (sty_own_letters_Bag : PySem.W.typeIn K (.ref q_Bag_own_letters) = some (.type "member_descriptor"))
  (six_own_letters_Bag : PySem.W.slotIn K q_Bag_own_letters C_Bag = some 0)
  (kit_NoneType_Bag : PySem.W.subIn K (.type "NoneType") (.ref C_Bag) = some false)
  (kit_bool_Bag : PySem.W.subIn K (.type "bool") (.ref C_Bag) = some false)
  (kit_int_Bag : PySem.W.subIn K (.type "int") (.ref C_Bag) = some false)
  (kit_str_Bag : PySem.W.subIn K (.type "str") (.ref C_Bag) = some false)
  (kit_tuple_Bag : PySem.W.subIn K (.type "tuple") (.ref C_Bag) = some false)
  (kit_list_Bag : PySem.W.subIn K (.type "list") (.ref C_Bag) = some false)
  (kit_dict_Bag : PySem.W.subIn K (.type "dict") (.ref C_Bag) = some false)
  (kit_Known_Bag : PySem.W.subIn K (.ref C_Known) (.ref C_Bag) = some false)
  (kt_NoneType_Bag : PySem.W.subIn K (.ref C_Bag) (.type "NoneType") = some false)
  (kt_bool_Bag : PySem.W.subIn K (.ref C_Bag) (.type "bool") = some false)
  (kt_int_Bag : PySem.W.subIn K (.ref C_Bag) (.type "int") = some false)
  (kt_str_Bag : PySem.W.subIn K (.ref C_Bag) (.type "str") = some false)
  (kt_tuple_Bag : PySem.W.subIn K (.ref C_Bag) (.type "tuple") = some false)
  (kt_list_Bag : PySem.W.subIn K (.ref C_Bag) (.type "list") = some false)
  (kt_dict_Bag : PySem.W.subIn K (.ref C_Bag) (.type "dict") = some false)
  (kn_Known_Bag : ((Value.ref C_Known) == Value.ref C_Bag) = false)
  (nf_NoneType_Bag : PySem.W.notFirst K C_Bag (.type "NoneType") = true)
  (nf_bool_Bag : PySem.W.notFirst K C_Bag (.type "bool") = true)
  (nf_int_Bag : PySem.W.notFirst K C_Bag (.type "int") = true)
  (nf_str_Bag : PySem.W.notFirst K C_Bag (.type "str") = true)
  (nf_tuple_Bag : PySem.W.notFirst K C_Bag (.type "tuple") = true)
  (nf_list_Bag : PySem.W.notFirst K C_Bag (.type "list") = true)
  (nf_dict_Bag : PySem.W.notFirst K C_Bag (.type "dict") = true)
  (nf_Known_Bag : PySem.W.notFirst K C_Bag (.ref C_Known) = true)
  (nf_Bag_Bag : PySem.W.notFirst K C_Bag (.ref C_Bag) = true)
  (ne_Bag : PySem.W.findIn K (.ref C_Bag) "__ne__" = some (some (.builtin "object.__ne__"))) :
  ∃ (fd : FuncData) (ts : List (Str × Addr × Addr)) (sp : Sp), (∀ t ∈ ts, t.1 ∈ (["_law_right", "law"] : List Str) ∧ PySem.W.tabIn K t.1 = some t.2 ∧ K.lookup t.2.2 = none) ∧ (∀ (s : Shared) (v : Value), BindsTo s fd ⟨[v], []⟩ [("_law_script", v)]) ∧ (∀ (H : Hp) (a : Addr) (ns : List Int), ns.length ≤ 63 → (∀ t ∈ ts, H t.2.2 = some (.tbl #[])) → SqL K H a (ns.map V.int) → sp [.ref a] H (fun v _ => v = .bl true) fun _ _ _ => False) ∧ ∀ base : Heap, K.In base → base.Ns mainGlobals mg → (∀ t ∈ ts, LamX.TabB base mg t.2.1 t.2.2) → FnG l.prog w K mg base (L2.CX l.prog w) 13 fa fd ["_law_script"] sp := by
  have e := hfa.symm.trans (PySem.W.mg_of X G a45)
  have e2 : f45 = fa := by cases e; rfl
  subst e2
  let T : Tp l.prog w K mg := {
    C_Known := C_Known, g_Known := PySem.W.mg_of X G nsC_Known, cl_Known := ⟨pg_Known, ic_Known, po_Known, sa_Known⟩, is_Known := ⟨ca_Known, cn_Known, ct_Known, cm_Known⟩, ty_Known := ty_Known, q_Known_own_found := q_Known_own_found, t_Known_own_found := ⟨sat_own_found_Known, sge_own_found_Known, stk_own_found_Known, sty_own_found_Known, six_own_found_Known, by decide⟩, k_Known_NoneType := kit_NoneType_Known, k_Known_bool := kit_bool_Known, k_Known_int := kit_int_Known, k_Known_str := kit_str_Known, k_Known_tuple := kit_tuple_Known, k_Known_list := kit_list_Known, k_Known_dict := kit_dict_Known, k_Known_Bag := kit_Bag_Known, kt_NoneType_Known := kt_NoneType_Known, kt_bool_Known := kt_bool_Known, kt_int_Known := kt_int_Known, kt_str_Known := kt_str_Known, kt_tuple_Known := kt_tuple_Known, kt_list_Known := kt_list_Known, kt_dict_Known := kt_dict_Known, kn_Bag_Known := kn_Bag_Known,
    C_Bag := C_Bag, g_Bag := PySem.W.mg_of X G nsC_Bag, cl_Bag := ⟨pg_Bag, ic_Bag, po_Bag, sa_Bag⟩, is_Bag := ⟨ca_Bag, cn_Bag, ct_Bag, cm_Bag⟩, ty_Bag := ty_Bag, q_Bag_own_letters := q_Bag_own_letters, t_Bag_own_letters := ⟨sat_own_letters_Bag, sge_own_letters_Bag, stk_own_letters_Bag, sty_own_letters_Bag, six_own_letters_Bag, by decide⟩, k_Bag_NoneType := kit_NoneType_Bag, k_Bag_bool := kit_bool_Bag, k_Bag_int := kit_int_Bag, k_Bag_str := kit_str_Bag, k_Bag_tuple := kit_tuple_Bag, k_Bag_list := kit_list_Bag, k_Bag_dict := kit_dict_Bag, k_Bag_Known := kit_Known_Bag, kt_NoneType_Bag := kt_NoneType_Bag, kt_bool_Bag := kt_bool_Bag, kt_int_Bag := kt_int_Bag, kt_str_Bag := kt_str_Bag, kt_tuple_Bag := kt_tuple_Bag, kt_list_Bag := kt_list_Bag, kt_dict_Bag := kt_dict_Bag, kn_Known_Bag := kn_Known_Bag, nf_NoneType_Bag := nf_NoneType_Bag, nf_bool_Bag := nf_bool_Bag, nf_int_Bag := nf_int_Bag, nf_str_Bag := nf_str_Bag, nf_tuple_Bag := nf_tuple_Bag, nf_list_Bag := nf_list_Bag, nf_dict_Bag := nf_dict_Bag, nf_Known_Bag := nf_Known_Bag, nf_Bag_Bag := nf_Bag_Bag, ne_Bag := ne_Bag,
    a_is_whole := f0, d_is_whole := _, F_is_whole := fun_mk (st := s_is_whole) l0 c0 k0, g_is_whole := PySem.W.mg_of X G a0, b_is_whole := (fun_mk (st := s_is_whole) l0 c0 k0).binds fun _ _ _ _ _ _ us hl => match us, hl with | [_], _ => rfl,
    a_is_short := f1, d_is_short := _, F_is_short := fun_mk (st := s_is_short) l1 c1 k1, g_is_short := PySem.W.mg_of X G a1, b_is_short := (fun_mk (st := s_is_short) l1 c1 k1).binds fun _ _ _ _ _ _ us hl => match us, hl with | [_], _ => rfl,
    a_is_from := f2, d_is_from := _, F_is_from := fun_mk (st := s_is_from) l2 c2 k2, g_is_from := PySem.W.mg_of X G a2, b_is_from := (fun_mk (st := s_is_from) l2 c2 k2).binds fun _ _ _ _ _ _ us hl => match us, hl with | [_, _, _], _ => rfl,
    a_is_tick := f3, d_is_tick := _, F_is_tick := fun_mk (st := s_is_tick) l3 c3 k3, g_is_tick := PySem.W.mg_of X G a3, b_is_tick := (fun_mk (st := s_is_tick) l3 c3 k3).binds fun _ _ _ _ _ _ us hl => match us, hl with | [_], _ => rfl,
    a_require_from := f4, d_require_from := _, F_require_from := fun_mk (st := s_require_from) l4 c4 k4, g_require_from := PySem.W.mg_of X G a4, b_require_from := (fun_mk (st := s_require_from) l4 c4 k4).binds fun _ _ _ _ _ _ us hl => match us, hl with | [_, _, _], _ => rfl,
    a_is_text := f5, d_is_text := _, F_is_text := fun_mk (st := s_is_text) l5 c5 k5, g_is_text := PySem.W.mg_of X G a5, b_is_text := (fun_mk (st := s_is_text) l5 c5 k5).binds fun _ _ _ _ _ _ us hl => match us, hl with | [_, _], _ => rfl,
    a_require_text := f6, d_require_text := _, F_require_text := fun_mk (st := s_require_text) l6 c6 k6, g_require_text := PySem.W.mg_of X G a6, b_require_text := (fun_mk (st := s_require_text) l6 c6 k6).binds fun _ _ _ _ _ _ us hl => match us, hl with | [_], _ => rfl,
    a_length_at := f7, d_length_at := _, F_length_at := fun_mk (st := s_length_at) l7 c7 k7, g_length_at := PySem.W.mg_of X G a7, b_length_at := (fun_mk (st := s_length_at) l7 c7 k7).binds fun _ _ _ _ _ _ us hl => match us, hl with | [_, _, _], _ => rfl,
    a_integer_at := f8, d_integer_at := _, F_integer_at := fun_mk (st := s_integer_at) l8 c8 k8, g_integer_at := PySem.W.mg_of X G a8, b_integer_at := (fun_mk (st := s_integer_at) l8 c8 k8).binds fun _ _ _ _ _ _ us hl => match us, hl with | [_, _], _ => rfl,
    a_string_at := f9, d_string_at := _, F_string_at := fun_mk (st := s_string_at) l9 c9 k9, g_string_at := PySem.W.mg_of X G a9, b_string_at := (fun_mk (st := s_string_at) l9 c9 k9).binds fun _ _ _ _ _ _ us hl => match us, hl with | [_, _], _ => rfl,
    a_leaf_at := f10, d_leaf_at := _, F_leaf_at := fun_mk (st := s_leaf_at) l10 c10 k10, g_leaf_at := PySem.W.mg_of X G a10, b_leaf_at := (fun_mk (st := s_leaf_at) l10 c10 k10).binds fun _ _ _ _ _ _ us hl => match us, hl with | [_, _], _ => rfl,
    a_value_in := f11, d_value_in := _, F_value_in := fun_mk (st := s_value_in) l11 c11 k11, g_value_in := PySem.W.mg_of X G a11, b_value_in := (fun_mk (st := s_value_in) l11 c11 k11).binds fun _ _ _ _ _ _ us hl => match us, hl with | [_], _ => rfl,
    a_value_of := f12, d_value_of := _, F_value_of := fun_mk (st := s_value_of) l12 c12 k12, g_value_of := PySem.W.mg_of X G a12, b_value_of := (fun_mk (st := s_value_of) l12 c12 k12).binds fun _ _ _ _ _ _ us hl => match us, hl with | [_], _ => rfl,
    a_are_key_words := f13, d_are_key_words := _, F_are_key_words := fun_mk (st := s_are_key_words) l13 c13 k13, g_are_key_words := PySem.W.mg_of X G a13, b_are_key_words := (fun_mk (st := s_are_key_words) l13 c13 k13).binds fun _ _ _ _ _ _ us hl => match us, hl with | [_], _ => rfl,
    a_is_joint := f14, d_is_joint := _, F_is_joint := fun_mk (st := s_is_joint) l14 c14 k14, g_is_joint := PySem.W.mg_of X G a14, b_is_joint := (fun_mk (st := s_is_joint) l14 c14 k14).binds fun _ _ _ _ _ _ us hl => match us, hl with | [_, _], _ => rfl,
    a_are_joints := f15, d_are_joints := _, F_are_joints := fun_mk (st := s_are_joints) l15 c15 k15, g_are_joints := PySem.W.mg_of X G a15, b_are_joints := (fun_mk (st := s_are_joints) l15 c15 k15).binds fun _ _ _ _ _ _ us hl => match us, hl with | [_], _ => rfl,
    a_is_piece := f16, d_is_piece := _, F_is_piece := fun_mk (st := s_is_piece) l16 c16 k16, g_is_piece := PySem.W.mg_of X G a16, b_is_piece := (fun_mk (st := s_is_piece) l16 c16 k16).binds fun _ _ _ _ _ _ us hl => match us, hl with | [_], _ => rfl,
    a_is_right_keys := f17, d_is_right_keys := _, F_is_right_keys := fun_mk (st := s_is_right_keys) l17 c17 k17, g_is_right_keys := PySem.W.mg_of X G a17, b_is_right_keys := (fun_mk (st := s_is_right_keys) l17 c17 k17).binds fun _ _ _ _ _ _ us hl => match us, hl with | [_], _ => rfl,
    a_is_right_piece := f18, d_is_right_piece := _, F_is_right_piece := fun_mk (st := s_is_right_piece) l18 c18 k18, g_is_right_piece := PySem.W.mg_of X G a18, b_is_right_piece := (fun_mk (st := s_is_right_piece) l18 c18 k18).binds fun _ _ _ _ _ _ us hl => match us, hl with | [_], _ => rfl,
    a_are_right_parts := f19, d_are_right_parts := _, F_are_right_parts := fun_mk (st := s_are_right_parts) l19 c19 k19, g_are_right_parts := PySem.W.mg_of X G a19, b_are_right_parts := (fun_mk (st := s_are_right_parts) l19 c19 k19).binds fun _ _ _ _ _ _ us hl => match us, hl with | [_], _ => rfl,
    a_is_letter_in := f20, d_is_letter_in := _, F_is_letter_in := fun_mk (st := s_is_letter_in) l20 c20 k20, g_is_letter_in := PySem.W.mg_of X G a20, b_is_letter_in := (fun_mk (st := s_is_letter_in) l20 c20 k20).binds fun _ _ _ _ _ _ us hl => match us, hl with | [_], _ => rfl,
    a_read_in := f21, d_read_in := _, F_read_in := fun_mk (st := s_read_in) l21 c21 k21, g_read_in := PySem.W.mg_of X G a21, b_read_in := (fun_mk (st := s_read_in) l21 c21 k21).binds fun _ _ _ _ _ _ us hl => match us, hl with | [_], _ => rfl,
    a_require_letter := f22, d_require_letter := _, F_require_letter := fun_mk (st := s_require_letter) l22 c22 k22, g_require_letter := PySem.W.mg_of X G a22, b_require_letter := (fun_mk (st := s_require_letter) l22 c22 k22).binds fun _ _ _ _ _ _ us hl => match us, hl with | [_], _ => rfl,
    a_is_letter := f23, d_is_letter := _, F_is_letter := fun_mk (st := s_is_letter) l23 c23 k23, g_is_letter := PySem.W.mg_of X G a23, b_is_letter := (fun_mk (st := s_is_letter) l23 c23 k23).binds fun _ _ _ _ _ _ us hl => match us, hl with | [_], _ => rfl,
    a_goal := f24, d_goal := _, F_goal := fun_mk (st := s_goal) l24 c24 k24, g_goal := PySem.W.mg_of X G a24, b_goal := (fun_mk (st := s_goal) l24 c24 k24).binds fun _ _ _ _ _ _ us hl => match us, hl with | [_], _ => rfl,
    a_letter_text := f25, d_letter_text := _, F_letter_text := fun_mk (st := s_letter_text) l25 c25 k25, g_letter_text := PySem.W.mg_of X G a25, b_letter_text := (fun_mk (st := s_letter_text) l25 c25 k25).binds fun _ _ _ _ _ _ us hl => match us, hl with | [_], _ => rfl,
    a_read_letter := f26, d_read_letter := _, F_read_letter := fun_mk (st := s_read_letter) l26 c26 k26, g_read_letter := PySem.W.mg_of X G a26, b_read_letter := (fun_mk (st := s_read_letter) l26 c26 k26).binds fun _ _ _ _ _ _ us hl => match us, hl with | [_], _ => rfl,
    a_require_letters := f27, d_require_letters := _, F_require_letters := fun_mk (st := s_require_letters) l27 c27 k27, g_require_letters := PySem.W.mg_of X G a27, b_require_letters := (fun_mk (st := s_require_letters) l27 c27 k27).binds fun _ _ _ _ _ _ us hl => match us, hl with | [_], _ => rfl,
    a_Known_init := f28, d_Known_init := _, F_Known_init := fun_mk (st := s_Known_init) l28 c28 k28, m_Known_init := ⟨a28, i28, k28⟩, b_Known_init := (fun_mk (st := s_Known_init) l28 c28 k28).binds fun _ _ _ _ _ _ us hl => match us, hl with | [_, _], _ => rfl,
    mk_Known := ⟨mk_Known, a28, i28, kc_Known⟩,
    a_Bag_init := f29, d_Bag_init := _, F_Bag_init := (⟨⟨_, _, _, _, _, _, _, _, _, _, rfl, l29, c29, .inr ⟨by simp, _, _, _, _, rfl, lT29, xT29.1, xT29.2⟩, .inl rfl⟩, k29⟩ : FunD K "__init__" "Bag.__init__" (defArgs s_Bag_init) (defBody s_Bag_init) (defScope s_Bag_init) [.ref e29_0] [] f29 _), m_Bag_init := ⟨a29, i29, k29⟩, b_Bag_init := (by obtain ⟨ds, h1, h2⟩ := (⟨⟨_, _, _, _, _, _, _, _, _, _, rfl, l29, c29, .inr ⟨by simp, _, _, _, _, rfl, lT29, xT29.1, xT29.2⟩, .inl rfl⟩, k29⟩ : FunD K "__init__" "Bag.__init__" (defArgs s_Bag_init) (defBody s_Bag_init) (defScope s_Bag_init) [.ref e29_0] [] f29 _).binds1 (ps := ["self", "letters"]) 2 1 (by simp) rfl (fun _ _ _ _ _ _ _ us its hl hi => match us, its, hl, hi with | [_, _], [_], _, _ => ⟨_, rfl, rfl⟩); cases h1; exact h2), bd_Bag_init := ((⟨⟨_, _, _, _, _, _, _, _, _, _, rfl, l29, c29, .inr ⟨by simp, _, _, _, _, rfl, lT29, xT29.1, xT29.2⟩, .inl rfl⟩, k29⟩ : FunD K "__init__" "Bag.__init__" (defArgs s_Bag_init) (defBody s_Bag_init) (defScope s_Bag_init) [.ref e29_0] [] f29 _).binds1 (ps := ["self", "letters"]) 1 0 (by simp) rfl (fun _ _ _ _ _ _ _ us its hl hi => match us, its, hl, hi with | [_], [_], _, _ => ⟨_, rfl, rfl⟩)), e0_Bag_init := e29_0, se0_Bag_init := fun _ => .inr ⟨eo29_0, ei29_0, en29_0, ye29_0, xe29_0.1, xe29_0.2.1, xe29_0.2.2.1, xe29_0.2.2.2⟩,
    mk_Bag := ⟨mk_Bag, a29, i29, kc_Bag⟩,
    a_Bag_letters := f30, d_Bag_letters := _, F_Bag_letters := fun_mk (st := s_Bag_letters) l30 c30 k30, pa_Bag_letters := pp30, p_Bag_letters := ⟨a30, g30, t30, rs30, r30⟩, b_Bag_letters := (fun_mk (st := s_Bag_letters) l30 c30 k30).binds fun _ _ _ _ _ _ us hl => match us, hl with | [_], _ => rfl,
    a_Bag_sent := f31, d_Bag_sent := _, F_Bag_sent := fun_mk (st := s_Bag_sent) l31 c31 k31, m_Bag_sent := ⟨a31, i31, k31⟩, b_Bag_sent := (fun_mk (st := s_Bag_sent) l31 c31 k31).binds fun _ _ _ _ _ _ us hl => match us, hl with | [_, _], _ => rfl,
    a_Bag_sent_all := f32, d_Bag_sent_all := _, F_Bag_sent_all := fun_mk (st := s_Bag_sent_all) l32 c32 k32, m_Bag_sent_all := ⟨a32, i32, k32⟩, b_Bag_sent_all := (fun_mk (st := s_Bag_sent_all) l32 c32 k32).binds fun _ _ _ _ _ _ us hl => match us, hl with | [_, _], _ => rfl,
    a_Bag_letter := f33, d_Bag_letter := _, F_Bag_letter := fun_mk (st := s_Bag_letter) l33 c33 k33, m_Bag_letter := ⟨a33, i33, k33⟩, b_Bag_letter := (fun_mk (st := s_Bag_letter) l33 c33 k33).binds fun _ _ _ _ _ _ us hl => match us, hl with | [_, _], _ => rfl,
    a_Bag_to := f34, d_Bag_to := _, F_Bag_to := fun_mk (st := s_Bag_to) l34 c34 k34, m_Bag_to := ⟨a34, i34, k34⟩, b_Bag_to := (fun_mk (st := s_Bag_to) l34 c34 k34).binds fun _ _ _ _ _ _ us hl => match us, hl with | [_, _], _ => rfl,
    a_Bag_len := f35, d_Bag_len := _, F_Bag_len := fun_mk (st := s_Bag_len) l35 c35 k35, m_Bag_len := ⟨a35, i35, k35⟩, b_Bag_len := (fun_mk (st := s_Bag_len) l35 c35 k35).binds fun _ _ _ _ _ _ us hl => match us, hl with | [_], _ => rfl,
    a_Bag_eq := f36, d_Bag_eq := _, F_Bag_eq := fun_mk (st := s_Bag_eq) l36 c36 k36, m_Bag_eq := ⟨a36, i36, k36⟩, b_Bag_eq := (fun_mk (st := s_Bag_eq) l36 c36 k36).binds fun _ _ _ _ _ _ us hl => match us, hl with | [_, _], _ => rfl,
    a_Bag_str := f37, d_Bag_str := _, F_Bag_str := fun_mk (st := s_Bag_str) l37 c37 k37, m_Bag_str := ⟨a37, i37, k37⟩, b_Bag_str := (fun_mk (st := s_Bag_str) l37 c37 k37).binds fun _ _ _ _ _ _ us hl => match us, hl with | [_], _ => rfl,
    a_judged_handing := f38, d_judged_handing := _, F_judged_handing := fun_mk (st := s_judged_handing) l38 c38 k38, g_judged_handing := PySem.W.mg_of X G a38, b_judged_handing := (fun_mk (st := s_judged_handing) l38 c38 k38).binds fun _ _ _ _ _ _ us hl => match us, hl with | [_, _], _ => rfl,
    a_l_dice := f39, d_l_dice := _, F_l_dice := fun_mk (st := s_l_dice) l39 c39 k39, g_l_dice := PySem.W.mg_of X G a39, b_l_dice := (fun_mk (st := s_l_dice) l39 c39 k39).binds fun _ _ _ _ _ _ us hl => match us, hl with | [_, _], _ => rfl,
    a_l_roll := f40, d_l_roll := _, F_l_roll := fun_mk (st := s_l_roll) l40 c40 k40, g_l_roll := PySem.W.mg_of X G a40, b_l_roll := (fun_mk (st := s_l_roll) l40 c40 k40).binds fun _ _ _ _ _ _ us hl => match us, hl with | [_, _], _ => rfl,
    a_l_pick := f41, d_l_pick := _, F_l_pick := fun_mk (st := s_l_pick) l41 c41 k41, g_l_pick := PySem.W.mg_of X G a41, b_l_pick := (fun_mk (st := s_l_pick) l41 c41 k41).binds fun _ _ _ _ _ _ us hl => match us, hl with | [_, _], _ => rfl,
    a_l_met := f42, d_l_met := _, F_l_met := fun_mk (st := s_l_met) l42 c42 k42, cv_l_met := cd42, FC_l_met := func_mk (st := s_l_met) l42 c42, g_l_met := PySem.W.mg_of X G a42, b_l_met := (fun_mk (st := s_l_met) l42 c42 k42).binds fun _ _ _ _ _ _ us hl => match us, hl with | [_], _ => rfl,
    a_l_odd_letters := f43, d_l_odd_letters := _, F_l_odd_letters := fun_mk (st := s_l_odd_letters) l43 c43 k43, g_l_odd_letters := PySem.W.mg_of X G a43, b_l_odd_letters := (fun_mk (st := s_l_odd_letters) l43 c43 k43).binds fun _ _ _ _ _ _ us hl => match us, hl with | [], _ => rfl,
    a_l_right := f44, d_l_right := _, F_l_right := fun_mk (st := s_l_right) l44 c44 k44, q_l_right := q44, P_l_right := P44, FC_l_right := func_mk (st := s_l_right) l44 c44, g_l_right := PySem.W.mg_of X G a44, b_l_right := (fun_mk (st := s_l_right) l44 c44 k44).binds fun _ _ _ _ _ _ us hl => match us, hl with | [_], _ => rfl,
    a_law := f45, d_law := _, F_law := fun_mk (st := s_law) l45 c45 k45, q_law := q45, P_law := P45, FC_law := func_mk (st := s_law) l45 c45, g_law := PySem.W.mg_of X G a45, b_law := (fun_mk (st := s_law) l45 c45 k45).binds fun _ _ _ _ _ _ us hl => match us, hl with | [_], _ => rfl,
    p_SIZES := p_SIZES, c_SIZES := PySem.W.mg_of X G z_SIZES, kd_SIZES := ⟨_, _, ⟨y_SIZES, x_SIZES, lo_SIZES⟩, en_SIZES⟩,
    x_PlayError := x_PlayError, gx_PlayError := PySem.W.mg_of X G gx_PlayError, kx_PlayError := kx_PlayError, bx_PlayError := bx_PlayError, tx_PlayError := tx_PlayError, xc_PlayError := xc_PlayError,
    x_InvalidText := x_InvalidText, gx_InvalidText := PySem.W.mg_of X G gx_InvalidText, kx_InvalidText := kx_InvalidText, bx_InvalidText := bx_InvalidText, tx_InvalidText := tx_InvalidText, xc_InvalidText := xc_InvalidText,
    x_InvalidLetter := x_InvalidLetter, gx_InvalidLetter := PySem.W.mg_of X G gx_InvalidLetter, kx_InvalidLetter := kx_InvalidLetter, bx_InvalidLetter := bx_InvalidLetter, tx_InvalidLetter := tx_InvalidLetter, xc_InvalidLetter := xc_InvalidLetter,
    x_InvalidOperation := x_InvalidOperation, gx_InvalidOperation := PySem.W.mg_of X G gx_InvalidOperation, kx_InvalidOperation := kx_InvalidOperation, bx_InvalidOperation := bx_InvalidOperation, tx_InvalidOperation := tx_InvalidOperation, xc_InvalidOperation := xc_InvalidOperation,
    x_ParseError := x_ParseError, gx_ParseError := PySem.W.mg_of X G gx_ParseError, kx_ParseError := kx_ParseError, bx_ParseError := bx_ParseError, tx_ParseError := tx_ParseError, i_ParseError := i_ParseError, xf_ParseError := ⟨ga_ParseError, gg_ParseError, bx_ParseError, hd_ParseError⟩, nf_ParseError := nf_ParseError, es_ParseError := ⟨PySem.F.excBase_ValueError, PySem.F.store_ValueError, PySem.W.kxs_ValueError, hB_ParseError, ei_ParseError, eo_ParseError, sa_ParseError, no_ParseError, ic_ParseError, tc_ParseError, hd_ParseError, cm_ParseError, su_ParseError, opq, nsup, tps, ⟨_, _, _, "spot", _, _, _, _, _, _, _, _, _, _, _, _, _, _, _, _, _, _, _, _, _, _, ⟨⟨_, _, rfl⟩, ⟨_, _, _, _, _, _, _, _, _, _, _, rfl, rfl⟩, rfl, rfl, rfl, by decide +kernel, rfl, rfl, rfl, rfl, by decide, by decide⟩, lk_ParseError, co_ParseError, ck_ParseError, cj_ParseError, vf_ParseError, fm_ParseError, tps, fun us hl s => match us, hl with | [_, _], _ => .of_eq rfl⟩⟩,
    x_InvalidNumber := x_InvalidNumber, gx_InvalidNumber := PySem.W.mg_of X G gx_InvalidNumber, kx_InvalidNumber := kx_InvalidNumber, bx_InvalidNumber := bx_InvalidNumber, tx_InvalidNumber := tx_InvalidNumber, i_InvalidNumber := i_InvalidNumber, xf_InvalidNumber := ⟨ga_InvalidNumber, gg_InvalidNumber, bx_InvalidNumber, hd_InvalidNumber⟩, nf_InvalidNumber := nf_InvalidNumber, es_InvalidNumber := ⟨PySem.F.excBase_IndexError, PySem.F.store_IndexError, PySem.W.kxs_IndexError, hB_InvalidNumber, ei_InvalidNumber, eo_InvalidNumber, sa_InvalidNumber, no_InvalidNumber, ic_InvalidNumber, tc_InvalidNumber, hd_InvalidNumber, cm_InvalidNumber, su_InvalidNumber, opq, nsup, tps, ⟨_, _, _, "given", _, _, _, _, _, _, _, _, _, _, _, _, _, _, _, _, _, _, _, _, _, _, ⟨⟨_, _, rfl⟩, ⟨_, _, _, _, _, _, _, _, _, _, _, rfl, rfl⟩, rfl, rfl, rfl, by decide +kernel, rfl, rfl, rfl, rfl, by decide, by decide⟩, lk_InvalidNumber, co_InvalidNumber, ck_InvalidNumber, cj_InvalidNumber, vf_InvalidNumber, fm_InvalidNumber, tps, fun us hl s => match us, hl with | [_, _], _ => .of_eq rfl⟩⟩,
    ex_PlayError_PlayError := exm_of bx_PlayError ix_PlayError tx_PlayError sx_PlayError_PlayError,
    ex_PlayError_InvalidText := exm_of bx_InvalidText ix_InvalidText tx_InvalidText sx_PlayError_InvalidText,
    ex_PlayError_InvalidLetter := exm_of bx_InvalidLetter ix_InvalidLetter tx_InvalidLetter sx_PlayError_InvalidLetter,
    ex_PlayError_InvalidOperation := exm_of bx_InvalidOperation ix_InvalidOperation tx_InvalidOperation sx_PlayError_InvalidOperation,
    ex_PlayError_ParseError := exm_of bx_ParseError ix_ParseError tx_ParseError sx_PlayError_ParseError,
    ex_PlayError_InvalidNumber := exm_of bx_InvalidNumber ix_InvalidNumber tx_InvalidNumber sx_PlayError_InvalidNumber,
    ex_InvalidText_PlayError := exm_of bx_PlayError ix_PlayError tx_PlayError sx_InvalidText_PlayError,
    ex_InvalidText_InvalidText := exm_of bx_InvalidText ix_InvalidText tx_InvalidText sx_InvalidText_InvalidText,
    ex_InvalidText_InvalidLetter := exm_of bx_InvalidLetter ix_InvalidLetter tx_InvalidLetter sx_InvalidText_InvalidLetter,
    ex_InvalidText_InvalidOperation := exm_of bx_InvalidOperation ix_InvalidOperation tx_InvalidOperation sx_InvalidText_InvalidOperation,
    ex_InvalidText_ParseError := exm_of bx_ParseError ix_ParseError tx_ParseError sx_InvalidText_ParseError,
    ex_InvalidText_InvalidNumber := exm_of bx_InvalidNumber ix_InvalidNumber tx_InvalidNumber sx_InvalidText_InvalidNumber,
    ex_InvalidLetter_PlayError := exm_of bx_PlayError ix_PlayError tx_PlayError sx_InvalidLetter_PlayError,
    ex_InvalidLetter_InvalidText := exm_of bx_InvalidText ix_InvalidText tx_InvalidText sx_InvalidLetter_InvalidText,
    ex_InvalidLetter_InvalidLetter := exm_of bx_InvalidLetter ix_InvalidLetter tx_InvalidLetter sx_InvalidLetter_InvalidLetter,
    ex_InvalidLetter_InvalidOperation := exm_of bx_InvalidOperation ix_InvalidOperation tx_InvalidOperation sx_InvalidLetter_InvalidOperation,
    ex_InvalidLetter_ParseError := exm_of bx_ParseError ix_ParseError tx_ParseError sx_InvalidLetter_ParseError,
    ex_InvalidLetter_InvalidNumber := exm_of bx_InvalidNumber ix_InvalidNumber tx_InvalidNumber sx_InvalidLetter_InvalidNumber,
    ex_InvalidOperation_PlayError := exm_of bx_PlayError ix_PlayError tx_PlayError sx_InvalidOperation_PlayError,
    ex_InvalidOperation_InvalidText := exm_of bx_InvalidText ix_InvalidText tx_InvalidText sx_InvalidOperation_InvalidText,
    ex_InvalidOperation_InvalidLetter := exm_of bx_InvalidLetter ix_InvalidLetter tx_InvalidLetter sx_InvalidOperation_InvalidLetter,
    ex_InvalidOperation_InvalidOperation := exm_of bx_InvalidOperation ix_InvalidOperation tx_InvalidOperation sx_InvalidOperation_InvalidOperation,
    ex_InvalidOperation_ParseError := exm_of bx_ParseError ix_ParseError tx_ParseError sx_InvalidOperation_ParseError,
    ex_InvalidOperation_InvalidNumber := exm_of bx_InvalidNumber ix_InvalidNumber tx_InvalidNumber sx_InvalidOperation_InvalidNumber,
    ex_ParseError_PlayError := exm_of bx_PlayError ix_PlayError tx_PlayError sx_ParseError_PlayError,
    ex_ParseError_InvalidText := exm_of bx_InvalidText ix_InvalidText tx_InvalidText sx_ParseError_InvalidText,
    ex_ParseError_InvalidLetter := exm_of bx_InvalidLetter ix_InvalidLetter tx_InvalidLetter sx_ParseError_InvalidLetter,
    ex_ParseError_InvalidOperation := exm_of bx_InvalidOperation ix_InvalidOperation tx_InvalidOperation sx_ParseError_InvalidOperation,
    ex_ParseError_ParseError := exm_of bx_ParseError ix_ParseError tx_ParseError sx_ParseError_ParseError,
    ex_ParseError_InvalidNumber := exm_of bx_InvalidNumber ix_InvalidNumber tx_InvalidNumber sx_ParseError_InvalidNumber,
    ex_InvalidNumber_PlayError := exm_of bx_PlayError ix_PlayError tx_PlayError sx_InvalidNumber_PlayError,
    ex_InvalidNumber_InvalidText := exm_of bx_InvalidText ix_InvalidText tx_InvalidText sx_InvalidNumber_InvalidText,
    ex_InvalidNumber_InvalidLetter := exm_of bx_InvalidLetter ix_InvalidLetter tx_InvalidLetter sx_InvalidNumber_InvalidLetter,
    ex_InvalidNumber_InvalidOperation := exm_of bx_InvalidOperation ix_InvalidOperation tx_InvalidOperation sx_InvalidNumber_InvalidOperation,
    ex_InvalidNumber_ParseError := exm_of bx_ParseError ix_ParseError tx_ParseError sx_InvalidNumber_ParseError,
    ex_InvalidNumber_InvalidNumber := exm_of bx_InvalidNumber ix_InvalidNumber tx_InvalidNumber sx_InvalidNumber_InvalidNumber,
    uT := uTh,
    m_abs := PySem.W.mg_none_of X G z_abs,
    m_all := PySem.W.mg_none_of X G z_all,
    m_bool := PySem.W.mg_none_of X G z_bool,
    m_enumerate := PySem.W.mg_none_of X G z_enumerate,
    m_int := PySem.W.mg_none_of X G z_int,
    m_isinstance := PySem.W.mg_none_of X G z_isinstance,
    m_len := PySem.W.mg_none_of X G z_len,
    m_max := PySem.W.mg_none_of X G z_max,
    m_min := PySem.W.mg_none_of X G z_min,
    m_range := PySem.W.mg_none_of X G z_range,
    m_repr := PySem.W.mg_none_of X G z_repr,
    m_sorted := PySem.W.mg_none_of X G z_sorted,
    m_str := PySem.W.mg_none_of X G z_str,
    m_tuple := PySem.W.mg_none_of X G z_tuple,
    t_GREATEST := t_GREATEST, c_GREATEST := PySem.W.mg_of X G z_GREATEST,
    t_MOST_TEXT := t_MOST_TEXT, c_MOST_TEXT := PySem.W.mg_of X G z_MOST_TEXT,
    t_MOST_LONG := t_MOST_LONG, c_MOST_LONG := PySem.W.mg_of X G z_MOST_LONG,
    t_MOST_DEEP := t_MOST_DEEP, c_MOST_DEEP := PySem.W.mg_of X G z_MOST_DEEP,
    t_MOST_DIGITS := t_MOST_DIGITS, c_MOST_DIGITS := PySem.W.mg_of X G z_MOST_DIGITS,
    t_FIRST_SIGN := t_FIRST_SIGN, c_FIRST_SIGN := PySem.W.mg_of X G z_FIRST_SIGN,
    t_LAST_SIGN := t_LAST_SIGN, c_LAST_SIGN := PySem.W.mg_of X G z_LAST_SIGN,
    t_DIGITS := t_DIGITS, c_DIGITS := PySem.W.mg_of X G z_DIGITS,
    t_HOST := t_HOST, c_HOST := PySem.W.mg_of X G z_HOST,
    t_MOST_SEAT := t_MOST_SEAT, c_MOST_SEAT := PySem.W.mg_of X G z_MOST_SEAT,
    t_MOST_WORDS := t_MOST_WORDS, c_MOST_WORDS := PySem.W.mg_of X G z_MOST_WORDS,
    t_MOST_STRETCH := t_MOST_STRETCH, c_MOST_STRETCH := PySem.W.mg_of X G z_MOST_STRETCH,
    t_MOST_PIECES := t_MOST_PIECES, c_MOST_PIECES := PySem.W.mg_of X G z_MOST_PIECES,
    t_MOST_PIECE := t_MOST_PIECE, c_MOST_PIECE := PySem.W.mg_of X G z_MOST_PIECE,
    t_MOST_KEYS := t_MOST_KEYS, c_MOST_KEYS := PySem.W.mg_of X G z_MOST_KEYS,
    t_MOST_PRINT := t_MOST_PRINT, c_MOST_PRINT := PySem.W.mg_of X G z_MOST_PRINT,
    t_MOST_ENTRY := t_MOST_ENTRY, c_MOST_ENTRY := PySem.W.mg_of X G z_MOST_ENTRY,
    t_MOST_SEATS := t_MOST_SEATS, c_MOST_SEATS := PySem.W.mg_of X G z_MOST_SEATS,
    t_ABSENT := t_ABSENT, c_ABSENT := PySem.W.mg_of X G z_ABSENT,
    t_KEYS := t_KEYS, c_KEYS := PySem.W.mg_of X G z_KEYS,
    t_ROWS := t_ROWS, c_ROWS := PySem.W.mg_of X G z_ROWS,
    t_PIECE := t_PIECE, c_PIECE := PySem.W.mg_of X G z_PIECE,
    t_WORD := t_WORD, c_WORD := PySem.W.mg_of X G z_WORD,
    p_WORDS := p_WORDS, c_WORDS := PySem.W.mg_of X G z_WORDS, s_WORDS := fun _ => .inr ⟨o_WORDS, i_WORDS, n_WORDS, y_WORDS, x_WORDS.1, x_WORDS.2.1, x_WORDS.2.2.1, x_WORDS.2.2.2⟩ }
  refine ⟨_, [("_law_right", q44, P44), ("law", q45, P45)], spD T.cn 1 m_law, ?_, fun s v => .of_eq rfl, fun H a ns hl hT hs => sp_ofT (c := T.cn) plain hl (fun p hp => ?_) hs, fun base _ _ hB => ok_law (P := l.prog) (w := w) (base := base) T ⟨hB _ (.head _), hB _ (.tail _ (.head _))⟩⟩
  · intro t ht
    simp only [List.mem_cons, List.not_mem_nil, or_false] at ht
    rcases ht with rfl | rfl
    · exact ⟨by simp, tabIn_of a44 l44 tb44 vt44, np44⟩
    · exact ⟨by simp, tabIn_of a45 l45 tb45 vt45, np45⟩
  · have hp : p ∈ ([(P44, (("_law_right" : Str) ++ ".<locals>.") ++ "<lambda>"), (P45, (("law" : Str) ++ ".<locals>.") ++ "<lambda>")] : List (Addr × Str)) := hp
    simp only [List.mem_cons, List.not_mem_nil, or_false] at hp
    rcases hp with rfl | rfl
    · exact hT _ (.head _)
    · exact hT _ (.tail _ (.head _))
end K44
open PySem PySem.W PyProof.Rows
set_option maxHeartbeats 0 in
theorem PySem.Challenge.cw_settledplay_k44_errors_of_letters_and_ba_holds : PySem.Challenge.rw_settledplay_k44_errors_of_letters_and_ba.Holds := by
  w_on; o_law; k_head; (case hw => w_witness2)
  k_fill
  refine LamX.walk_vl (l := PySem.Challenge.rw_settledplay_k44_errors_of_letters_and_ba) (n := 63) (k := 13) (x := "_law_script") (CX := fun w => L2.CX PySem.Challenge.rw_settledplay_k44_errors_of_letters_and_ba.prog w) rfl (by decide) rfl ⟨rfl, by decide, by decide⟩ (fun w h Y => by first | exact PySem.W.kIn_of Y | exact PySem.W.km_in_of Y) ["_law_right", "law"] (by rfl) ?F (fun _ _ _ _ _ h => VL.noCX h)
  case F =>
    intro w mg fa h KX G hmg
    refine' K44.all_mk KX G hmg ?nsC_Known ?nsC_Bag ?a0 ?l0 ?c0 ?k0 ?a1 ?l1 ?c1 ?k1 ?a2 ?l2 ?c2 ?k2 ?a3 ?l3 ?c3 ?k3 ?a4 ?l4 ?c4 ?k4 ?a5 ?l5 ?c5 ?k5 ?a6 ?l6 ?c6 ?k6 ?a7 ?l7 ?c7 ?k7 ?a8 ?l8 ?c8 ?k8 ?a9 ?l9 ?c9 ?k9 ?a10 ?l10 ?c10 ?k10 ?a11 ?l11 ?c11 ?k11 ?a12 ?l12 ?c12 ?k12 ?a13 ?l13 ?c13 ?k13 ?a14 ?l14 ?c14 ?k14 ?a15 ?l15 ?c15 ?k15 ?a16 ?l16 ?c16 ?k16 ?a17 ?l17 ?c17 ?k17 ?a18 ?l18 ?c18 ?k18 ?a19 ?l19 ?c19 ?k19 ?a20 ?l20 ?c20 ?k20 ?a21 ?l21 ?c21 ?k21 ?a22 ?l22 ?c22 ?k22 ?a23 ?l23 ?c23 ?k23 ?a24 ?l24 ?c24 ?k24 ?a25 ?l25 ?c25 ?k25 ?a26 ?l26 ?c26 ?k26 ?a27 ?l27 ?c27 ?k27 ?a28 ?i28 ?l28 ?c28 ?k28 ?a29 ?i29 ?l29 ?c29 ?k29 ?lT29 ?xT29 ?ye29_0 ?xe29_0 ?a30 ?g30 ?t30 ?r30 ?l30 ?c30 ?k30 ?a31 ?i31 ?l31 ?c31 ?k31 ?a32 ?i32 ?l32 ?c32 ?k32 ?a33 ?i33 ?l33 ?c33 ?k33 ?a34 ?i34 ?l34 ?c34 ?k34 ?a35 ?i35 ?l35 ?c35 ?k35 ?a36 ?i36 ?l36 ?c36 ?k36 ?a37 ?i37 ?l37 ?c37 ?k37 ?a38 ?l38 ?c38 ?k38 ?a39 ?l39 ?c39 ?k39 ?a40 ?l40 ?c40 ?k40 ?a41 ?l41 ?c41 ?k41 ?a42 ?l42 ?c42 ?k42 ?a43 ?l43 ?c43 ?k43 ?a44 ?l44 ?c44 ?k44 ?tb44 ?vt44 ?np44 ?a45 ?l45 ?c45 ?k45 ?tb45 ?vt45 ?np45 ?opq ?nsup ?tps ?z_SIZES ?y_SIZES ?x_SIZES ?lo_SIZES ?en_SIZES ?gx_PlayError ?kx_PlayError ?bx_PlayError ?tx_PlayError ?ix_PlayError ?xc_PlayError ?gx_InvalidText ?kx_InvalidText ?bx_InvalidText ?tx_InvalidText ?ix_InvalidText ?xc_InvalidText ?gx_InvalidLetter ?kx_InvalidLetter ?bx_InvalidLetter ?tx_InvalidLetter ?ix_InvalidLetter ?xc_InvalidLetter ?gx_InvalidOperation ?kx_InvalidOperation ?bx_InvalidOperation ?tx_InvalidOperation ?ix_InvalidOperation ?xc_InvalidOperation ?gx_ParseError ?kx_ParseError ?bx_ParseError ?tx_ParseError ?ix_ParseError ?hB_ParseError ?ei_ParseError ?eo_ParseError ?sa_ParseError ?no_ParseError ?nf_ParseError ?ic_ParseError ?tc_ParseError ?hd_ParseError ?cm_ParseError ?su_ParseError ?ga_ParseError ?gg_ParseError ?lk_ParseError ?co_ParseError ?ck_ParseError ?cj_ParseError ?vf_ParseError ?fm_ParseError ?gx_InvalidNumber ?kx_InvalidNumber ?bx_InvalidNumber ?tx_InvalidNumber ?ix_InvalidNumber ?hB_InvalidNumber ?ei_InvalidNumber ?eo_InvalidNumber ?sa_InvalidNumber ?no_InvalidNumber ?nf_InvalidNumber ?ic_InvalidNumber ?tc_InvalidNumber ?hd_InvalidNumber ?cm_InvalidNumber ?su_InvalidNumber ?ga_InvalidNumber ?gg_InvalidNumber ?lk_InvalidNumber ?co_InvalidNumber ?ck_InvalidNumber ?cj_InvalidNumber ?vf_InvalidNumber ?fm_InvalidNumber ?sx_PlayError_PlayError ?sx_PlayError_InvalidText ?sx_PlayError_InvalidLetter ?sx_PlayError_InvalidOperation ?sx_PlayError_ParseError ?sx_PlayError_InvalidNumber ?sx_InvalidText_PlayError ?sx_InvalidText_InvalidText ?sx_InvalidText_InvalidLetter ?sx_InvalidText_InvalidOperation ?sx_InvalidText_ParseError ?sx_InvalidText_InvalidNumber ?sx_InvalidLetter_PlayError ?sx_InvalidLetter_InvalidText ?sx_InvalidLetter_InvalidLetter ?sx_InvalidLetter_InvalidOperation ?sx_InvalidLetter_ParseError ?sx_InvalidLetter_InvalidNumber ?sx_InvalidOperation_PlayError ?sx_InvalidOperation_InvalidText ?sx_InvalidOperation_InvalidLetter ?sx_InvalidOperation_InvalidOperation ?sx_InvalidOperation_ParseError ?sx_InvalidOperation_InvalidNumber ?sx_ParseError_PlayError ?sx_ParseError_InvalidText ?sx_ParseError_InvalidLetter ?sx_ParseError_InvalidOperation ?sx_ParseError_ParseError ?sx_ParseError_InvalidNumber ?sx_InvalidNumber_PlayError ?sx_InvalidNumber_InvalidText ?sx_InvalidNumber_InvalidLetter ?sx_InvalidNumber_InvalidOperation ?sx_InvalidNumber_ParseError ?sx_InvalidNumber_InvalidNumber ?uTh ?z_abs ?z_all ?z_bool ?z_enumerate ?z_int ?z_isinstance ?z_len ?z_max ?z_min ?z_range ?z_repr ?z_sorted ?z_str ?z_tuple ?z_GREATEST ?z_MOST_TEXT ?z_MOST_LONG ?z_MOST_DEEP ?z_MOST_DIGITS ?z_FIRST_SIGN ?z_LAST_SIGN ?z_DIGITS ?z_HOST ?z_MOST_SEAT ?z_MOST_WORDS ?z_MOST_STRETCH ?z_MOST_PIECES ?z_MOST_PIECE ?z_MOST_KEYS ?z_MOST_PRINT ?z_MOST_ENTRY ?z_MOST_SEATS ?z_ABSENT ?z_KEYS ?z_ROWS ?z_PIECE ?z_WORD ?z_WORDS ?y_WORDS ?x_WORDS ?pg_Known ?ic_Known ?po_Known ?sa_Known ?mk_Known ?kc_Known ?ca_Known ?cn_Known ?ct_Known ?cm_Known ?ty_Known ?sat_own_found_Known ?sge_own_found_Known ?stk_own_found_Known ?sty_own_found_Known ?six_own_found_Known ?kit_NoneType_Known ?kit_bool_Known ?kit_int_Known ?kit_str_Known ?kit_tuple_Known ?kit_list_Known ?kit_dict_Known ?kit_Bag_Known ?kt_NoneType_Known ?kt_bool_Known ?kt_int_Known ?kt_str_Known ?kt_tuple_Known ?kt_list_Known ?kt_dict_Known ?kn_Bag_Known ?pg_Bag ?ic_Bag ?po_Bag ?sa_Bag ?mk_Bag ?kc_Bag ?ca_Bag ?cn_Bag ?ct_Bag ?cm_Bag ?ty_Bag ?sat_own_letters_Bag ?sge_own_letters_Bag ?stk_own_letters_Bag ?sty_own_letters_Bag ?six_own_letters_Bag ?kit_NoneType_Bag ?kit_bool_Bag ?kit_int_Bag ?kit_str_Bag ?kit_tuple_Bag ?kit_list_Bag ?kit_dict_Bag ?kit_Known_Bag ?kt_NoneType_Bag ?kt_bool_Bag ?kt_int_Bag ?kt_str_Bag ?kt_tuple_Bag ?kt_list_Bag ?kt_dict_Bag ?kn_Known_Bag ?nf_NoneType_Bag ?nf_bool_Bag ?nf_int_Bag ?nf_str_Bag ?nf_tuple_Bag ?nf_list_Bag ?nf_dict_Bag ?nf_Known_Bag ?nf_Bag_Bag ?ne_Bag
    (case nsC_Known => k_is)
    (case nsC_Bag => k_is)
    (case a0 => k_is)
    (case l0 => k_is)
    (case c0 => k_is)
    (case k0 => k_is)
    (case a1 => k_is)
    (case l1 => k_is)
    (case c1 => k_is)
    (case k1 => k_is)
    (case a2 => k_is)
    (case l2 => k_is)
    (case c2 => k_is)
    (case k2 => k_is)
    (case a3 => k_is)
    (case l3 => k_is)
    (case c3 => k_is)
    (case k3 => k_is)
    (case a4 => k_is)
    (case l4 => k_is)
    (case c4 => k_is)
    (case k4 => k_is)
    (case a5 => k_is)
    (case l5 => k_is)
    (case c5 => k_is)
    (case k5 => k_is)
    (case a6 => k_is)
    (case l6 => k_is)
    (case c6 => k_is)
    (case k6 => k_is)
    (case a7 => k_is)
    (case l7 => k_is)
    (case c7 => k_is)
    (case k7 => k_is)
    (case a8 => k_is)
    (case l8 => k_is)
    (case c8 => k_is)
    (case k8 => k_is)
    (case a9 => k_is)
    (case l9 => k_is)
    (case c9 => k_is)
    (case k9 => k_is)
    (case a10 => k_is)
    (case l10 => k_is)
    (case c10 => k_is)
    (case k10 => k_is)
    (case a11 => k_is)
    (case l11 => k_is)
    (case c11 => k_is)
    (case k11 => k_is)
    (case a12 => k_is)
    (case l12 => k_is)
    (case c12 => k_is)
    (case k12 => k_is)
    (case a13 => k_is)
    (case l13 => k_is)
    (case c13 => k_is)
    (case k13 => k_is)
    (case a14 => k_is)
    (case l14 => k_is)
    (case c14 => k_is)
    (case k14 => k_is)
    (case a15 => k_is)
    (case l15 => k_is)
    (case c15 => k_is)
    (case k15 => k_is)
    (case a16 => k_is)
    (case l16 => k_is)
    (case c16 => k_is)
    (case k16 => k_is)
    (case a17 => k_is)
    (case l17 => k_is)
    (case c17 => k_is)
    (case k17 => k_is)
    (case a18 => k_is)
    (case l18 => k_is)
    (case c18 => k_is)
    (case k18 => k_is)
    (case a19 => k_is)
    (case l19 => k_is)
    (case c19 => k_is)
    (case k19 => k_is)
    (case a20 => k_is)
    (case l20 => k_is)
    (case c20 => k_is)
    (case k20 => k_is)
    (case a21 => k_is)
    (case l21 => k_is)
    (case c21 => k_is)
    (case k21 => k_is)
    (case a22 => k_is)
    (case l22 => k_is)
    (case c22 => k_is)
    (case k22 => k_is)
    (case a23 => k_is)
    (case l23 => k_is)
    (case c23 => k_is)
    (case k23 => k_is)
    (case a24 => k_is)
    (case l24 => k_is)
    (case c24 => k_is)
    (case k24 => k_is)
    (case a25 => k_is)
    (case l25 => k_is)
    (case c25 => k_is)
    (case k25 => k_is)
    (case a26 => k_is)
    (case l26 => k_is)
    (case c26 => k_is)
    (case k26 => k_is)
    (case a27 => k_is)
    (case l27 => k_is)
    (case c27 => k_is)
    (case k27 => k_is)
    (case a28 => k_is)
    (case i28 => k_is)
    (case l28 => k_is)
    (case c28 => k_is)
    (case k28 => k_is)
    (case a29 => k_is)
    (case i29 => k_is)
    (case l29 => k_is)
    (case c29 => k_is)
    (case k29 => k_is)
    (case lT29 => k_is)
    (case xT29 => exact ⟨rfl, by repeat (first | exact .nil | refine .cons (by first | exact rfl | exact ⟨_, rfl⟩) ?_)⟩)
    (case ye29_0 => k_is)
    (case xe29_0 => exact ⟨rfl, rfl, by decide, .nil⟩)
    (case a30 => k_is)
    (case g30 => k_is)
    (case t30 => k_is)
    (case r30 => k_is)
    (case l30 => k_is)
    (case c30 => k_is)
    (case k30 => k_is)
    (case a31 => k_is)
    (case i31 => k_is)
    (case l31 => k_is)
    (case c31 => k_is)
    (case k31 => k_is)
    (case a32 => k_is)
    (case i32 => k_is)
    (case l32 => k_is)
    (case c32 => k_is)
    (case k32 => k_is)
    (case a33 => k_is)
    (case i33 => k_is)
    (case l33 => k_is)
    (case c33 => k_is)
    (case k33 => k_is)
    (case a34 => k_is)
    (case i34 => k_is)
    (case l34 => k_is)
    (case c34 => k_is)
    (case k34 => k_is)
    (case a35 => k_is)
    (case i35 => k_is)
    (case l35 => k_is)
    (case c35 => k_is)
    (case k35 => k_is)
    (case a36 => k_is)
    (case i36 => k_is)
    (case l36 => k_is)
    (case c36 => k_is)
    (case k36 => k_is)
    (case a37 => k_is)
    (case i37 => k_is)
    (case l37 => k_is)
    (case c37 => k_is)
    (case k37 => k_is)
    (case a38 => k_is)
    (case l38 => k_is)
    (case c38 => k_is)
    (case k38 => k_is)
    (case a39 => k_is)
    (case l39 => k_is)
    (case c39 => k_is)
    (case k39 => k_is)
    (case a40 => k_is)
    (case l40 => k_is)
    (case c40 => k_is)
    (case k40 => k_is)
    (case a41 => k_is)
    (case l41 => k_is)
    (case c41 => k_is)
    (case k41 => k_is)
    (case a42 => k_is)
    (case l42 => k_is)
    (case c42 => k_is)
    (case k42 => k_is)
    (case a43 => k_is)
    (case l43 => k_is)
    (case c43 => k_is)
    (case k43 => k_is)
    (case a44 => k_is)
    (case l44 => k_is)
    (case c44 => k_is)
    (case k44 => k_is)
    (case tb44 => k_is)
    (case vt44 => rfl)
    (case np44 => first | rfl | decide | kernel_rfl)
    (case a45 => k_is)
    (case l45 => k_is)
    (case c45 => k_is)
    (case k45 => k_is)
    (case tb45 => k_is)
    (case vt45 => rfl)
    (case np45 => first | rfl | decide | kernel_rfl)
    (case opq => k_is)
    (case nsup => k_is)
    (case tps => rfl)
    (case z_SIZES => k_is)
    (case y_SIZES => k_is)
    (case x_SIZES => exact ⟨⟨_, _, rfl, rfl⟩, ⟨_, _, rfl, rfl⟩, ⟨_, _, rfl, rfl⟩, ⟨_, _, rfl, rfl⟩, True.intro⟩)
    (case lo_SIZES => first | rfl | decide)
    (case en_SIZES => exact ⟨⟨_, rfl⟩, ⟨_, rfl⟩, ⟨_, rfl⟩, ⟨_, rfl⟩, ⟨_, rfl⟩, ⟨_, rfl⟩, ⟨_, rfl⟩, ⟨_, rfl⟩, True.intro⟩)
    (case gx_PlayError => k_is)
    (case kx_PlayError => k_is)
    (case bx_PlayError => k_is)
    (case tx_PlayError => k_is)
    (case ix_PlayError => k_is)
    (case xc_PlayError => k_exc)
    (case gx_InvalidText => k_is)
    (case kx_InvalidText => k_is)
    (case bx_InvalidText => k_is)
    (case tx_InvalidText => k_is)
    (case ix_InvalidText => k_is)
    (case xc_InvalidText => k_exc)
    (case gx_InvalidLetter => k_is)
    (case kx_InvalidLetter => k_is)
    (case bx_InvalidLetter => k_is)
    (case tx_InvalidLetter => k_is)
    (case ix_InvalidLetter => k_is)
    (case xc_InvalidLetter => k_exc)
    (case gx_InvalidOperation => k_is)
    (case kx_InvalidOperation => k_is)
    (case bx_InvalidOperation => k_is)
    (case tx_InvalidOperation => k_is)
    (case ix_InvalidOperation => k_is)
    (case xc_InvalidOperation => k_exc)
    (case gx_ParseError => k_is)
    (case kx_ParseError => k_is)
    (case bx_ParseError => k_is)
    (case tx_ParseError => k_is)
    (case ix_ParseError => k_is)
    (case hB_ParseError => k_is)
    (case ei_ParseError => kx_is)
    (case eo_ParseError => kx_is)
    (case sa_ParseError => k_is)
    (case no_ParseError => k_is)
    (case nf_ParseError => k_is)
    (case ic_ParseError => k_is)
    (case tc_ParseError => k_is)
    (case hd_ParseError => k_is)
    (case cm_ParseError => k_is)
    (case su_ParseError => ks_is)
    (case ga_ParseError => k_is)
    (case gg_ParseError => k_is)
    (case lk_ParseError => k_is)
    (case co_ParseError => k_is)
    (case ck_ParseError => k_is)
    (case cj_ParseError => k_is)
    (case vf_ParseError => rfl)
    (case fm_ParseError => first | rfl | decide)
    (case gx_InvalidNumber => k_is)
    (case kx_InvalidNumber => k_is)
    (case bx_InvalidNumber => k_is)
    (case tx_InvalidNumber => k_is)
    (case ix_InvalidNumber => k_is)
    (case hB_InvalidNumber => k_is)
    (case ei_InvalidNumber => kx_is)
    (case eo_InvalidNumber => kx_is)
    (case sa_InvalidNumber => k_is)
    (case no_InvalidNumber => k_is)
    (case nf_InvalidNumber => k_is)
    (case ic_InvalidNumber => k_is)
    (case tc_InvalidNumber => k_is)
    (case hd_InvalidNumber => k_is)
    (case cm_InvalidNumber => k_is)
    (case su_InvalidNumber => ks_is)
    (case ga_InvalidNumber => k_is)
    (case gg_InvalidNumber => k_is)
    (case lk_InvalidNumber => k_is)
    (case co_InvalidNumber => k_is)
    (case ck_InvalidNumber => k_is)
    (case cj_InvalidNumber => k_is)
    (case vf_InvalidNumber => rfl)
    (case fm_InvalidNumber => first | rfl | decide)
    (case sx_PlayError_PlayError => first | rfl | k_is)
    (case sx_PlayError_InvalidText => first | rfl | k_is)
    (case sx_PlayError_InvalidLetter => first | rfl | k_is)
    (case sx_PlayError_InvalidOperation => first | rfl | k_is)
    (case sx_PlayError_ParseError => first | rfl | k_is)
    (case sx_PlayError_InvalidNumber => first | rfl | k_is)
    (case sx_InvalidText_PlayError => first | rfl | k_is)
    (case sx_InvalidText_InvalidText => first | rfl | k_is)
    (case sx_InvalidText_InvalidLetter => first | rfl | k_is)
    (case sx_InvalidText_InvalidOperation => first | rfl | k_is)
    (case sx_InvalidText_ParseError => first | rfl | k_is)
    (case sx_InvalidText_InvalidNumber => first | rfl | k_is)
    (case sx_InvalidLetter_PlayError => first | rfl | k_is)
    (case sx_InvalidLetter_InvalidText => first | rfl | k_is)
    (case sx_InvalidLetter_InvalidLetter => first | rfl | k_is)
    (case sx_InvalidLetter_InvalidOperation => first | rfl | k_is)
    (case sx_InvalidLetter_ParseError => first | rfl | k_is)
    (case sx_InvalidLetter_InvalidNumber => first | rfl | k_is)
    (case sx_InvalidOperation_PlayError => first | rfl | k_is)
    (case sx_InvalidOperation_InvalidText => first | rfl | k_is)
    (case sx_InvalidOperation_InvalidLetter => first | rfl | k_is)
    (case sx_InvalidOperation_InvalidOperation => first | rfl | k_is)
    (case sx_InvalidOperation_ParseError => first | rfl | k_is)
    (case sx_InvalidOperation_InvalidNumber => first | rfl | k_is)
    (case sx_ParseError_PlayError => first | rfl | k_is)
    (case sx_ParseError_InvalidText => first | rfl | k_is)
    (case sx_ParseError_InvalidLetter => first | rfl | k_is)
    (case sx_ParseError_InvalidOperation => first | rfl | k_is)
    (case sx_ParseError_ParseError => first | rfl | k_is)
    (case sx_ParseError_InvalidNumber => first | rfl | k_is)
    (case sx_InvalidNumber_PlayError => first | rfl | k_is)
    (case sx_InvalidNumber_InvalidText => first | rfl | k_is)
    (case sx_InvalidNumber_InvalidLetter => first | rfl | k_is)
    (case sx_InvalidNumber_InvalidOperation => first | rfl | k_is)
    (case sx_InvalidNumber_ParseError => first | rfl | k_is)
    (case sx_InvalidNumber_InvalidNumber => first | rfl | k_is)
    (case uTh => decide)
    (case z_abs => k_is)
    (case z_all => k_is)
    (case z_bool => k_is)
    (case z_enumerate => k_is)
    (case z_int => k_is)
    (case z_isinstance => k_is)
    (case z_len => k_is)
    (case z_max => k_is)
    (case z_min => k_is)
    (case z_range => k_is)
    (case z_repr => k_is)
    (case z_sorted => k_is)
    (case z_str => k_is)
    (case z_tuple => k_is)
    (case z_GREATEST => k_is)
    (case z_MOST_TEXT => k_is)
    (case z_MOST_LONG => k_is)
    (case z_MOST_DEEP => k_is)
    (case z_MOST_DIGITS => k_is)
    (case z_FIRST_SIGN => k_is)
    (case z_LAST_SIGN => k_is)
    (case z_DIGITS => k_is)
    (case z_HOST => k_is)
    (case z_MOST_SEAT => k_is)
    (case z_MOST_WORDS => k_is)
    (case z_MOST_STRETCH => k_is)
    (case z_MOST_PIECES => k_is)
    (case z_MOST_PIECE => k_is)
    (case z_MOST_KEYS => k_is)
    (case z_MOST_PRINT => k_is)
    (case z_MOST_ENTRY => k_is)
    (case z_MOST_SEATS => k_is)
    (case z_ABSENT => k_is)
    (case z_KEYS => k_is)
    (case z_ROWS => k_is)
    (case z_PIECE => k_is)
    (case z_WORD => k_is)
    (case z_WORDS => k_is)
    (case y_WORDS => k_is)
    (case x_WORDS => exact ⟨rfl, rfl, by decide, by repeat (first | exact .nil | refine .cons (by first | exact rfl | exact ⟨_, rfl⟩) ?_)⟩)
    (case pg_Known => k_is)
    (case ic_Known => k_is)
    (case po_Known => k_is)
    (case sa_Known => k_is)
    (case mk_Known => k_is)
    (case kc_Known => k_is)
    (case ca_Known => k_is)
    (case cn_Known => k_is)
    (case ct_Known => k_is)
    (case cm_Known => k_is)
    (case ty_Known => k_is)
    (case sat_own_found_Known => k_is)
    (case sge_own_found_Known => k_is)
    (case stk_own_found_Known => k_is)
    (case sty_own_found_Known => k_is)
    (case six_own_found_Known => k_is)
    (case kit_NoneType_Known => k_is)
    (case kit_bool_Known => k_is)
    (case kit_int_Known => k_is)
    (case kit_str_Known => k_is)
    (case kit_tuple_Known => k_is)
    (case kit_list_Known => k_is)
    (case kit_dict_Known => k_is)
    (case kit_Bag_Known => k_is)
    (case kt_NoneType_Known => k_is)
    (case kt_bool_Known => k_is)
    (case kt_int_Known => k_is)
    (case kt_str_Known => k_is)
    (case kt_tuple_Known => k_is)
    (case kt_list_Known => k_is)
    (case kt_dict_Known => k_is)
    (case kn_Bag_Known => first | rfl | decide)
    (case pg_Bag => k_is)
    (case ic_Bag => k_is)
    (case po_Bag => k_is)
    (case sa_Bag => k_is)
    (case mk_Bag => k_is)
    (case kc_Bag => k_is)
    (case ca_Bag => k_is)
    (case cn_Bag => k_is)
    (case ct_Bag => k_is)
    (case cm_Bag => k_is)
    (case ty_Bag => k_is)
    (case sat_own_letters_Bag => k_is)
    (case sge_own_letters_Bag => k_is)
    (case stk_own_letters_Bag => k_is)
    (case sty_own_letters_Bag => k_is)
    (case six_own_letters_Bag => k_is)
    (case kit_NoneType_Bag => k_is)
    (case kit_bool_Bag => k_is)
    (case kit_int_Bag => k_is)
    (case kit_str_Bag => k_is)
    (case kit_tuple_Bag => k_is)
    (case kit_list_Bag => k_is)
    (case kit_dict_Bag => k_is)
    (case kit_Known_Bag => k_is)
    (case kt_NoneType_Bag => k_is)
    (case kt_bool_Bag => k_is)
    (case kt_int_Bag => k_is)
    (case kt_str_Bag => k_is)
    (case kt_tuple_Bag => k_is)
    (case kt_list_Bag => k_is)
    (case kt_dict_Bag => k_is)
    (case kn_Known_Bag => first | rfl | decide)
    (case nf_NoneType_Bag => k_is)
    (case nf_bool_Bag => k_is)
    (case nf_int_Bag => k_is)
    (case nf_str_Bag => k_is)
    (case nf_tuple_Bag => k_is)
    (case nf_list_Bag => k_is)
    (case nf_dict_Bag => k_is)
    (case nf_Known_Bag => k_is)
    (case nf_Bag_Bag => k_is)
    (case ne_Bag => k_is)

