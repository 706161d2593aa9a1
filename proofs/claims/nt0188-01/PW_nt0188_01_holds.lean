import PyProof.Rows.All
import Wide.All
import OpenK.AllK
import Wide.FinOn
import PyProof.ExcInit
import KE.KTryOn
import PyProof.ReprBulk
import PyProof.ReprRoads
import PyProof.Rows.ReprShort
import PySem.Challenge.RW_nt0188_01
open PySem PySem.W PySem.Calls PyProof.Rows
set_option maxRecDepth 100000
set_option autoImplicit false
set_option linter.unusedVariables false
set_option Elab.async false
set_option maxHeartbeats 0
set_option compiler.extract_closed false
namespace Mine
section TPlain
inductive Thing where
  | int (i : Int)
  | sym (s : Str)
  | nil
  | vec (ts : List Thing)
  | pair (a d : Thing)

inductive Mean where
  | int (i : Int)
  | sym (s : Str)
  | nil
  | vecOf (m : Mean)
  | pair (a d : Mean)
  | call (t : Thing)
  | joined (a d : Mean)

inductive Form where
  | hole (t : Thing)
  | quote (t : Thing)
  | cons (f g : Form)
  | append (t : Thing) (g : Form)
  | l2v (f : Form)

noncomputable def row : List Thing → Thing → Thing
  | [], t => t
  | a :: r, t => .pair a (row r t)

noncomputable def wU : Str := "unquote"
noncomputable def wS : Str := "unquote-splicing"
noncomputable def wQ : Str := "quasiquote"

/-- the word by which a thing changes its level -/
noncomputable def markOf (M : List Str) : Thing → Option (Str × Thing)
  | .pair (.sym w) (.pair x .nil) => if w ∈ M then some (w, x) else none
  | _ => none

noncomputable def mrow : List Mean → Mean → Mean
  | [], t => t
  | a :: r, t => .pair a (mrow r t)

noncomputable def hole : Thing → Mean
  | .int i => .int i
  | .sym s => if s = ("p" : Str) then .int 5 else if s = ("q" : Str) then mrow [.int 1, .sym "a"] .nil else if s = ("r" : Str) then .nil else .call (.sym s)
  | t => .call t

noncomputable def spine : Mean → List Mean × Mean
  | .pair a d => (a :: (spine d).1, (spine d).2)
  | m => ([], m)

noncomputable def joined (one other : Mean) : Mean := match (spine one).2 with
  | .nil => mrow (spine one).1 other
  | _ => .joined one other

mutual
noncomputable def frozen : Thing → Mean
  | .int i => .int i
  | .sym s => .sym s
  | .nil => .nil
  | .vec ts => .vecOf (frozens ts)
  | .pair a d => .pair (frozen a) (frozen d)
noncomputable def frozens : List Thing → Mean
  | [] => .nil
  | t :: r => .pair (frozen t) (frozens r)
end

noncomputable def up (w : Str) (l : Nat) : Nat := if w = wQ then l + 1 else l - 1

section
variable (M : List Str)
mutual
noncomputable def means (l : Nat) : Thing → Option Mean
  | .vec ts => (meansV l ts).map .vecOf
  | .pair a d => match markOf M (.pair a d) with
    | some (w, x) => if l = 1 ∧ w ≠ wQ then (if w = wU then some (hole x) else none) else match a with
      | .sym s => (means (up w l) d).map (.pair (.sym s))
      | _ => none
    | none => match means l d with
      | none => none
      | some r => match (if l = 1 then markOf M a else none) with
        | some (w, x) => if w = wS then some (joined (hole x) r) else (means l a).map fun o => .pair o r
        | none => (means l a).map fun o => .pair o r
  | .int i => some (.int i)
  | .sym s => some (.sym s)
  | .nil => some .nil
noncomputable def meansV (l : Nat) : List Thing → Option Mean
  | [] => some .nil
  | a :: ts => match meansV l ts with
    | none => none
    | some r => match (if l = 1 then markOf M a else none) with
      | some (w, x) => if w = wS then some (joined (hole x) r) else (means l a).map fun o => .pair o r
      | none => (means l a).map fun o => .pair o r
end

noncomputable def nextM (l : Nat) (a : Thing) : Option Mean → Option Mean
  | none => none
  | some r => match (if l = 1 then markOf M a else none) with
    | some (w, x) => if w = wS then some (joined (hole x) r) else (means M l a).map fun o => .pair o r
    | none => (means M l a).map fun o => .pair o r

noncomputable def glue (t : Thing) (fb ob : Form × Bool) : Form × Bool := if fb.2 && ob.2 then (.quote t, true) else (.cons ob.1 fb.1, false)

mutual
noncomputable def told (l : Nat) : Thing → Option (Form × Bool)
  | .vec ts => match toldV l ts with
    | none => none
    | some (f, b) => if b then some (.quote (.vec ts), true) else some (.l2v f, false)
  | .pair a d => match markOf M (.pair a d) with
    | some (w, x) => if l = 1 ∧ w = wU then some (.hole x, false) else if l = 1 ∧ w = wS then none else
      match told (up w l) d with
      | none => none
      | some (f, b) => if b then some (.quote (.pair a d), true) else some (.cons (.quote a) f, false)
    | none => match told l d with
      | none => none
      | some fb => match (if l = 1 then markOf M a else none) with
        | some (w, x) => if w = wS then some (.append x fb.1, false) else (told l a).map (glue (.pair a d) fb)
        | none => (told l a).map (glue (.pair a d) fb)
  | .int i => some (.quote (.int i), true)
  | .sym s => some (.quote (.sym s), true)
  | .nil => some (.quote .nil, true)
noncomputable def toldV (l : Nat) : List Thing → Option (Form × Bool)
  | [] => some (.quote .nil, true)
  | a :: ts => match toldV l ts with
    | none => none
    | some fb => match (if l = 1 then markOf M a else none) with
      | some (w, x) => if w = wS then some (.append x fb.1, false) else (told l a).map (glue (row (a :: ts) .nil) fb)
      | none => (told l a).map (glue (row (a :: ts) .nil) fb)
end

/-- a link of a row: what `chained` does of one spot -/
noncomputable def link (l : Nat) (t a : Thing) (fb : Form × Bool) : Option (Form × Bool) := match (if l = 1 then markOf M a else none) with
  | some (w, x) => if w = wS then some (.append x fb.1, false) else (told M l a).map (glue t fb)
  | none => (told M l a).map (glue t fb)
end

noncomputable def done : Form → Mean
  | .hole t => hole t
  | .quote t => frozen t
  | .cons f g => .pair (done f) (done g)
  | .append t g => joined (hole t) (done g)
  | .l2v f => .vecOf (done f)

theorem frozen_row (ts : List Thing) : frozen (row ts .nil) = frozens ts := by
  induction ts with
  | nil => simp [row, frozen, frozens]
  | cons a r ih => simp [row, frozen, frozens, ih]

theorem markOf_some {M : List Str} {t x : Thing} {w : Str} (h : markOf M t = some (w, x)) : t = .pair (.sym w) (.pair x .nil) ∧ w ∈ M := by
  unfold markOf at h
  split at h
  · split at h
    · rename_i w' x' hw
      cases h; exact ⟨rfl, hw⟩
    · cases h
  · cases h

/-- what a form and a flag say of a thing -/
noncomputable def Says (t : Thing) (r : Option (Form × Bool)) (m : Option Mean) : Prop :=
  r.map (fun fb => done fb.1) = m ∧ ∀ f b, r = some (f, b) → (b = true → f = .quote t) ∧ (b = false → ∀ x, f ≠ .quote x)

noncomputable def MarksOk (M : List Str) : Prop := ∀ w ∈ M, w = wU ∨ w = wS ∨ w = wQ

theorem wU_ne_wQ : wU ≠ wQ := by decide +kernel
theorem wS_ne_wQ : wS ≠ wQ := by decide +kernel
theorem wS_ne_wU : wS ≠ wU := by decide +kernel

theorem says_link {M : List Str} {l : Nat} {t a : Thing} {fb : Form × Bool} {td : Thing} (h : Says a (told M l a) (means M l a)) (hd : fb.2 = true → done fb.1 = frozen td) (ht : frozen t = .pair (frozen a) (frozen td)) :
    Says t (link M l t a fb) (nextM M l a (some (done fb.1))) := by
  have main : Says t ((told M l a).map (glue t fb)) ((means M l a).map fun o => .pair o (done fb.1)) := by
    obtain ⟨h1, h2⟩ := h
    rw [← h1]
    cases hta : told M l a with
    | none => exact ⟨rfl, fun f b e => by cases e⟩
    | some ob =>
      obtain ⟨of, b⟩ := ob
      obtain ⟨h3, h4⟩ := h2 of b hta
      obtain ⟨f, bf⟩ := fb
      simp only [Option.map_some]
      unfold glue
      cases b <;> cases bf <;> simp only [Bool.and_true, Bool.and_false, Bool.false_eq_true, if_false, if_true, Bool.and_self]
      all_goals first
        | exact ⟨rfl, fun f b e => by cases e; exact ⟨(fun h => by cases h), (fun _ x q => by cases q)⟩⟩
        | skip
      refine ⟨?_, fun f b e => by cases e; exact ⟨fun _ => rfl, fun h => by cases h⟩⟩
      have e1 := h3 rfl
      subst e1
      have e2 : done f = frozen td := hd rfl
      show some (frozen t) = some (Mean.pair (frozen a) (done f))
      rw [ht, e2]
  unfold link nextM
  split
  · rename_i w x hw
    simp only
    split
    · refine ⟨rfl, fun f b e => ?_⟩
      cases e
      exact ⟨(fun h => by cases h), (fun _ x q => by cases q)⟩
    · exact main
  · exact main

theorem says_mark {M : List Str} {l : Nat} {s : Str} {d : Thing} (h : Says d (told M l d) (means M l d)) :
    Says (.pair (.sym s) d) (match told M l d with
      | none => none
      | some (f, b) => if b then some (.quote (.pair (.sym s) d), true) else some (.cons (.quote (.sym s)) f, false)) ((means M l d).map (.pair (.sym s))) := by
  obtain ⟨h1, h2⟩ := h
  rw [← h1]
  cases htd : told M l d with
  | none => exact ⟨rfl, fun f b e => by cases e⟩
  | some fb =>
    obtain ⟨f, b⟩ := fb
    obtain ⟨h3, h4⟩ := h2 f b htd
    cases b with
    | true =>
      refine ⟨?_, fun f b e => by cases e; exact ⟨fun _ => rfl, fun h => by cases h⟩⟩
      have := h3 rfl
      subst this
      simp [done, frozen]
    | false => exact ⟨by simp [done, frozen], fun f b e => by cases e; exact ⟨(fun h => by cases h), (fun _ x q => by cases q)⟩⟩

mutual
theorem says {M : List Str} (hM : MarksOk M) : ∀ (l : Nat) (t : Thing), Says t (told M l t) (means M l t)
  | l, .int i => by
    unfold told means
    exact ⟨rfl, fun f b e => by cases e; exact ⟨fun _ => rfl, fun h => by cases h⟩⟩
  | l, .sym i => by
    unfold told means
    exact ⟨rfl, fun f b e => by cases e; exact ⟨fun _ => rfl, fun h => by cases h⟩⟩
  | l, .nil => by
    unfold told means
    exact ⟨rfl, fun f b e => by cases e; exact ⟨fun _ => rfl, fun h => by cases h⟩⟩
  | l, .vec ts => by
    have ⟨h1, h2⟩ := saysV hM l ts
    unfold told means
    rw [← h1]
    cases htv : toldV M l ts with
    | none => exact ⟨rfl, fun f b e => by cases e⟩
    | some fb =>
      obtain ⟨f, b⟩ := fb
      obtain ⟨h3, h4⟩ := h2 f b htv
      cases b with
      | true =>
        refine ⟨?_, fun f b e => by cases e; exact ⟨fun _ => rfl, fun h => by cases h⟩⟩
        have := h3 rfl
        subst this
        simp [done, frozen, frozen_row]
      | false =>
        exact ⟨rfl, fun f b e => by cases e; exact ⟨(fun h => by cases h), (fun _ x q => by cases q)⟩⟩
  | l, .pair a d => by
    have hdD := fun l' => says hM l' d
    have hda := says hM l a
    unfold told means
    cases hm : markOf M (.pair a d) with
    | some wx =>
      obtain ⟨w, x⟩ := wx
      obtain ⟨e1, e2⟩ := markOf_some hm
      cases e1
      simp only
      by_cases hl : l = 1
      · subst hl
        rcases hM w e2 with rfl | rfl | rfl
        · simp only [true_and, wU_ne_wQ, ne_eq, not_false_eq_true, if_true]
          exact ⟨rfl, fun f b e => by cases e; exact ⟨(fun h => by cases h), (fun _ x q => by cases q)⟩⟩
        · simp only [true_and, wS_ne_wQ, wS_ne_wU, ne_eq, not_false_eq_true, if_true, if_false]
          exact ⟨rfl, fun f b e => by cases e⟩
        · simp only [true_and, ne_eq, not_true_eq_false, if_false, wU_ne_wQ.symm, wS_ne_wQ.symm]
          exact says_mark (hdD _)
      · simp only [hl, false_and, if_false]
        exact says_mark (hdD _)
    | none =>
      simp only
      have ⟨h1, h2⟩ := hdD l
      rw [← h1]
      cases htd : told M l d with
      | none => exact ⟨rfl, fun f b e => by cases e⟩
      | some fb =>
        obtain ⟨f, b⟩ := fb
        obtain ⟨h3, h4⟩ := h2 f b htd
        exact says_link (td := d) (t := .pair a d) (fb := (f, b)) hda (fun hb => by
          have e := h3 hb
          show done f = _
          rw [e]; rfl) (by simp [frozen])
theorem saysV {M : List Str} (hM : MarksOk M) : ∀ (l : Nat) (ts : List Thing), Says (row ts .nil) (toldV M l ts) (meansV M l ts)
  | l, [] => by
    unfold toldV meansV
    exact ⟨rfl, fun f b e => by cases e; exact ⟨fun _ => rfl, fun h => by cases h⟩⟩
  | l, a :: ts => by
    have hda := says hM l a
    have ⟨h1, h2⟩ := saysV hM l ts
    unfold toldV meansV
    rw [← h1]
    cases htd : toldV M l ts with
    | none => exact ⟨rfl, fun f b e => by cases e⟩
    | some fb =>
      obtain ⟨f, b⟩ := fb
      obtain ⟨h3, h4⟩ := h2 f b htd
      exact says_link (td := row ts .nil) (t := row (a :: ts) .nil) (fb := (f, b)) hda (fun hb => by
        have e := h3 hb
        show done f = _
        rw [e]; rfl) (by simp [frozen, row])
end
end TPlain
section TA1
structure Fn where
  params : Arguments
  body : List Stmt
  scope : PySem.Scope
  dV : Value
  kV : Value
noncomputable abbrev Fn.data (F : Fn) (name qual : Str) (doc pm : Value) (an : Option Addr) (cdv ct : Value) : FuncData := fnOf name qual F.params F.body F.scope F.dV F.kV doc pm an cdv ct

/-- a def of the text -/
structure FnIs (K : Frag) (f : Addr) (F : Fn) : Prop where
  at_ : ∃ name qual doc pm an cdv ct oc od osl, K.lookup f = some ⟨oc, od, .func (F.data name qual doc pm an cdv ct), osl⟩ ∧ codeIn K cdv qual = true
  co : F.scope.isCoroutine = false
  gen : F.scope.isGenerator = false
  kind : F.scope.kind = .function
structure AttrOk (K : Frag) (C : Addr) (name : Str) : Prop where
  plain : plainGet K C name = true
  hd : hasDictIn K C = true
  none_ : ∃ attr, findIn K (.ref C) name = some attr ∧ noGet K attr = true
structure MethOk (K : Frag) (C : Addr) (name : Str) (f : Addr) : Prop where
  plain : plainGet K C name = true
  at_ : findIn K (.ref C) name = some (some (.ref f))
  fn : isFn K (.ref f) = true
  keep : keepIn K (.ref f) = true
structure SetOk (K : Frag) (C : Addr) (name : Str) : Prop where
  set : findIn K (.ref C) "__setattr__" = some (some (.builtin "object.__setattr__"))
  plain : plainOver K C = true
  taker : takerIn K C name = some none
  hd : hasDictIn K C = true
structure GlobOk (K : Frag) (id : Str) (f : Addr) : Prop where
  at_ : nsIn K mainGlobals id = some (some (.ref f))
  keep : keepIn K (.ref f) = true
structure MakeOk (K : Frag) (C fI : Addr) : Prop where
  makes : makesIn K C = true
  init : findIn K (.ref C) "__init__" = some (some (.ref fI))
  fn : typeIn K (.ref fI) = some (.type "function")
/-- an instance of D is asked for its class -/
structure KinC (K : Frag) (D : Addr) : Prop where
  hg : plainGet K D "__class__" = true
  hd : hasDictIn K D = true
  ha : findIn K (.ref D) "__class__" = some (some (.builtin "object.__class__"))
  hn : specialIn K (.builtin "object.__class__") "__get__" = some (some (.builtin "getset_descriptor.__get__"))
  ht : takesIn K (.builtin "object.__class__") = some true
  hm : mroIn K D (.type "object") = some true
theorem kin_not_of {K : Frag} {D C : Addr} (h1 : D ≠ C) (h2 : ∃ d, clsIn K C = some d) (h3 : typeIn K (.ref C) = some (.type "type")) (h4 : subIn K (.ref D) (.ref C) = some false) : kin_not K D C = true := by
  obtain ⟨d, h2⟩ := h2
  unfold kin_not
  rw [h2, h3, h4, decide_eq_true h1]; rfl
noncomputable def nth : List Stmt → Nat → Option Stmt
  | [], _ => none
  | s :: _, 0 => some s
  | _ :: t, n + 1 => nth t n
noncomputable def fnOn : Option Stmt → Option (Arguments × List Stmt × PySem.Scope)
  | some (.FunctionDef _ a b _ _ _ sc _ _ _) => some (a, b, sc)
  | _ => none
noncomputable def fnAt (ss : List Stmt) : List Nat → Option (Arguments × List Stmt × PySem.Scope)
  | [i] => fnOn (nth ss i)
  | [i, j] => match nth ss i with
    | some (.ClassDef _ _ _ b _ _ _ _ _ _ _) => fnOn (nth b j)
    | _ => none
  | _ => none
/-- what is asked of an exception's class to store a field -/
structure ExcSet (K : Frag) (C : Addr) (name : Str) : Prop where
  set : findIn K (.ref C) "__setattr__" = some (some (.builtin "object.__setattr__"))
  cls : ∃ cd, clsIn K C = some cd ∧ cd.mro = [.ref C, .ref 203, .type "Exception", .type "BaseException", .type "object"] ∧ cd.hasDict = true
  taker : takerIn K C name = some none
/-- the exception's class, and its base's constructor -/
structure ExcOk (K : Frag) : Prop where
  cls : ∃ nm q N bs hdct sn sub ab col dd k0 k1 k2 k3 k5, K.lookup 223 = some (excClassObj nm q 223 N bs [.ref 203, .type "Exception", .type "BaseException", .type "object"] hdct sn sub ab col dd k0 k1 k2 k3 k5 "Exception.__new__")
  init : findIn K (.ref 223) "__init__" = some (some (.ref 220))
  fn : typeIn K (.ref 220) = some (.type "function")
  ga : specialIn K (.ref 203) "__getattribute__" = some (some (.builtin "type.__getattribute__"))
  reads : readsIn K 203 (.type "type") = true
  base : findCls K (.ref 203) (.type "type") "__init__" = some (.val (.ref 200))

noncomputable def fx_Symbol_init : { F : Arguments × List Stmt × PySem.Scope // fnAt PySem.Challenge.pw_nt0188_01.main.body [5, 0] = some F } := ⟨_, rfl⟩
noncomputable abbrev f_Symbol_init : Fn := ⟨fx_Symbol_init.1.1, fx_Symbol_init.1.2.1, fx_Symbol_init.1.2.2, .none, .none⟩
noncomputable def fx_SymbolTable_init : { F : Arguments × List Stmt × PySem.Scope // fnAt PySem.Challenge.pw_nt0188_01.main.body [6, 0] = some F } := ⟨_, rfl⟩
noncomputable abbrev f_SymbolTable_init : Fn := ⟨fx_SymbolTable_init.1.1, fx_SymbolTable_init.1.2.1, fx_SymbolTable_init.1.2.2, .none, .none⟩
noncomputable def fx_Pair_init : { F : Arguments × List Stmt × PySem.Scope // fnAt PySem.Challenge.pw_nt0188_01.main.body [7, 0] = some F } := ⟨_, rfl⟩
noncomputable abbrev f_Pair_init : Fn := ⟨fx_Pair_init.1.1, fx_Pair_init.1.2.1, fx_Pair_init.1.2.2, .none, .none⟩
noncomputable def fx_Vector_init : { F : Arguments × List Stmt × PySem.Scope // fnAt PySem.Challenge.pw_nt0188_01.main.body [8, 0] = some F } := ⟨_, rfl⟩
noncomputable abbrev f_Vector_init : Fn := ⟨fx_Vector_init.1.1, fx_Vector_init.1.2.1, fx_Vector_init.1.2.2, .none, .none⟩
noncomputable def fx_SchemeError_init : { F : Arguments × List Stmt × PySem.Scope // fnAt PySem.Challenge.pw_nt0188_01.main.body [12, 0] = some F } := ⟨_, rfl⟩
noncomputable abbrev f_SchemeError_init : Fn := ⟨fx_SchemeError_init.1.1, fx_SchemeError_init.1.2.1, fx_SchemeError_init.1.2.2, .none, .none⟩
noncomputable def fx_SyntaxTrouble_init : { F : Arguments × List Stmt × PySem.Scope // fnAt PySem.Challenge.pw_nt0188_01.main.body [13, 0] = some F } := ⟨_, rfl⟩
noncomputable abbrev f_SyntaxTrouble_init : Fn := ⟨fx_SyntaxTrouble_init.1.1, fx_SyntaxTrouble_init.1.2.1, fx_SyntaxTrouble_init.1.2.2, .none, .none⟩
noncomputable def fx_Alias_init : { F : Arguments × List Stmt × PySem.Scope // fnAt PySem.Challenge.pw_nt0188_01.main.body [15, 0] = some F } := ⟨_, rfl⟩
noncomputable abbrev f_Alias_init : Fn := ⟨fx_Alias_init.1.1, fx_Alias_init.1.2.1, fx_Alias_init.1.2.2, .none, .none⟩
noncomputable def fx_SpecialS_init : { F : Arguments × List Stmt × PySem.Scope // fnAt PySem.Challenge.pw_nt0188_01.main.body [16, 0] = some F } := ⟨_, rfl⟩
noncomputable abbrev f_SpecialS_init : Fn := ⟨fx_SpecialS_init.1.1, fx_SpecialS_init.1.2.1, fx_SpecialS_init.1.2.2, .none, .none⟩
noncomputable def fx_LocalName_init : { F : Arguments × List Stmt × PySem.Scope // fnAt PySem.Challenge.pw_nt0188_01.main.body [18, 0] = some F } := ⟨_, rfl⟩
noncomputable abbrev f_LocalName_init : Fn := ⟨fx_LocalName_init.1.1, fx_LocalName_init.1.2.1, fx_LocalName_init.1.2.2, .none, .none⟩
noncomputable def fx_GlobalName_init : { F : Arguments × List Stmt × PySem.Scope // fnAt PySem.Challenge.pw_nt0188_01.main.body [19, 0] = some F } := ⟨_, rfl⟩
noncomputable abbrev f_GlobalName_init : Fn := ⟨fx_GlobalName_init.1.1, fx_GlobalName_init.1.2.1, fx_GlobalName_init.1.2.2, .none, .none⟩
noncomputable def fx_Scope_init : { F : Arguments × List Stmt × PySem.Scope // fnAt PySem.Challenge.pw_nt0188_01.main.body [24, 0] = some F } := ⟨_, rfl⟩
noncomputable abbrev f_Scope_init : Fn := ⟨fx_Scope_init.1.1, fx_Scope_init.1.2.1, fx_Scope_init.1.2.2, .none, .none⟩
noncomputable def fx_Template_init : { F : Arguments × List Stmt × PySem.Scope // fnAt PySem.Challenge.pw_nt0188_01.main.body [34, 0] = some F } := ⟨_, rfl⟩
noncomputable abbrev f_Template_init : Fn := ⟨fx_Template_init.1.1, fx_Template_init.1.2.1, fx_Template_init.1.2.2, .none, .none⟩
noncomputable def fx_Names_init : { F : Arguments × List Stmt × PySem.Scope // fnAt PySem.Challenge.pw_nt0188_01.main.body [37, 0] = some F } := ⟨_, rfl⟩
noncomputable abbrev f_Names_init : Fn := ⟨fx_Names_init.1.1, fx_Names_init.1.2.1, fx_Names_init.1.2.2, .none, .none⟩
noncomputable def fx_SymbolTable_symbol : { F : Arguments × List Stmt × PySem.Scope // fnAt PySem.Challenge.pw_nt0188_01.main.body [6, 1] = some F } := ⟨_, rfl⟩
noncomputable abbrev f_SymbolTable_symbol : Fn := ⟨fx_SymbolTable_symbol.1.1, fx_SymbolTable_symbol.1.2.1, fx_SymbolTable_symbol.1.2.2, .none, .none⟩
noncomputable def fx_list_of : { F : Arguments × List Stmt × PySem.Scope // fnAt PySem.Challenge.pw_nt0188_01.main.body [9] = some F } := ⟨_, rfl⟩
noncomputable abbrev f_list_of : Fn := ⟨fx_list_of.1.1, fx_list_of.1.2.1, fx_list_of.1.2.2, .ref 172, .none⟩
noncomputable def fx_split_list : { F : Arguments × List Stmt × PySem.Scope // fnAt PySem.Challenge.pw_nt0188_01.main.body [10] = some F } := ⟨_, rfl⟩
noncomputable abbrev f_split_list : Fn := ⟨fx_split_list.1.1, fx_split_list.1.2.1, fx_split_list.1.2.2, .none, .none⟩
noncomputable def fx_is_identifier : { F : Arguments × List Stmt × PySem.Scope // fnAt PySem.Challenge.pw_nt0188_01.main.body [21] = some F } := ⟨_, rfl⟩
noncomputable abbrev f_is_identifier : Fn := ⟨fx_is_identifier.1.1, fx_is_identifier.1.2.1, fx_is_identifier.1.2.2, .none, .none⟩
noncomputable def fx_key_of : { F : Arguments × List Stmt × PySem.Scope // fnAt PySem.Challenge.pw_nt0188_01.main.body [22] = some F } := ⟨_, rfl⟩
noncomputable abbrev f_key_of : Fn := ⟨fx_key_of.1.1, fx_key_of.1.2.1, fx_key_of.1.2.2, .none, .none⟩
noncomputable def fx_root_symbol : { F : Arguments × List Stmt × PySem.Scope // fnAt PySem.Challenge.pw_nt0188_01.main.body [23] = some F } := ⟨_, rfl⟩
noncomputable abbrev f_root_symbol : Fn := ⟨fx_root_symbol.1.1, fx_root_symbol.1.2.1, fx_root_symbol.1.2.2, .none, .none⟩
noncomputable def fx_Scope_bind : { F : Arguments × List Stmt × PySem.Scope // fnAt PySem.Challenge.pw_nt0188_01.main.body [24, 1] = some F } := ⟨_, rfl⟩
noncomputable abbrev f_Scope_bind : Fn := ⟨fx_Scope_bind.1.1, fx_Scope_bind.1.2.1, fx_Scope_bind.1.2.2, .none, .none⟩
noncomputable def fx_Scope_bound : { F : Arguments × List Stmt × PySem.Scope // fnAt PySem.Challenge.pw_nt0188_01.main.body [24, 3] = some F } := ⟨_, rfl⟩
noncomputable abbrev f_Scope_bound : Fn := ⟨fx_Scope_bound.1.1, fx_Scope_bound.1.2.1, fx_Scope_bound.1.2.2, .none, .none⟩
noncomputable def fx_Scope_find : { F : Arguments × List Stmt × PySem.Scope // fnAt PySem.Challenge.pw_nt0188_01.main.body [24, 4] = some F } := ⟨_, rfl⟩
noncomputable abbrev f_Scope_find : Fn := ⟨fx_Scope_find.1.1, fx_Scope_find.1.2.1, fx_Scope_find.1.2.2, .none, .none⟩
noncomputable def fx_same_denotation : { F : Arguments × List Stmt × PySem.Scope // fnAt PySem.Challenge.pw_nt0188_01.main.body [25] = some F } := ⟨_, rfl⟩
noncomputable abbrev f_same_denotation : Fn := ⟨fx_same_denotation.1.1, fx_same_denotation.1.2.1, fx_same_denotation.1.2.2, .none, .none⟩
noncomputable def fx_same : { F : Arguments × List Stmt × PySem.Scope // fnAt PySem.Challenge.pw_nt0188_01.main.body [26] = some F } := ⟨_, rfl⟩
noncomputable abbrev f_same : Fn := ⟨fx_same.1.1, fx_same.1.2.1, fx_same.1.2.2, .none, .none⟩
noncomputable def fx_alias_of : { F : Arguments × List Stmt × PySem.Scope // fnAt PySem.Challenge.pw_nt0188_01.main.body [27] = some F } := ⟨_, rfl⟩
noncomputable abbrev f_alias_of : Fn := ⟨fx_alias_of.1.1, fx_alias_of.1.2.1, fx_alias_of.1.2.2, .none, .none⟩
noncomputable def fx_strip_take : { F : Arguments × List Stmt × PySem.Scope // fnAt PySem.Challenge.pw_nt0188_01.main.body [28] = some F } := ⟨_, rfl⟩
noncomputable abbrev f_strip_take : Fn := ⟨fx_strip_take.1.1, fx_strip_take.1.2.1, fx_strip_take.1.2.2, .none, .none⟩
noncomputable def fx_strip : { F : Arguments × List Stmt × PySem.Scope // fnAt PySem.Challenge.pw_nt0188_01.main.body [29] = some F } := ⟨_, rfl⟩
noncomputable abbrev f_strip : Fn := ⟨fx_strip.1.1, fx_strip.1.2.1, fx_strip.1.2.2, .none, .none⟩
noncomputable def fx_Template_word : { F : Arguments × List Stmt × PySem.Scope // fnAt PySem.Challenge.pw_nt0188_01.main.body [34, 1] = some F } := ⟨_, rfl⟩
noncomputable abbrev f_Template_word : Fn := ⟨fx_Template_word.1.1, fx_Template_word.1.2.1, fx_Template_word.1.2.2, .none, .none⟩
noncomputable def fx_Template_marks : { F : Arguments × List Stmt × PySem.Scope // fnAt PySem.Challenge.pw_nt0188_01.main.body [34, 2] = some F } := ⟨_, rfl⟩
noncomputable abbrev f_Template_marks : Fn := ⟨fx_Template_marks.1.1, fx_Template_marks.1.2.1, fx_Template_marks.1.2.2, .none, .none⟩
noncomputable def fx_Template_mark : { F : Arguments × List Stmt × PySem.Scope // fnAt PySem.Challenge.pw_nt0188_01.main.body [34, 3] = some F } := ⟨_, rfl⟩
noncomputable abbrev f_Template_mark : Fn := ⟨fx_Template_mark.1.1, fx_Template_mark.1.2.1, fx_Template_mark.1.2.2, .none, .none⟩
noncomputable def fx_Template_quoted : { F : Arguments × List Stmt × PySem.Scope // fnAt PySem.Challenge.pw_nt0188_01.main.body [34, 4] = some F } := ⟨_, rfl⟩
noncomputable abbrev f_Template_quoted : Fn := ⟨fx_Template_quoted.1.1, fx_Template_quoted.1.2.1, fx_Template_quoted.1.2.2, .none, .none⟩
noncomputable def fx_Template_consed : { F : Arguments × List Stmt × PySem.Scope // fnAt PySem.Challenge.pw_nt0188_01.main.body [34, 5] = some F } := ⟨_, rfl⟩
noncomputable abbrev f_Template_consed : Fn := ⟨fx_Template_consed.1.1, fx_Template_consed.1.2.1, fx_Template_consed.1.2.2, .none, .none⟩
noncomputable def fx_Template_told : { F : Arguments × List Stmt × PySem.Scope // fnAt PySem.Challenge.pw_nt0188_01.main.body [34, 6] = some F } := ⟨_, rfl⟩
noncomputable abbrev f_Template_told : Fn := ⟨fx_Template_told.1.1, fx_Template_told.1.2.1, fx_Template_told.1.2.2, .none, .none⟩
noncomputable def fx_Template_marked : { F : Arguments × List Stmt × PySem.Scope // fnAt PySem.Challenge.pw_nt0188_01.main.body [34, 7] = some F } := ⟨_, rfl⟩
noncomputable abbrev f_Template_marked : Fn := ⟨fx_Template_marked.1.1, fx_Template_marked.1.2.1, fx_Template_marked.1.2.2, .none, .none⟩
noncomputable def fx_Template_vector : { F : Arguments × List Stmt × PySem.Scope // fnAt PySem.Challenge.pw_nt0188_01.main.body [34, 8] = some F } := ⟨_, rfl⟩
noncomputable abbrev f_Template_vector : Fn := ⟨fx_Template_vector.1.1, fx_Template_vector.1.2.1, fx_Template_vector.1.2.2, .none, .none⟩
noncomputable def fx_Template_spots_of : { F : Arguments × List Stmt × PySem.Scope // fnAt PySem.Challenge.pw_nt0188_01.main.body [34, 9] = some F } := ⟨_, rfl⟩
noncomputable abbrev f_Template_spots_of : Fn := ⟨fx_Template_spots_of.1.1, fx_Template_spots_of.1.2.1, fx_Template_spots_of.1.2.2, .none, .none⟩
noncomputable def fx_Template_spots : { F : Arguments × List Stmt × PySem.Scope // fnAt PySem.Challenge.pw_nt0188_01.main.body [34, 10] = some F } := ⟨_, rfl⟩
noncomputable abbrev f_Template_spots : Fn := ⟨fx_Template_spots.1.1, fx_Template_spots.1.2.1, fx_Template_spots.1.2.2, .none, .none⟩
noncomputable def fx_Template_row : { F : Arguments × List Stmt × PySem.Scope // fnAt PySem.Challenge.pw_nt0188_01.main.body [34, 11] = some F } := ⟨_, rfl⟩
noncomputable abbrev f_Template_row : Fn := ⟨fx_Template_row.1.1, fx_Template_row.1.2.1, fx_Template_row.1.2.2, .none, .none⟩
noncomputable def fx_Template_chained : { F : Arguments × List Stmt × PySem.Scope // fnAt PySem.Challenge.pw_nt0188_01.main.body [34, 12] = some F } := ⟨_, rfl⟩
noncomputable abbrev f_Template_chained : Fn := ⟨fx_Template_chained.1.1, fx_Template_chained.1.2.1, fx_Template_chained.1.2.2, .none, .none⟩
noncomputable def fx_quasi : { F : Arguments × List Stmt × PySem.Scope // fnAt PySem.Challenge.pw_nt0188_01.main.body [35] = some F } := ⟨_, rfl⟩
noncomputable abbrev f_quasi : Fn := ⟨fx_quasi.1.1, fx_quasi.1.2.1, fx_quasi.1.2.2, .none, .none⟩
noncomputable def fx_Names_fresh : { F : Arguments × List Stmt × PySem.Scope // fnAt PySem.Challenge.pw_nt0188_01.main.body [37, 1] = some F } := ⟨_, rfl⟩
noncomputable abbrev f_Names_fresh : Fn := ⟨fx_Names_fresh.1.1, fx_Names_fresh.1.2.1, fx_Names_fresh.1.2.2, .none, .none⟩
noncomputable def fx_law_deck : { F : Arguments × List Stmt × PySem.Scope // fnAt PySem.Challenge.pw_nt0188_01.main.body [39] = some F } := ⟨_, rfl⟩
noncomputable abbrev f_law_deck : Fn := ⟨fx_law_deck.1.1, fx_law_deck.1.2.1, fx_law_deck.1.2.2, .none, .none⟩
noncomputable def fx_law_draw : { F : Arguments × List Stmt × PySem.Scope // fnAt PySem.Challenge.pw_nt0188_01.main.body [40] = some F } := ⟨_, rfl⟩
noncomputable abbrev f_law_draw : Fn := ⟨fx_law_draw.1.1, fx_law_draw.1.2.1, fx_law_draw.1.2.2, .none, .none⟩
noncomputable def fx_law_row : { F : Arguments × List Stmt × PySem.Scope // fnAt PySem.Challenge.pw_nt0188_01.main.body [41] = some F } := ⟨_, rfl⟩
noncomputable abbrev f_law_row : Fn := ⟨fx_law_row.1.1, fx_law_row.1.2.1, fx_law_row.1.2.2, .none, .none⟩
noncomputable def fx_law_atom : { F : Arguments × List Stmt × PySem.Scope // fnAt PySem.Challenge.pw_nt0188_01.main.body [42] = some F } := ⟨_, rfl⟩
noncomputable abbrev f_law_atom : Fn := ⟨fx_law_atom.1.1, fx_law_atom.1.2.1, fx_law_atom.1.2.2, .none, .none⟩
noncomputable def fx_law_mark : { F : Arguments × List Stmt × PySem.Scope // fnAt PySem.Challenge.pw_nt0188_01.main.body [43] = some F } := ⟨_, rfl⟩
noncomputable abbrev f_law_mark : Fn := ⟨fx_law_mark.1.1, fx_law_mark.1.2.1, fx_law_mark.1.2.2, .none, .none⟩
noncomputable def fx_law_template : { F : Arguments × List Stmt × PySem.Scope // fnAt PySem.Challenge.pw_nt0188_01.main.body [44] = some F } := ⟨_, rfl⟩
noncomputable abbrev f_law_template : Fn := ⟨fx_law_template.1.1, fx_law_template.1.2.1, fx_law_template.1.2.2, .none, .none⟩
noncomputable def fx_law_datum : { F : Arguments × List Stmt × PySem.Scope // fnAt PySem.Challenge.pw_nt0188_01.main.body [45] = some F } := ⟨_, rfl⟩
noncomputable abbrev f_law_datum : Fn := ⟨fx_law_datum.1.1, fx_law_datum.1.2.1, fx_law_datum.1.2.2, .none, .none⟩
noncomputable def fx_law_back : { F : Arguments × List Stmt × PySem.Scope // fnAt PySem.Challenge.pw_nt0188_01.main.body [46] = some F } := ⟨_, rfl⟩
noncomputable abbrev f_law_back : Fn := ⟨fx_law_back.1.1, fx_law_back.1.2.1, fx_law_back.1.2.2, .none, .none⟩
noncomputable def fx_law_hole : { F : Arguments × List Stmt × PySem.Scope // fnAt PySem.Challenge.pw_nt0188_01.main.body [47] = some F } := ⟨_, rfl⟩
noncomputable abbrev f_law_hole : Fn := ⟨fx_law_hole.1.1, fx_law_hole.1.2.1, fx_law_hole.1.2.2, .none, .none⟩
noncomputable def fx_law_joined : { F : Arguments × List Stmt × PySem.Scope // fnAt PySem.Challenge.pw_nt0188_01.main.body [48] = some F } := ⟨_, rfl⟩
noncomputable abbrev f_law_joined : Fn := ⟨fx_law_joined.1.1, fx_law_joined.1.2.1, fx_law_joined.1.2.2, .none, .none⟩
noncomputable def fx_law_word : { F : Arguments × List Stmt × PySem.Scope // fnAt PySem.Challenge.pw_nt0188_01.main.body [49] = some F } := ⟨_, rfl⟩
noncomputable abbrev f_law_word : Fn := ⟨fx_law_word.1.1, fx_law_word.1.2.1, fx_law_word.1.2.2, .none, .none⟩
noncomputable def fx_law_means : { F : Arguments × List Stmt × PySem.Scope // fnAt PySem.Challenge.pw_nt0188_01.main.body [50] = some F } := ⟨_, rfl⟩
noncomputable abbrev f_law_means : Fn := ⟨fx_law_means.1.1, fx_law_means.1.2.1, fx_law_means.1.2.2, .none, .none⟩
noncomputable def fx_law_next : { F : Arguments × List Stmt × PySem.Scope // fnAt PySem.Challenge.pw_nt0188_01.main.body [51] = some F } := ⟨_, rfl⟩
noncomputable abbrev f_law_next : Fn := ⟨fx_law_next.1.1, fx_law_next.1.2.1, fx_law_next.1.2.2, .none, .none⟩
noncomputable def fx_law_vector : { F : Arguments × List Stmt × PySem.Scope // fnAt PySem.Challenge.pw_nt0188_01.main.body [52] = some F } := ⟨_, rfl⟩
noncomputable abbrev f_law_vector : Fn := ⟨fx_law_vector.1.1, fx_law_vector.1.2.1, fx_law_vector.1.2.2, .none, .none⟩
noncomputable def fx_law_done : { F : Arguments × List Stmt × PySem.Scope // fnAt PySem.Challenge.pw_nt0188_01.main.body [53] = some F } := ⟨_, rfl⟩
noncomputable abbrev f_law_done : Fn := ⟨fx_law_done.1.1, fx_law_done.1.2.1, fx_law_done.1.2.2, .none, .none⟩
noncomputable def fx_law_frozen : { F : Arguments × List Stmt × PySem.Scope // fnAt PySem.Challenge.pw_nt0188_01.main.body [54] = some F } := ⟨_, rfl⟩
noncomputable abbrev f_law_frozen : Fn := ⟨fx_law_frozen.1.1, fx_law_frozen.1.2.1, fx_law_frozen.1.2.2, .none, .none⟩
noncomputable def fx_law_world : { F : Arguments × List Stmt × PySem.Scope // fnAt PySem.Challenge.pw_nt0188_01.main.body [55] = some F } := ⟨_, rfl⟩
noncomputable abbrev f_law_world : Fn := ⟨fx_law_world.1.1, fx_law_world.1.2.1, fx_law_world.1.2.2, .none, .none⟩
structure Facts (K : Frag) : Prop where
  is_Symbol_init : FnIs K 59 f_Symbol_init
  is_SymbolTable_init : FnIs K 80 f_SymbolTable_init
  is_Pair_init : FnIs K 143 f_Pair_init
  is_Vector_init : FnIs K 164 f_Vector_init
  is_SchemeError_init : FnIs K 200 f_SchemeError_init
  is_SyntaxTrouble_init : FnIs K 220 f_SyntaxTrouble_init
  is_Alias_init : FnIs K 239 f_Alias_init
  is_SpecialS_init : FnIs K 260 f_SpecialS_init
  is_LocalName_init : FnIs K 281 f_LocalName_init
  is_GlobalName_init : FnIs K 302 f_GlobalName_init
  is_Scope_init : FnIs K 365 f_Scope_init
  is_Template_init : FnIs K 463 f_Template_init
  is_Names_init : FnIs K 575 f_Names_init
  is_SymbolTable_symbol : FnIs K 87 f_SymbolTable_symbol
  is_list_of : FnIs K 179 f_list_of
  is_split_list : FnIs K 186 f_split_list
  is_is_identifier : FnIs K 337 f_is_identifier
  is_key_of : FnIs K 344 f_key_of
  is_root_symbol : FnIs K 351 f_root_symbol
  is_Scope_bind : FnIs K 372 f_Scope_bind
  is_Scope_bound : FnIs K 386 f_Scope_bound
  is_Scope_find : FnIs K 393 f_Scope_find
  is_same_denotation : FnIs K 421 f_same_denotation
  is_same : FnIs K 428 f_same
  is_alias_of : FnIs K 435 f_alias_of
  is_strip_take : FnIs K 442 f_strip_take
  is_strip : FnIs K 449 f_strip
  is_Template_word : FnIs K 470 f_Template_word
  is_Template_marks : FnIs K 477 f_Template_marks
  is_Template_mark : FnIs K 484 f_Template_mark
  is_Template_quoted : FnIs K 491 f_Template_quoted
  is_Template_consed : FnIs K 498 f_Template_consed
  is_Template_told : FnIs K 505 f_Template_told
  is_Template_marked : FnIs K 512 f_Template_marked
  is_Template_vector : FnIs K 519 f_Template_vector
  is_Template_spots_of : FnIs K 526 f_Template_spots_of
  is_Template_spots : FnIs K 533 f_Template_spots
  is_Template_row : FnIs K 540 f_Template_row
  is_Template_chained : FnIs K 547 f_Template_chained
  is_quasi : FnIs K 561 f_quasi
  is_Names_fresh : FnIs K 582 f_Names_fresh
  is_law_deck : FnIs K 650 f_law_deck
  is_law_draw : FnIs K 657 f_law_draw
  is_law_row : FnIs K 664 f_law_row
  is_law_atom : FnIs K 671 f_law_atom
  is_law_mark : FnIs K 678 f_law_mark
  is_law_template : FnIs K 683 f_law_template
  is_law_datum : FnIs K 688 f_law_datum
  is_law_back : FnIs K 693 f_law_back
  is_law_hole : FnIs K 700 f_law_hole
  is_law_joined : FnIs K 707 f_law_joined
  is_law_word : FnIs K 712 f_law_word
  is_law_means : FnIs K 719 f_law_means
  is_law_next : FnIs K 726 f_law_next
  is_law_vector : FnIs K 733 f_law_vector
  is_law_done : FnIs K 738 f_law_done
  is_law_frozen : FnIs K 743 f_law_frozen
  is_law_world : FnIs K 750 f_law_world
  g_list_of : GlobOk K "list_of" 179
  g_split_list : GlobOk K "split_list" 186
  g_is_identifier : GlobOk K "is_identifier" 337
  g_key_of : GlobOk K "key_of" 344
  g_root_symbol : GlobOk K "root_symbol" 351
  g_same_denotation : GlobOk K "same_denotation" 421
  g_same : GlobOk K "same" 428
  g_alias_of : GlobOk K "alias_of" 435
  g_strip_take : GlobOk K "strip_take" 442
  g_strip : GlobOk K "strip" 449
  g_quasi : GlobOk K "quasi" 561
  g_law_deck : GlobOk K "_law_deck" 650
  g_law_draw : GlobOk K "_law_draw" 657
  g_law_row : GlobOk K "_law_row" 664
  g_law_atom : GlobOk K "_law_atom" 671
  g_law_mark : GlobOk K "_law_mark" 678
  g_law_template : GlobOk K "_law_template" 683
  g_law_datum : GlobOk K "_law_datum" 688
  g_law_back : GlobOk K "_law_back" 693
  g_law_hole : GlobOk K "_law_hole" 700
  g_law_joined : GlobOk K "_law_joined" 707
  g_law_word : GlobOk K "_law_word" 712
  g_law_means : GlobOk K "_law_means" 719
  g_law_next : GlobOk K "_law_next" 726
  g_law_vector : GlobOk K "_law_vector" 733
  g_law_done : GlobOk K "_law_done" 738
  g_law_frozen : GlobOk K "_law_frozen" 743
  g_law_world : GlobOk K "_law_world" 750
  g_Pair : GlobOk K "Pair" 146
  g_Vector : GlobOk K "Vector" 167
  g_Symbol : GlobOk K "Symbol" 62
  g_SymbolTable : GlobOk K "SymbolTable" 125
  g_SyntaxTrouble : GlobOk K "SyntaxTrouble" 223
  g_Alias : GlobOk K "Alias" 242
  g_LocalName : GlobOk K "LocalName" 284
  g_GlobalName : GlobOk K "GlobalName" 305
  g_Macro : GlobOk K "Macro" 326
  g_Scope : GlobOk K "Scope" 410
  g_Template : GlobOk K "Template" 550
  g_Names : GlobOk K "Names" 641
  g_SchemeError : GlobOk K "SchemeError" 203
  g_Special_scopes : GlobOk K "Special_scopes" 263
  g_EMPTY : nsIn K mainGlobals "EMPTY" = some (some (.ref 44))
  b_isinstance : nsIn K mainGlobals "isinstance" = some none
  b_len : nsIn K mainGlobals "len" = some none
  b_range : nsIn K mainGlobals "range" = some none
  b_abs : nsIn K mainGlobals "abs" = some none
  b_repr : nsIn K mainGlobals "repr" = some none
  b_tuple : nsIn K mainGlobals "tuple" = some none
  g_UNQUOTE : ∃ t, nsIn K mainGlobals "UNQUOTE" = some (some (.str "unquote" t))
  g_SPLICE : ∃ t, nsIn K mainGlobals "SPLICE" = some (some (.str "unquote-splicing" t))
  g_QUASIQUOTE : ∃ t, nsIn K mainGlobals "QUASIQUOTE" = some (some (.str "quasiquote" t))
  a_Symbol_number : AttrOk K 62 "number"
  s_Symbol_number : SetOk K 62 "number"
  a_Symbol_text : AttrOk K 62 "text"
  s_Symbol_text : SetOk K 62 "text"
  a_SymbolTable_rows : AttrOk K 125 "rows"
  s_SymbolTable_rows : SetOk K 125 "rows"
  a_SymbolTable_by_text : AttrOk K 125 "by_text"
  s_SymbolTable_by_text : SetOk K 125 "by_text"
  a_Pair_car : AttrOk K 146 "car"
  s_Pair_car : SetOk K 146 "car"
  a_Pair_cdr : AttrOk K 146 "cdr"
  s_Pair_cdr : SetOk K 146 "cdr"
  a_Vector_things : AttrOk K 167 "things"
  s_Vector_things : SetOk K 167 "things"
  a_Alias_number : AttrOk K 242 "number"
  s_Alias_number : SetOk K 242 "number"
  a_Alias_base : AttrOk K 242 "base"
  s_Alias_base : SetOk K 242 "base"
  a_Alias_scope : AttrOk K 242 "scope"
  s_Alias_scope : SetOk K 242 "scope"
  a_SpecialS_word : AttrOk K 263 "word"
  s_SpecialS_word : SetOk K 263 "word"
  a_LocalName_number : AttrOk K 284 "number"
  s_LocalName_number : SetOk K 284 "number"
  a_LocalName_title : AttrOk K 284 "title"
  s_LocalName_title : SetOk K 284 "title"
  a_GlobalName_symbol : AttrOk K 305 "symbol"
  s_GlobalName_symbol : SetOk K 305 "symbol"
  a_Scope_parent : AttrOk K 410 "parent"
  s_Scope_parent : SetOk K 410 "parent"
  a_Scope_names : AttrOk K 410 "names"
  s_Scope_names : SetOk K 410 "names"
  a_Template_scope : AttrOk K 550 "scope"
  s_Template_scope : SetOk K 550 "scope"
  a_Template_world : AttrOk K 550 "world"
  s_Template_world : SetOk K 550 "world"
  a_Names_table : AttrOk K 641 "table"
  s_Names_table : SetOk K 641 "table"
  a_Names_last : AttrOk K 641 "last"
  s_Names_last : SetOk K 641 "last"
  a_Names_titles : AttrOk K 641 "titles"
  s_Names_titles : SetOk K 641 "titles"
  a_Names_ops : AttrOk K 641 "ops"
  s_Names_ops : SetOk K 641 "ops"
  a_Names_root : AttrOk K 641 "root"
  s_Names_root : SetOk K 641 "root"
  m_SymbolTable_symbol : MethOk K 125 "symbol" 87
  m_Scope_bind : MethOk K 410 "bind" 372
  m_Scope_bound : MethOk K 410 "bound" 386
  m_Scope_find : MethOk K 410 "find" 393
  m_Template_word : MethOk K 550 "word" 470
  m_Template_marks : MethOk K 550 "marks" 477
  m_Template_mark : MethOk K 550 "mark" 484
  m_Template_quoted : MethOk K 550 "quoted" 491
  m_Template_consed : MethOk K 550 "consed" 498
  m_Template_told : MethOk K 550 "told" 505
  m_Template_marked : MethOk K 550 "marked" 512
  m_Template_vector : MethOk K 550 "vector" 519
  m_Template_spots_of : MethOk K 550 "spots_of" 526
  m_Template_spots : MethOk K 550 "spots" 533
  m_Template_row : MethOk K 550 "row" 540
  m_Template_chained : MethOk K 550 "chained" 547
  m_Names_fresh : MethOk K 641 "fresh" 582
  mk_Symbol : MakeOk K 62 59
  mk_SymbolTable : MakeOk K 125 80
  mk_Pair : MakeOk K 146 143
  mk_Vector : MakeOk K 167 164
  mk_Alias : MakeOk K 242 239
  mk_LocalName : MakeOk K 284 281
  mk_GlobalName : MakeOk K 305 302
  mk_Scope : MakeOk K 410 365
  mk_Template : MakeOk K 550 463
  mk_Names : MakeOk K 641 575
  mk_SpecialS : MakeOk K 263 260
  isi_Pair : isIn K (.ref 146) 146 = true
  isi_Vector : isIn K (.ref 167) 167 = true
  isi_Symbol : isIn K (.ref 62) 62 = true
  isi_Alias : isIn K (.ref 242) 242 = true
  isi_SpecialS : isIn K (.ref 263) 263 = true
  isi_LocalName : isIn K (.ref 284) 284 = true
  isi_GlobalName : isIn K (.ref 305) 305 = true
  kc_Pair : KinC K 146
  kc_Vector : KinC K 167
  kc_Symbol : KinC K 62
  kc_Alias : KinC K 242
  kc_SpecialS : KinC K 263
  kc_LocalName : KinC K 284
  kc_GlobalName : KinC K 305
  kc_SpecialD : KinC K 38
  no_Pair_Vector : kin_not K 146 167 = true
  no_Pair_Symbol : kin_not K 146 62 = true
  no_Pair_Alias : kin_not K 146 242 = true
  no_Vector_Pair : kin_not K 167 146 = true
  no_Vector_Symbol : kin_not K 167 62 = true
  no_Vector_Alias : kin_not K 167 242 = true
  no_Symbol_Pair : kin_not K 62 146 = true
  no_Symbol_Vector : kin_not K 62 167 = true
  no_Symbol_Alias : kin_not K 62 242 = true
  no_SpecialD_Pair : kin_not K 38 146 = true
  no_SpecialD_Vector : kin_not K 38 167 = true
  no_SpecialD_Symbol : kin_not K 38 62 = true
  no_SpecialD_Alias : kin_not K 38 242 = true
  no_SpecialS_LocalName : kin_not K 263 284 = true
  no_SpecialS_GlobalName : kin_not K 263 305 = true
  no_SpecialS_Macro : kin_not K 263 326 = true
  no_LocalName_SpecialS : kin_not K 284 263 = true
  no_LocalName_GlobalName : kin_not K 284 305 = true
  no_LocalName_Macro : kin_not K 284 326 = true
  no_GlobalName_SpecialS : kin_not K 305 263 = true
  no_GlobalName_LocalName : kin_not K 305 284 = true
  no_GlobalName_Macro : kin_not K 305 326 = true
  no_Alias_Symbol : kin_not K 242 62 = true
  no_Alias_Pair : kin_not K 242 146 = true
  no_Alias_Vector : kin_not K 242 167 = true
  n_int_Pair : isNotIn K "int" 146 = true
  n_int_Vector : isNotIn K "int" 167 = true
  n_int_Symbol : isNotIn K "int" 62 = true
  n_int_Alias : isNotIn K "int" 242 = true
  EMPTY : ∃ es n, K.lookup 44 = some (instObj 38 43) ∧ K.lookup 43 = some (dictOf es n)
  nones : K.lookup 172 = some { cls := .type "tuple", data := .seq #[.ref 44] }
  exc : ExcOk K
  x_word : ExcSet K 223 "word"
  x_irritants : ExcSet K 223 "irritants"
  x_reason : ExcSet K 223 "reason"
  x_datum : ExcSet K 223 "datum"
end TA1
section TC1
/-! one-constructor forms of exists .. and ..: their proofs stay small -/
inductive And3 (p1 p2 p3 : Prop) : Prop | mk (_ : p1) (_ : p2) (_ : p3) : And3 p1 p2 p3
inductive And4 (p1 p2 p3 p4 : Prop) : Prop | mk (_ : p1) (_ : p2) (_ : p3) (_ : p4) : And4 p1 p2 p3 p4
inductive And5 (p1 p2 p3 p4 p5 : Prop) : Prop | mk (_ : p1) (_ : p2) (_ : p3) (_ : p4) (_ : p5) : And5 p1 p2 p3 p4 p5
inductive And6 (p1 p2 p3 p4 p5 p6 : Prop) : Prop | mk (_ : p1) (_ : p2) (_ : p3) (_ : p4) (_ : p5) (_ : p6) : And6 p1 p2 p3 p4 p5 p6
inductive And7 (p1 p2 p3 p4 p5 p6 p7 : Prop) : Prop | mk (_ : p1) (_ : p2) (_ : p3) (_ : p4) (_ : p5) (_ : p6) (_ : p7) : And7 p1 p2 p3 p4 p5 p6 p7
inductive And8 (p1 p2 p3 p4 p5 p6 p7 p8 : Prop) : Prop | mk (_ : p1) (_ : p2) (_ : p3) (_ : p4) (_ : p5) (_ : p6) (_ : p7) (_ : p8) : And8 p1 p2 p3 p4 p5 p6 p7 p8
inductive And9 (p1 p2 p3 p4 p5 p6 p7 p8 p9 : Prop) : Prop | mk (_ : p1) (_ : p2) (_ : p3) (_ : p4) (_ : p5) (_ : p6) (_ : p7) (_ : p8) (_ : p9) : And9 p1 p2 p3 p4 p5 p6 p7 p8 p9
inductive And10 (p1 p2 p3 p4 p5 p6 p7 p8 p9 p10 : Prop) : Prop | mk (_ : p1) (_ : p2) (_ : p3) (_ : p4) (_ : p5) (_ : p6) (_ : p7) (_ : p8) (_ : p9) (_ : p10) : And10 p1 p2 p3 p4 p5 p6 p7 p8 p9 p10
inductive And11 (p1 p2 p3 p4 p5 p6 p7 p8 p9 p10 p11 : Prop) : Prop | mk (_ : p1) (_ : p2) (_ : p3) (_ : p4) (_ : p5) (_ : p6) (_ : p7) (_ : p8) (_ : p9) (_ : p10) (_ : p11) : And11 p1 p2 p3 p4 p5 p6 p7 p8 p9 p10 p11
inductive And12 (p1 p2 p3 p4 p5 p6 p7 p8 p9 p10 p11 p12 : Prop) : Prop | mk (_ : p1) (_ : p2) (_ : p3) (_ : p4) (_ : p5) (_ : p6) (_ : p7) (_ : p8) (_ : p9) (_ : p10) (_ : p11) (_ : p12) : And12 p1 p2 p3 p4 p5 p6 p7 p8 p9 p10 p11 p12
inductive Ex1.{u1} {α1 : Sort u1} (p : α1 → Prop) : Prop | mk (x1 : α1) (h : p x1) : Ex1 p
inductive Ex2.{u1,u2} {α1 : Sort u1} {α2 : Sort u2} (p : α1 → α2 → Prop) : Prop | mk (x1 : α1) (x2 : α2) (h : p x1 x2) : Ex2 p
inductive Ex3.{u1,u2,u3} {α1 : Sort u1} {α2 : Sort u2} {α3 : Sort u3} (p : α1 → α2 → α3 → Prop) : Prop | mk (x1 : α1) (x2 : α2) (x3 : α3) (h : p x1 x2 x3) : Ex3 p
inductive Ex4.{u1,u2,u3,u4} {α1 : Sort u1} {α2 : Sort u2} {α3 : Sort u3} {α4 : Sort u4} (p : α1 → α2 → α3 → α4 → Prop) : Prop | mk (x1 : α1) (x2 : α2) (x3 : α3) (x4 : α4) (h : p x1 x2 x3 x4) : Ex4 p
inductive Ex5.{u1,u2,u3,u4,u5} {α1 : Sort u1} {α2 : Sort u2} {α3 : Sort u3} {α4 : Sort u4} {α5 : Sort u5} (p : α1 → α2 → α3 → α4 → α5 → Prop) : Prop | mk (x1 : α1) (x2 : α2) (x3 : α3) (x4 : α4) (x5 : α5) (h : p x1 x2 x3 x4 x5) : Ex5 p
inductive Ex6.{u1,u2,u3,u4,u5,u6} {α1 : Sort u1} {α2 : Sort u2} {α3 : Sort u3} {α4 : Sort u4} {α5 : Sort u5} {α6 : Sort u6} (p : α1 → α2 → α3 → α4 → α5 → α6 → Prop) : Prop | mk (x1 : α1) (x2 : α2) (x3 : α3) (x4 : α4) (x5 : α5) (x6 : α6) (h : p x1 x2 x3 x4 x5 x6) : Ex6 p
inductive Ex7.{u1,u2,u3,u4,u5,u6,u7} {α1 : Sort u1} {α2 : Sort u2} {α3 : Sort u3} {α4 : Sort u4} {α5 : Sort u5} {α6 : Sort u6} {α7 : Sort u7} (p : α1 → α2 → α3 → α4 → α5 → α6 → α7 → Prop) : Prop | mk (x1 : α1) (x2 : α2) (x3 : α3) (x4 : α4) (x5 : α5) (x6 : α6) (x7 : α7) (h : p x1 x2 x3 x4 x5 x6 x7) : Ex7 p
inductive Ex8.{u1,u2,u3,u4,u5,u6,u7,u8} {α1 : Sort u1} {α2 : Sort u2} {α3 : Sort u3} {α4 : Sort u4} {α5 : Sort u5} {α6 : Sort u6} {α7 : Sort u7} {α8 : Sort u8} (p : α1 → α2 → α3 → α4 → α5 → α6 → α7 → α8 → Prop) : Prop | mk (x1 : α1) (x2 : α2) (x3 : α3) (x4 : α4) (x5 : α5) (x6 : α6) (x7 : α7) (x8 : α8) (h : p x1 x2 x3 x4 x5 x6 x7 x8) : Ex8 p


noncomputable abbrev View := Addr → Obj → Prop
noncomputable abbrev Led := List (Addr × (Obj → Prop))
noncomputable def View.le (P P' : View) : Prop := ∀ a o, P a o → P' a o
noncomputable def View.add (P : View) (a : Addr) (o : Obj) : View := fun b q => P b q ∨ (b = a ∧ q = o)
theorem View.le.refl (P : View) : P.le P := fun _ _ h => h
theorem View.le.trans {P P' P'' : View} (h : P.le P') (k : P'.le P'') : P.le P'' := fun a o x => k a o (h a o x)
theorem View.le_add (P : View) (a : Addr) (o : Obj) : P.le (P.add a o) := fun _ _ h => .inl h
theorem View.add_self (P : View) (a : Addr) (o : Obj) : (P.add a o) a o := .inr ⟨rfl, rfl⟩

/-- what stands at the call's start -/
structure Top0 (K : Frag) (g : Heap) : Prop where
  K : K.In g
  gl : ∃ mg, g.Ns mainGlobals mg
  b : Ex1 fun mb => g.Ns builtinsNs mb ∧ ∀ x : Str, x ≠ "__name__" → mb x = bootBuiltins x
  nolimit : g.NoLimit
structure Cx where
  prog : Program
  w : World
  K : Frag
  fx : Facts K
  g : Heap
  r : Shared
  top : Top0 K g
noncomputable abbrev Cx.M (c : Cx) : Model := model c.prog c.w

/-- a state of a def's frame: P what stands for good, C what other frames hold, L and m the frame's own locals, mu the objects that may turn -/
structure St (c : Cx) (P C : View) (L : Addr) (m : Str → Option Value) (mu : Led) (s : Shared) : Prop where
  ns : s.heap.Ns L m
  keep : ∀ a o, P a o → s.heap.get? a = some o
  kep : ∀ a o, C a o → s.heap.get? a = some o
  base : ∀ a o, c.g.get? a = some o → P a o
  mus : ∀ p ∈ mu, Ex1 fun o => s.heap.get? p.1 = some o ∧ p.2 o
  offL : ∀ o, ¬ P L o
  offmu : ∀ p ∈ mu, ∀ o, ¬ P p.1 o
  offC : ∀ a o, C a o → (∀ o', ¬ P a o') ∧ a ≠ L ∧ ∀ p ∈ mu, p.1 ≠ a
  muL : ∀ p ∈ mu, p.1 ≠ L
  nodup : (mu.map (·.1)).Nodup
  rest : s.gens = c.r.gens ∧ s.drawn = c.r.drawn ∧ s.os = c.r.os

section
variable {c : Cx} {P P' C : View} {L a : Addr} {m m' : Str → Option Value} {mu mu' : Led} {s s' : Shared} {φ φ' : Obj → Prop} {o : Obj}

theorem St.stays (S : St c P C L m mu s) : ∀ b o, c.g.get? b = some o → s.heap.get? b = some o := fun b o h => S.keep _ _ (S.base b o h)
theorem St.K (S : St c P C L m mu s) : c.K.In s.heap := c.top.K.keeps S.stays
theorem St.nolimit (S : St c P C L m mu s) : s.heap.NoLimit := c.top.nolimit.keeps S.stays
theorem St.lt (S : St c P C L m mu s) {a : Addr} {o : Obj} (h : P a o) : a < s.heap.objs.size := Heap.lt_size (S.keep a o h)
theorem St.fresh (S : St c P C L m mu s) : s.heap.objs.size ≠ L ∧ (∀ o, ¬ P s.heap.objs.size o) ∧ (∀ p ∈ mu, p.1 ≠ s.heap.objs.size) ∧ ∀ o, ¬ C s.heap.objs.size o := by
  obtain ⟨oL, _, _, hL, _⟩ := S.ns
  refine ⟨Nat.ne_of_gt (Heap.lt_size hL), fun o h => Nat.lt_irrefl _ (S.lt h), fun p hp e => ?_, fun o h => Nat.lt_irrefl _ (Heap.lt_size (S.kep _ _ h))⟩
  obtain ⟨o, ho, _⟩ := S.mus p hp
  rw [e] at ho
  exact Nat.lt_irrefl _ (Heap.lt_size ho)

/-- the heap has grown alone -/
theorem St.grow (S : St c P C L m mu s) {h' : Heap} {tk : Nat} (hk : ∀ b o, s.heap.get? b = some o → h'.get? b = some o) : St c P C L m mu { s with heap := h', toks := tk } :=
  ⟨S.ns.keeps hk, fun a o h => hk _ _ (S.keep a o h), fun a o h => hk _ _ (S.kep a o h), S.base, fun p hp => let ⟨o, ho, q⟩ := S.mus p hp; ⟨o, hk _ _ ho, q⟩, S.offL, S.offmu, S.offC, S.muL, S.nodup, S.rest⟩
theorem St.toks (S : St c P C L m mu s) (tk : Nat) : St c P C L m mu { s with toks := tk } := S.grow (h' := s.heap) fun _ _ e => e

theorem St.store (S : St c P C L m mu s) {h' : Heap} {tk : Nat} (hn : h'.Ns L m') (hs : Heap.SameBut L s.heap h') : St c P C L m' mu { s with heap := h', toks := tk } :=
  ⟨hn, fun a o h => (hs.2 a fun e => S.offL o (e ▸ h)).trans (S.keep a o h), fun a o h => (hs.2 a (S.offC a o h).2.1).trans (S.kep a o h), S.base,
    fun p hp => let ⟨o, ho, q⟩ := S.mus p hp; ⟨o, (hs.2 _ (S.muL p hp)).trans ho, q⟩, S.offL, S.offmu, S.offC, S.muL, S.nodup, S.rest⟩

/-- a new object that may turn -/
theorem St.pushMu (S : St c P C L m mu s) {h' : Heap} {tk : Nat} (ha : s.heap.get? a = none) (hk : ∀ b o, s.heap.get? b = some o → h'.get? b = some o) (ho : h'.get? a = some o) (q : φ o) :
    St c P C L m ((a, φ) :: mu) { s with heap := h', toks := tk } := by
  have hP : ∀ o, ¬ P a o := fun o h => by have := S.keep a o h; rw [ha] at this; cases this
  have hC : ∀ o, ¬ C a o := fun o h => by have := S.kep a o h; rw [ha] at this; cases this
  have hL : a ≠ L := by rintro rfl; obtain ⟨_, _, _, hL, _⟩ := S.ns; rw [ha] at hL; cases hL
  have hm : ∀ p ∈ mu, p.1 ≠ a := fun p hp e => by obtain ⟨o, ho, _⟩ := S.mus p hp; rw [e, ha] at ho; cases ho
  have S' := S.grow (tk := tk) hk
  refine ⟨S'.ns, S'.keep, S'.kep, S'.base, fun p hp => ?_, S'.offL, fun p hp => ?_, fun b o h => ⟨(S.offC b o h).1, (S.offC b o h).2.1, fun p hp => ?_⟩, fun p hp => ?_, ?_, S'.rest⟩
  · rcases List.mem_cons.mp hp with rfl | hp
    · exact ⟨o, ho, q⟩
    · exact S'.mus p hp
  · rcases List.mem_cons.mp hp with rfl | hp
    · exact hP
    · exact S.offmu p hp
  · rcases List.mem_cons.mp hp with rfl | hp
    · rintro rfl; exact hC _ h
    · exact (S.offC b o h).2.2 p hp
  · rcases List.mem_cons.mp hp with rfl | hp
    · exact hL
    · exact S.muL p hp
  · refine List.nodup_cons.mpr ⟨fun h => ?_, S.nodup⟩
    obtain ⟨p, hp, e⟩ := List.mem_map.mp h
    exact hm p hp e

/-- the first of the objects that may turn has turned -/
theorem St.turn (S : St c P C L m ((a, φ) :: mu) s) {h' : Heap} {tk : Nat} (hs : Heap.SameBut a s.heap h') (ho : h'.get? a = some o) (q : φ' o) :
    St c P C L m ((a, φ') :: mu) { s with heap := h', toks := tk } := by
  have hm : ∀ p ∈ mu, p.1 ≠ a := fun p hp e => (List.nodup_cons.mp S.nodup).1 (List.mem_map.mpr ⟨p, hp, e⟩)
  refine ⟨S.ns.sameBut hs (Ne.symm (S.muL (a, φ) (.head _))), fun b o h => (hs.2 b fun e => S.offmu (a, φ) (.head _) o (e ▸ h)).trans (S.keep b o h),
    fun b o h => (hs.2 b (Ne.symm ((S.offC b o h).2.2 (a, φ) (.head _)))).trans (S.kep b o h), S.base, fun p hp => ?_, S.offL, fun p hp => ?_,
    fun b o h => ⟨(S.offC b o h).1, (S.offC b o h).2.1, fun p hp => ?_⟩, fun p hp => ?_, S.nodup, S.rest⟩
  · rcases List.mem_cons.mp hp with rfl | hp
    · exact ⟨o, ho, q⟩
    · obtain ⟨o', ho', q'⟩ := S.mus p (.tail _ hp)
      exact ⟨o', (hs.2 _ (hm p hp)).trans ho', q'⟩
  · rcases List.mem_cons.mp hp with rfl | hp
    · exact S.offmu (a, φ) (.head _)
    · exact S.offmu p (.tail _ hp)
  · rcases List.mem_cons.mp hp with rfl | hp
    · exact (S.offC b o h).2.2 (a, φ) (.head _)
    · exact (S.offC b o h).2.2 p (.tail _ hp)
  · rcases List.mem_cons.mp hp with rfl | hp
    · exact S.muL (a, φ) (.head _)
    · exact S.muL p (.tail _ hp)

theorem St.sub (S : St c P C L m mu s) (h1 : ∀ p ∈ mu', p ∈ mu) (h2 : (mu'.map (·.1)).Nodup) : St c P C L m mu' s :=
  ⟨S.ns, S.keep, S.kep, S.base, fun p hp => S.mus p (h1 p hp), S.offL, fun p hp => S.offmu p (h1 p hp), fun a o h => ⟨(S.offC a o h).1, (S.offC a o h).2.1, fun p hp => (S.offC a o h).2.2 p (h1 p hp)⟩,
    fun p hp => S.muL p (h1 p hp), h2, S.rest⟩
theorem St.perm (S : St c P C L m mu s) (h : mu.Perm mu') : St c P C L m mu' s := S.sub (fun p hp => h.mem_iff.mpr hp) ((h.map _).nodup_iff.mp S.nodup)
theorem St.drop {p : Addr × (Obj → Prop)} (S : St c P C L m (p :: mu) s) : St c P C L m mu s := S.sub (fun _ h => .tail _ h) (List.nodup_cons.mp S.nodup).2
theorem St.dropTail (S : St c P C L m (mu ++ mu') s) : St c P C L m mu s := S.sub (fun _ h => List.mem_append_left _ h) (by
  have := S.nodup
  rw [List.map_append] at this
  exact (List.nodup_append.mp this).1)
theorem St.weak (S : St c P C L m ((a, φ) :: mu) s) (h : ∀ o, φ o → φ' o) : St c P C L m ((a, φ') :: mu) s := by
  have hs := S.nodup
  refine ⟨S.ns, S.keep, S.kep, S.base, fun p hp => ?_, S.offL, fun p hp => ?_, fun b o k => ⟨(S.offC b o k).1, (S.offC b o k).2.1, fun p hp => ?_⟩, fun p hp => ?_, hs, S.rest⟩
  all_goals rcases List.mem_cons.mp hp with rfl | hp
  · obtain ⟨o, ho, q⟩ := S.mus _ (.head _); exact ⟨o, ho, h _ q⟩
  · exact S.mus p (.tail _ hp)
  · exact S.offmu (a, φ) (.head _)
  · exact S.offmu p (.tail _ hp)
  · exact (S.offC b o k).2.2 (a, φ) (.head _)
  · exact (S.offC b o k).2.2 p (.tail _ hp)
  · exact S.muL (a, φ) (.head _)
  · exact S.muL p (.tail _ hp)

/-- an object that turned stands for good from now on -/
theorem St.freeze (S : St c P C L m ((a, φ) :: mu) s) : Ex1 fun o => φ o ∧ St c (P.add a o) C L m mu s := by
  obtain ⟨o, ho, q⟩ := S.mus _ (.head _)
  have hm : ∀ p ∈ mu, p.1 ≠ a := fun p hp e => (List.nodup_cons.mp S.nodup).1 (List.mem_map.mpr ⟨p, hp, e⟩)
  refine ⟨o, q, S.ns, fun b x h => ?_, S.kep, fun b x h => .inl (S.base b x h), fun p hp => S.mus p (.tail _ hp), fun x h => ?_, fun p hp x h => ?_, fun b x h => ⟨fun x' k => ?_, (S.offC b x h).2.1, fun p hp => (S.offC b x h).2.2 p (.tail _ hp)⟩,
    fun p hp => S.muL p (.tail _ hp), (List.nodup_cons.mp S.nodup).2, S.rest⟩
  · rcases h with h | ⟨rfl, rfl⟩
    · exact S.keep b x h
    · exact ho
  · rcases h with h | ⟨e, rfl⟩
    · exact S.offL x h
    · exact S.muL _ (.head _) e.symm
  · rcases h with h | ⟨e, rfl⟩
    · exact S.offmu p (.tail _ hp) x h
    · exact hm p hp e
  · rcases k with k | ⟨e, rfl⟩
    · exact (S.offC b x h).1 x' k
    · exact (S.offC b x h).2.2 _ (.head _) e.symm

/-- a new object that stands for good -/
theorem St.pushP (S : St c P C L m mu s) {h' : Heap} {tk : Nat} (ha : s.heap.get? a = none) (hk : ∀ b o, s.heap.get? b = some o → h'.get? b = some o) (ho : h'.get? a = some o) :
    St c (P.add a o) C L m mu { s with heap := h', toks := tk } := by
  obtain ⟨o', q, S'⟩ := (S.pushMu (tk := tk) (φ := fun x => x = o) ha hk ho rfl).freeze
  subst q
  exact S'

/-- into a called def's frame -/
noncomputable def under (C : View) (L : Addr) (rho : Led) (s : Shared) : View := fun a o => C a o ∨ ((a = L ∨ ∃ p ∈ rho, p.1 = a) ∧ s.heap.get? a = some o)

theorem St.enter {rho : Led} (S : St c P C L m (mu ++ rho) s) {h' : Heap} {tk : Nat} {L' : Addr} (hL : s.heap.get? L' = none) (hn : h'.Ns L' m') (hk : ∀ b o, s.heap.get? b = some o → h'.get? b = some o) :
    St c P (under C L rho s) L' m' mu { s with heap := h', toks := tk } := by
  have nd := S.nodup
  rw [List.map_append, List.nodup_append] at nd
  have some_ne : ∀ {b o}, s.heap.get? b = some o → b ≠ L' := fun e q => by rw [q, hL] at e; cases e
  refine ⟨hn, fun a o h => hk _ _ (S.keep a o h), fun a o h => ?_, S.base, fun p hp => ?_, fun o h => some_ne (S.keep _ _ h) rfl, fun p hp => S.offmu p (List.mem_append_left _ hp), fun a o h => ?_, fun p hp => ?_, nd.1, S.rest⟩
  · rcases h with h | ⟨_, e⟩
    · exact hk _ _ (S.kep a o h)
    · exact hk _ _ e
  · obtain ⟨o, ho, q⟩ := S.mus p (List.mem_append_left _ hp)
    exact ⟨o, hk _ _ ho, q⟩
  · rcases h with h | ⟨h, e⟩
    · exact ⟨(S.offC a o h).1, some_ne (S.kep a o h), fun p hp => (S.offC a o h).2.2 p (List.mem_append_left _ hp)⟩
    · refine ⟨fun o' k => ?_, some_ne e, fun p hp => ?_⟩
      · rcases h with rfl | ⟨p, hp, rfl⟩
        · exact S.offL _ k
        · exact S.offmu p (List.mem_append_right _ hp) _ k
      · rcases h with rfl | ⟨q, hq, rfl⟩
        · exact S.muL p (List.mem_append_left _ hp)
        · exact nd.2.2 p.1 (List.mem_map.mpr ⟨p, hp, rfl⟩) q.1 (List.mem_map.mpr ⟨q, hq, rfl⟩)
  · obtain ⟨o, ho, _⟩ := S.mus p (List.mem_append_left _ hp)
    exact some_ne ho

/-- and back to the caller's -/
theorem St.leave {rho junk : Led} {L' : Addr} {s₀ : Shared} (S₀ : St c P C L m (mu ++ rho) s₀) (S : St c P' (under C L rho s₀) L' m' (mu' ++ junk) s) (_hP : P.le P') : St c P' C L m (mu' ++ rho) s := by
  obtain ⟨oL, es, ep, hL, hr⟩ := S₀.ns
  have hUL : under C L rho s₀ L oL := .inr ⟨.inl rfl, hL⟩
  have hUr : ∀ p ∈ rho, Ex1 fun o => under C L rho s₀ p.1 o ∧ p.2 o := fun p hp => by
    obtain ⟨o, ho, q⟩ := S₀.mus p (List.mem_append_right _ hp)
    exact ⟨o, .inr ⟨.inr ⟨p, hp, rfl⟩, ho⟩, q⟩
  have nd := S₀.nodup
  rw [List.map_append, List.nodup_append] at nd
  have nd' := S.nodup
  rw [List.map_append, List.nodup_append] at nd'
  refine ⟨⟨oL, es, ep, S.kep _ _ hUL, hr⟩, S.keep, fun a o h => S.kep a o (.inl h), S.base, fun p hp => ?_, (S.offC _ _ hUL).1, fun p hp => ?_, fun a o h => ⟨(S.offC a o (.inl h)).1, (S₀.offC a o h).2.1, fun p hp => ?_⟩, fun p hp => ?_, ?_, S.rest⟩
  · rcases List.mem_append.mp hp with hp | hp
    · exact S.mus p (List.mem_append_left _ hp)
    · obtain ⟨o, ho, q⟩ := hUr p hp
      exact ⟨o, S.kep _ _ ho, q⟩
  · rcases List.mem_append.mp hp with hp | hp
    · exact S.offmu p (List.mem_append_left _ hp)
    · obtain ⟨o, ho, q⟩ := hUr p hp
      exact (S.offC _ _ ho).1
  · rcases List.mem_append.mp hp with hp | hp
    · exact (S.offC a o (.inl h)).2.2 p (List.mem_append_left _ hp)
    · exact (S₀.offC a o h).2.2 p (List.mem_append_right _ hp)
  · rcases List.mem_append.mp hp with hp | hp
    · exact (S.offC _ _ hUL).2.2 p (List.mem_append_left _ hp)
    · exact S₀.muL p (List.mem_append_right _ hp)
  · rw [List.map_append, List.nodup_append]
    refine ⟨nd'.1, nd.2.1, fun x hx y hy => ?_⟩
    obtain ⟨p, hp, rfl⟩ := List.mem_map.mp hx
    obtain ⟨q, hq, rfl⟩ := List.mem_map.mp hy
    obtain ⟨o, ho, _⟩ := hUr q hq
    exact (S.offC _ _ ho).2.2 p (List.mem_append_left _ hp)
end



noncomputable abbrev Loc := Str → Option Value
noncomputable def upd (m : Loc) (x : Str) (v : Value) : Loc := fun y => if y = x then some v else m y
theorem upd_same {m : Loc} {x : Str} {v : Value} : upd m x v x = some v := if_pos rfl
theorem upd_ne {m : Loc} {x y : Str} {v : Value} {r : Option Value} (h : y ≠ x) (k : m y = r) : upd m x v y = r := (if_neg h).trans k
noncomputable def noLoc : Loc := fun _ => none
noncomputable def binds0 (m : Loc) : List (Str × Value) → Loc
  | [] => m
  | (x, v) :: r => binds0 (upd m x v) r
theorem binds_eq : ∀ (b : List (Str × Value)) (m : Loc), (fun x => (b.reverse.lookup x).or (m x)) = binds0 m b
  | [], m => by funext x; simp [binds0]
  | (y, v) :: r, m => by
    rw [binds0, ← binds_eq r (upd m y v)]
    funext x
    simp only [List.reverse_cons, List.lookup_append, Option.or_assoc, List.lookup_cons, List.lookup_nil, upd]
    by_cases h : x = y
    · subst h; simp
    · have : (x == y) = false := beq_eq_false_iff_ne.mpr h
      simp [this, h]
theorem binds_start (b : List (Str × Value)) : (fun x => b.reverse.lookup x) = binds0 noLoc b := by
  rw [← binds_eq]; funext x; simp [noLoc]

structure EnvOk (env : Env) (sc : Scope) (L : Addr) (cl : List (Str × Addr)) : Prop where
  scope : env.scope = sc
  kind : sc.kind = .function
  locals : env.locals = L
  globals : env.globals = mainGlobals
  builtins : env.builtins = builtinsNs
  cells : env.cells = cl


structure Room (A : Around) (n : Nat) : Prop where
  depth : A.depth + n < 1000
  units : A.units + 8 * n < 9900
  handled : A.handled = none
theorem Room.le {A : Around} {n k : Nat} (h : Room A n) (hk : k ≤ n) : Room A k := ⟨by have := h.depth; lia, by have := h.units; lia, h.handled⟩
theorem Room.deeper {A : Around} {n : Nat} (h : Room A (n + 1)) (env : Env) : Room (A.deeper env) n :=
  ⟨by have := h.depth; show A.depth + 1 + n < 1000; lia, by have := h.units; show A.units + 3 + 8 * n < 9900; lia, h.handled⟩
theorem Room.here {A : Around} {n : Nat} (h : Room A (n + 1)) : A.depth < recursionLimit := by have := h.depth; show A.depth < 1000; omega
theorem Room.hereU {A : Around} {n : Nat} (h : Room A (n + 1)) : A.units < cLine := by have := h.units; show A.units < 9900; lia
theorem Room.in1 {A : Around} {n : Nat} (h : Room A (n + 1)) : Room A.in1 n :=
  ⟨by have := h.depth; show A.depth + n < 1000; lia, by have := h.units; show A.units + 1 + 8 * n < 9900; omega, h.handled⟩

theorem ns_eq {h : Heap} {L : Addr} {m m' : Loc} (x : h.Ns L m) (e : m = m') : h.Ns L m' := e ▸ x

section
variable {c : Cx} {P C : View} {L f : Addr} {m : Loc} {mu rho : Led} {s : Shared} {A : Around} {F : Fn} {args : List Value} {binds : List (Str × Value)} {Q : Value → Shared → Prop} {E : Value → Shared → Prop} {n : Nat}


theorem enterC (Post : View → Led → Value → Prop) {R : Result → Shared → Prop} (S : St c P C L m (mu ++ rho) s) (hf : FnIs c.K f F) (hA : Room A (n + 1)) (hb : ∀ a b e f g h i, BindsTo s (F.data a b e f g h i) ⟨args, []⟩ binds)
    (hloc : ∀ y ∈ binds, F.scope.names.lookup y.1 = some .local) (hcell : ∀ x ∈ F.scope.names, x.2 ≠ .cell)
    (body : ∀ env A' L' C' s₁ Qb Eb, EnvOk env F.scope L' [] → Room A' n → St c P C' L' (binds0 noLoc binds) mu s₁ →
      (∀ v s' P' m' mu' junk, P.le P' → St c P' C' L' m' (mu' ++ junk) s' → Post P' mu' v → Qb (.ret v) s') →
      (∀ s' P' m' mu' junk, P.le P' → St c P' C' L' m' (mu' ++ junk) s' → Post P' mu' .none → Qb .next s') →
      wpAny c.M A' (execs F.body env) Qb Eb s₁)
    (k : ∀ v s' P' mu', P.le P' → St c P' C L m (mu' ++ rho) s' → Post P' mu' v → R (.ok (.ret v)) s') : codeAny c.M A (.call (.ref f) ⟨args, []⟩) R s := by
  obtain ⟨n1, n2, n3, n4, n5, n6, n7, oc, od, osl, h, hcode⟩ := hf.at_
  refine codeAny_call_def (fd := F.data n1 n2 n3 n4 n5 n6 n7) (body := F.body) (binds := binds) hA.here (S.K _ _ h) rfl S.nolimit (codeRec_of S.K hcode) rfl (hb _ _ _ _ _ _ _) hcell hloc (fun h₁ hns hk₁ => ?_) hf.co hf.gen hf.kind
  rw [binds_start] at hns
  have S₁ := S.enter (tk := s.toks + binds.length) (Heap.get?_none_of_le (Nat.le_refl _)) hns hk₁
  refine body _ _ _ _ _ _ _ ⟨rfl, hf.kind, rfl, rfl, rfl, rfl⟩ (hA.deeper _) S₁ (fun v s' P' m' mu' junk hP S' hp => ?_) (fun s' P' m' mu' junk hP S' hp => ?_)
  · exact k _ _ _ _ hP (S.leave S' hP) hp
  · exact k _ _ _ _ hP (S.leave S' hP) hp
theorem enter (Post : View → Led → Value → Prop) (S : St c P C L m (mu ++ rho) s) (hf : FnIs c.K f F) (hA : Room A (n + 1)) (hb : ∀ a b e f g h i, BindsTo s (F.data a b e f g h i) ⟨args, []⟩ binds)
    (hloc : ∀ y ∈ binds, F.scope.names.lookup y.1 = some .local) (hcell : ∀ x ∈ F.scope.names, x.2 ≠ .cell)
    (body : ∀ env A' L' C' s₁ Qb Eb, EnvOk env F.scope L' [] → Room A' n → St c P C' L' (binds0 noLoc binds) mu s₁ →
      (∀ v s' P' m' mu' junk, P.le P' → St c P' C' L' m' (mu' ++ junk) s' → Post P' mu' v → Qb (.ret v) s') →
      (∀ s' P' m' mu' junk, P.le P' → St c P' C' L' m' (mu' ++ junk) s' → Post P' mu' .none → Qb .next s') →
      wpAny c.M A' (execs F.body env) Qb Eb s₁)
    (k : ∀ v s' P' mu', P.le P' → St c P' C L m (mu' ++ rho) s' → Post P' mu' v → Q v s') : wpAny c.M A (call (.ref f) args) Q E s :=
  wpAny_call (enterC Post S hf hA hb hloc hcell body k)
end

section
variable {c : Cx} {P C : View} {L : Addr} {m : Loc} {mu : Led} {s : Shared} {A : Around} {env : Env} {sc : Scope} {cl : List (Str × Addr)} {x : Str} {pos : Pos} {v : Value} {Q : Value → Shared → Prop} {E : Value → Shared → Prop}

theorem EnvOk.kindOf (hE : EnvOk env sc L cl) {k : Option NameKind} (h : sc.names.lookup x = k) : env.kindOf x = k := by unfold Env.kindOf; rw [hE.scope]; exact h

theorem nm_loc (S : St c P C L m mu s) (hE : EnvOk env sc L cl) (hk : sc.names.lookup x = some .local) (hm : m x = some v) (h : Q v s) (hd : (x == ("__debug__" : Str)) = false := by decide) :
    wpAny c.M A (eval (.Name x pos) env) Q E s :=
  wpAny_Name (wpAny_loadName_local (by rw [hE.scope]; exact hE.kind) (hE.kindOf hk) (by rw [hE.locals]; exact S.ns) hm h) hd
theorem nm_glob (S : St c P C L m mu s) (hE : EnvOk env sc L cl) (hk : sc.names.lookup x = some .globalImplicit) (e : nsIn c.K mainGlobals x = some (some v)) (h : Q v s) (hd : (x == ("__debug__" : Str)) = false := by decide) :
    wpAny c.M A (eval (.Name x pos) env) Q E s := by
  obtain ⟨mg, G⟩ := c.top.gl
  exact Name_function_global (by rw [hE.scope]; exact hE.kind) (hE.kindOf hk) (loadGlobal_global (by rw [hE.globals]; exact G.keeps S.stays) (mg_of c.top.K G e) h) hd
theorem nm_blt (S : St c P C L m mu s) (hE : EnvOk env sc L cl) (hk : sc.names.lookup x = some .globalImplicit) (e : nsIn c.K mainGlobals x = some none) (hv : bootBuiltins x = some v) (h : Q v s) (hn : x ≠ "__name__" := by decide)
    (hd : (x == ("__debug__" : Str)) = false := by decide) : wpAny c.M A (eval (.Name x pos) env) Q E s := by
  obtain ⟨mg, G⟩ := c.top.gl
  obtain ⟨mb, B, hb⟩ := c.top.b
  exact Name_function_global (by rw [hE.scope]; exact hE.kind) (hE.kindOf hk) (loadGlobal_builtin (by rw [hE.globals]; exact G.keeps S.stays) (mg_none_of c.top.K G e) (by rw [hE.builtins]; exact B.keeps S.stays) ((hb x hn).trans hv) h) hd
theorem nm_cell {a : Addr} {o : Obj} (S : St c P C L m mu s) (hE : EnvOk env sc L cl) (hk : sc.names.lookup x = some .cell) (hc : cl.lookup x = some a) (ho : P a o) (hd' : o.data = .cell (some v)) (h : Q v s)
    (hd : (x == ("__debug__" : Str)) = false := by decide) : wpAny c.M A (eval (.Name x pos) env) Q E s :=
  wpAny_Name (wpAny_loadName_cell (by rw [hE.scope]; exact hE.kind) (hE.kindOf hk) (by rw [hE.cells]; exact hc) ⟨o, S.keep _ _ ho, hd'⟩ h) hd

theorem sto {Q : Unit → Shared → Prop} (S : St c P C L m mu s) (hE : EnvOk env sc L cl) (hk : sc.names.lookup x = some .local) (h : ∀ s', St c P C L (upd m x v) mu s' → Q () s') : wpAny c.M A (storeName env x v) Q E s :=
  wpAny_storeName_local (hE.kindOf hk) (by rw [hE.locals]; exact S.ns) (fun h' hn hs => h _ (S.store (by rw [hE.locals] at hn; exact hn) (by rw [hE.locals] at hs; exact hs)))
    (by rw [hE.scope, hE.kind]; rfl)

/-- x = e -/
theorem xAssign {value : Expr} {p pos : Pos} {Q : Flow → Shared → Prop} (hE : EnvOk env sc L cl) (hk : sc.names.lookup x = some .local)
    (h : wpAny c.M A (eval value env) (fun v s₁ => Ex4 fun P C m mu => St c P C L m mu s₁ ∧ ∀ s', St c P C L (upd m x v) mu s' → Q .next s') E s)
    (hs : swapsWith value (some (.Name x p)) pos.line env = pure false := by rfl) : wpAny c.M A (exec (.Assign [.Name x p] value pos) env) Q E s :=
  wpAny_Assign_Name (wpAny_mono h (fun v s₁ ⟨_, _, _, _, S, k⟩ => sto S hE hk k) fun _ _ e => e) hs
end



/-! the library's ledger over a whole heap -/
noncomputable def others (h : Heap) (L : Addr) : List (Addr × Obj) := (List.range h.objs.size).filterMap fun a => if a = L then none else (h.get? a).map fun o => (a, o)
theorem mem_others {h : Heap} {L a : Addr} {o : Obj} : (a, o) ∈ others h L ↔ a ≠ L ∧ h.get? a = some o := by
  unfold others
  rw [List.mem_filterMap]
  constructor
  · rintro ⟨b, _, e⟩
    by_cases hb : b = L
    · rw [if_pos hb] at e; cases e
    · rw [if_neg hb] at e
      obtain ⟨o', ho, e'⟩ := Option.map_eq_some_iff.mp e
      cases e'
      exact ⟨hb, ho⟩
  · rintro ⟨hb, ho⟩
    exact ⟨a, List.mem_range.mpr (Heap.lt_size ho), by rw [if_neg hb, ho]; rfl⟩
theorem nodup_others {h : Heap} {L : Addr} : ((others h L).map (·.1)).Nodup := by
  unfold others
  have : ∀ l : List Nat, l.Nodup → ((l.filterMap fun a => if a = L then none else (h.get? a).map fun o => (a, o)).map (·.1)).Nodup ∧ ∀ x ∈ (l.filterMap fun a => if a = L then none else (h.get? a).map fun o => (a, o)).map (·.1), x ∈ l := by
    intro l
    induction l with
    | nil => intro _; exact ⟨List.nodup_nil, fun x hx => hx⟩
    | cons b l ih =>
      intro hn
      obtain ⟨h1, h2⟩ := List.nodup_cons.mp hn
      obtain ⟨i1, i2⟩ := ih h2
      rw [List.filterMap_cons]
      split
      · exact ⟨i1, fun x hx => .tail _ (i2 x hx)⟩
      · rename_i p hp
        have hb : p.1 = b := by
          split at hp
          · cases hp
          · obtain ⟨o', _, e'⟩ := Option.map_eq_some_iff.mp hp
            rw [← e']
        rw [List.map_cons, hb]
        exact ⟨List.nodup_cons.mpr ⟨fun hx => h1 (i2 _ hx), i1⟩, fun x hx => by
          rcases List.mem_cons.mp hx with rfl | hx
          · exact .head _
          · exact .tail _ (i2 x hx)⟩
  exact (this _ List.nodup_range).1

section
variable {c : Cx} {P C : View} {L a : Addr} {m m' : Loc} {mu : Led} {s : Shared} {φ φ' : Obj → Prop} {o : Obj}
theorem get_empty (a : Addr) : ({} : Heap).get? a = none := Heap.get?_none_of_le (Nat.zero_le _)
theorem St.fr (S : St c P C L m mu s) : Fr {} L s.heap m := ⟨S.ns, (fun b o h => by rw [get_empty] at h; cases h), Nat.zero_le _⟩
theorem St.news (S : St c P C L m mu s) : News {} L s.heap (others s.heap L) := fun p hp => ⟨(mem_others.mp hp).2, (mem_others.mp hp).1, get_empty _⟩
theorem St.back (S : St c P C L m mu s) {h' : Heap} {tk : Nat} (F' : Fr {} L h' m') (N' : ∀ b o, b ≠ L → s.heap.get? b = some o → h'.get? b = some o) : St c P C L m' mu { s with heap := h', toks := tk } :=
  ⟨F'.ns, fun a o h => N' _ _ (fun e => S.offL o (e ▸ h)) (S.keep a o h), fun a o h => N' _ _ (S.offC a o h).2.1 (S.kep a o h), S.base,
    fun p hp => let ⟨o, ho, q⟩ := S.mus p hp; ⟨o, N' _ _ (S.muL p hp) ho, q⟩, S.offL, S.offmu, S.offC, S.muL, S.nodup, S.rest⟩
/-- the ledger with one object turned -/
theorem St.split (S : St c P C L m ((a, φ) :: mu) s) (ho : s.heap.get? a = some o) : Ex2 fun pre post => And3 (others s.heap L = pre ++ (a, o) :: post) ((∀ p ∈ pre, p.1 ≠ a)) (∀ p ∈ post, p.1 ≠ a) := by
  obtain ⟨pre, post, e⟩ := List.append_of_mem (mem_others.mpr ⟨S.muL (a, φ) (.head _), ho⟩)
  have nd := nodup_others (h := s.heap) (L := L)
  rw [e, List.map_append, List.map_cons, List.nodup_append] at nd
  obtain ⟨_, n2, n3⟩ := nd
  exact ⟨pre, post, e, fun p hp q => n3 p.1 (List.mem_map.mpr ⟨p, hp, rfl⟩) a (.head _) q, fun p hp q => (List.nodup_cons.mp n2).1 (List.mem_map.mpr ⟨p, hp, q⟩)⟩
theorem St.turned (S : St c P C L m ((a, φ) :: mu) s) {h' : Heap} {tk : Nat} {o' : Obj} {pre post : List (Addr × Obj)} (e : others s.heap L = pre ++ (a, o) :: post) (F' : Fr {} L h' m) (N' : News {} L h' (pre ++ (a, o') :: post)) (q : φ' o') :
    St c P C L m ((a, φ') :: mu) { s with heap := h', toks := tk } := by
  have all : ∀ b x, b ≠ L → b ≠ a → s.heap.get? b = some x → h'.get? b = some x := fun b x hb hba hx => by
    have hm := mem_others.mpr ⟨hb, hx⟩
    rw [e] at hm
    rcases List.mem_append.mp hm with hm | hm
    · exact (N' _ (List.mem_append_left _ hm)).1
    · rcases List.mem_cons.mp hm with hm | hm
      · cases hm; exact absurd rfl hba
      · exact (N' _ (List.mem_append_right _ (.tail _ hm))).1
  have hm : ∀ p ∈ mu, p.1 ≠ a := fun p hp e => (List.nodup_cons.mp S.nodup).1 (List.mem_map.mpr ⟨p, hp, e⟩)
  refine ⟨F'.ns, fun b x h => all b x (fun e => S.offL x (e ▸ h)) (fun e => S.offmu (a, φ) (.head _) x (e ▸ h)) (S.keep b x h),
    fun b x h => all b x (S.offC b x h).2.1 (Ne.symm ((S.offC b x h).2.2 (a, φ) (.head _))) (S.kep b x h), S.base, fun p hp => ?_, S.offL, fun p hp => ?_,
    fun b o h => ⟨(S.offC b o h).1, (S.offC b o h).2.1, fun p hp => ?_⟩, fun p hp => ?_, S.nodup, S.rest⟩
  · rcases List.mem_cons.mp hp with rfl | hp
    · exact ⟨o', (N' (a, o') (by simp)).1, q⟩
    · obtain ⟨x, ho', q'⟩ := S.mus p (.tail _ hp)
      exact ⟨x, all _ _ (S.muL p (.tail _ hp)) (hm p hp) ho', q'⟩
  · rcases List.mem_cons.mp hp with rfl | hp
    · exact S.offmu (a, φ) (.head _)
    · exact S.offmu p (.tail _ hp)
  · rcases List.mem_cons.mp hp with rfl | hp
    · exact (S.offC b o h).2.2 (a, φ) (.head _)
    · exact (S.offC b o h).2.2 p (.tail _ hp)
  · rcases List.mem_cons.mp hp with rfl | hp
    · exact S.muL (a, φ) (.head _)
    · exact S.muL p (.tail _ hp)
end


/-- a token more -/
noncomputable def bump (s : Shared) : Shared := { s with toks := s.toks + 1 }
noncomputable abbrev Kh (c : Cx) (s : Shared) : Prop := c.K.In s.heap
/-! what is done behind a step, named -/
section
variable (c : Cx) (A : Around) (env : Env)
noncomputable abbrev K1 (f : Addr) (first : List Value) (Q E : Value → Shared → Prop) : Value → Shared → Prop := fun v1 s1 => Kh c s1 ∧ wpAny c.M A (call (.ref f) (first ++ [v1])) Q E s1
noncomputable abbrev K2b (f : Addr) (first : List Value) (v1 : Value) (Q E : Value → Shared → Prop) : Value → Shared → Prop := fun v2 s2 => Kh c s2 ∧ wpAny c.M A (call (.ref f) (first ++ [v1, v2])) Q E s2
noncomputable abbrev K2 (f : Addr) (first : List Value) (e2 : Expr) (Q E : Value → Shared → Prop) : Value → Shared → Prop := fun v1 s1 => wpAny c.M A (eval e2 env) (K2b c A f first v1 Q E) E s1
noncomputable abbrev K3c (f : Addr) (first : List Value) (v1 v2 : Value) (Q E : Value → Shared → Prop) : Value → Shared → Prop := fun v3 s3 => Kh c s3 ∧ wpAny c.M A (call (.ref f) (first ++ [v1, v2, v3])) Q E s3
noncomputable abbrev K3b (f : Addr) (first : List Value) (e3 : Expr) (v1 : Value) (Q E : Value → Shared → Prop) : Value → Shared → Prop := fun v2 s2 => wpAny c.M A (eval e3 env) (K3c c A f first v1 v2 Q E) E s2
noncomputable abbrev K3 (f : Addr) (first : List Value) (e2 e3 : Expr) (Q E : Value → Shared → Prop) : Value → Shared → Prop := fun v1 s1 => wpAny c.M A (eval e2 env) (K3b c A env f first e3 v1 Q E) E s1
noncomputable abbrev K4d (f : Addr) (first : List Value) (v1 v2 v3 : Value) (Q E : Value → Shared → Prop) : Value → Shared → Prop := fun v4 s4 => Kh c s4 ∧ wpAny c.M A (call (.ref f) (first ++ [v1, v2, v3, v4])) Q E s4
noncomputable abbrev K4c (f : Addr) (first : List Value) (e4 : Expr) (v1 v2 : Value) (Q E : Value → Shared → Prop) : Value → Shared → Prop := fun v3 s3 => wpAny c.M A (eval e4 env) (K4d c A f first v1 v2 v3 Q E) E s3
noncomputable abbrev K4b (f : Addr) (first : List Value) (e3 e4 : Expr) (v1 : Value) (Q E : Value → Shared → Prop) : Value → Shared → Prop := fun v2 s2 => wpAny c.M A (eval e3 env) (K4c c A env f first e4 v1 v2 Q E) E s2
noncomputable abbrev K4 (f : Addr) (first : List Value) (e2 e3 e4 : Expr) (Q E : Value → Shared → Prop) : Value → Shared → Prop := fun v1 s1 => wpAny c.M A (eval e2 env) (K4b c A env f first e3 e4 v1 Q E) E s1
end

/-! instances -/
noncomputable abbrev Flds := List (Str × Value)
inductive EntsAre (w : World) : List DictEntry → Flds → Prop
  | nil : EntsAre w [] []
  | cons {x : Str} {t : Tok} {v : Value} {es : List DictEntry} {fs : Flds} : EntsAre w es fs → EntsAre w (⟨PyData.keyHash w.params x, .str x t, v⟩ :: es) ((x, v) :: fs)
noncomputable def IsDictO (w : World) (fs : Flds) (o : Obj) : Prop := Ex2 fun es n => o = dictOf es n ∧ EntsAre w es fs
noncomputable def setF (x : Str) (v : Value) : Flds → Flds
  | [] => [(x, v)]
  | (y, u) :: r => if y = x then (y, v) :: r else (y, u) :: setF x v r
theorem EntsAre.refKey {w : World} {es : List DictEntry} {fs : Flds} (h : EntsAre w es fs) : es.any (·.refKey) = false := by
  induction h with
  | nil => rfl
  | cons _ ih => rw [List.any_cons, ih]; rfl
theorem EntsAre.getL {w : World} {es : List DictEntry} {fs : Flds} {x : Str} (h : EntsAre w es fs) : getL x es = some (fs.lookup x) := by
  unfold PySem.W.getL
  have hr := h.refKey
  have : (es.find? (·.key.isStr x)).map (·.val) = fs.lookup x := by
    clear hr
    induction h with
    | nil => rfl
    | @cons y t v es fs _ ih =>
      rw [List.find?_cons, List.lookup_cons]
      show Option.map _ (match (y == x) with | true => _ | false => _) = _
      by_cases e : y = x
      · subst e; simp
      · have e1 : (y == x) = false := beq_eq_false_iff_ne.mpr e
        have e2 : (x == y) = false := beq_eq_false_iff_ne.mpr (Ne.symm e)
        rw [e1, e2]; exact ih
  cases hf : es.find? (·.key.isStr x) with
  | none => rw [hf] at this; rw [hr, ← this]; rfl
  | some e => rw [hf] at this; rw [← this]; rfl
theorem EntsAre.put {w : World} {es : List DictEntry} {fs : Flds} {x : Str} {t : Tok} {v : Value} (h : EntsAre w es fs) : EntsAre w (putL x (PyData.keyHash w.params x) (.str x t) v es) (setF x v fs) := by
  induction h with
  | nil => exact .cons .nil
  | @cons y u z es fs hh ih =>
    unfold putL setF
    by_cases e : y = x
    · subst e
      rw [if_pos (by show (y == y) = true; simp), if_pos rfl]; exact .cons hh
    · rw [if_neg (by show ¬ (y == x) = true; simpa using e), if_neg e]; exact .cons ih
theorem EntsAre.len {w : World} {es : List DictEntry} {fs : Flds} (h : EntsAre w es fs) : es.length = fs.length := by
  induction h with
  | nil => rfl
  | cons _ ih => rw [List.length_cons, List.length_cons, ih]
theorem setF_len (x : Str) (v : Value) : ∀ fs : Flds, (setF x v fs).length ≤ fs.length + 1
  | [] => Nat.le_refl _
  | (y, u) :: r => by
    unfold setF
    split
    · simp
    · have := setF_len x v r; simp only [List.length_cons]; lia

/-- an instance that stands for good -/
noncomputable def Inst (w : World) (P : View) (x C : Addr) (fs : Flds) : Prop := Ex2 fun dx o => And3 (P x (instObj C dx)) (P dx o) (IsDictO w fs o)
theorem Inst.mono {w : World} {P P' : View} {x C : Addr} {fs : Flds} (h : Inst w P x C fs) (k : P.le P') : Inst w P' x C fs := let ⟨dx, o, a, b, d⟩ := h; ⟨dx, o, k _ _ a, k _ _ b, d⟩

section
variable {c : Cx} {P C' : View} {L x C dx : Addr} {m : Loc} {mu : Led} {s : Shared} {A : Around} {fs : Flds} {name : Str} {v : Value} {E : Value → Shared → Prop} {o : Obj}

theorem St.bump (S : St c P C' L m mu s) : St c P C' L m mu (bump s) := S.toks _
theorem instAt_of {h : Heap} {es : List DictEntry} {n : Nat} (h1 : h.get? x = some (instObj C dx)) (h2 : h.get? dx = some (dictOf es n)) : InstAt h x (instObj C dx) C (some (dictOf es n)) := ⟨h1, rfl, rfl, h2⟩

theorem getF {expr : Bool} {Q : Value → Shared → Prop} (S : St c P C' L m mu s) (I : Inst c.w P x C fs) (ha : AttrOk c.K C name) (hf : fs.lookup name = some v) (hv : handedIn v = true) (h : Q v (bump s)) :
    wpAny c.M A (getAttr (.ref x) name expr) Q E s := by
  obtain ⟨dx, o, h1, h2, es, n, rfl, he⟩ := I
  obtain ⟨attr, a1, a2⟩ := ha.none_
  exact get_value S.K (instAt_of (S.keep _ _ h1) (S.keep _ _ h2)) (plainGet_of ha.plain).1 (findObj_own ha.hd a1 a2 (by rw [lookIn_dict, he.getL, hf])) hv h
/-- the same of an instance whose dict may turn -/
theorem getFmu {expr : Bool} {Q : Value → Shared → Prop} (S : St c P C' L m ((dx, IsDictO c.w fs) :: mu) s) (hx : P x (instObj C dx)) (ha : AttrOk c.K C name) (hf : fs.lookup name = some v) (hv : handedIn v = true)
    (h : ∀ s', St c P C' L m ((dx, IsDictO c.w fs) :: mu) s' → Q v s') : wpAny c.M A (getAttr (.ref x) name expr) Q E s := by
  obtain ⟨o, h2, es, n, rfl, he⟩ := S.mus _ (.head _)
  obtain ⟨attr, a1, a2⟩ := ha.none_
  exact get_value S.K (instAt_of (S.keep _ _ hx) h2) (plainGet_of ha.plain).1 (findObj_own ha.hd a1 a2 (by rw [lookIn_dict, he.getL, hf])) hv (h _ (S.toks _))

theorem methK {f : Addr} {pl : Sem Bool} {Q : Value × List Value → Shared → Prop} {es : List DictEntry} {n : Nat} (X : c.K.In s.heap) (I : InstAt s.heap x (instObj C dx) C (some (dictOf es n))) (hm : MethOk c.K C name f) (he : getL name es = some none) (h : Q (.ref f, [.ref x]) s) :
    wpAny c.M A (getMethod (.ref x) name pl) Q E s :=
  method_fn X I (plainGet_of hm.plain).1 (plainGet_of hm.plain).2 hm.at_ (beq_iff_eq.mp hm.fn) (by show (lookIn name (dictOf es n)).map _ = _; rw [lookIn_dict, he]; rfl) h
theorem methF {f : Addr} {pl : Sem Bool} {Q : Value × List Value → Shared → Prop} (S : St c P C' L m mu s) (I : Inst c.w P x C fs) (hm : MethOk c.K C name f) (hf : fs.lookup name = none) (h : Q (.ref f, [.ref x]) s) :
    wpAny c.M A (getMethod (.ref x) name pl) Q E s := by
  obtain ⟨dx, o, h1, h2, es, n, rfl, he⟩ := I
  exact methK S.K (instAt_of (S.keep _ _ h1) (S.keep _ _ h2)) hm (by rw [he.getL, hf]) h
theorem methFmu {f : Addr} {pl : Sem Bool} {Q : Value × List Value → Shared → Prop} (S : St c P C' L m ((dx, IsDictO c.w fs) :: mu) s) (hx : P x (instObj C dx)) (hm : MethOk c.K C name f) (hf : fs.lookup name = none) (h : Q (.ref f, [.ref x]) s) :
    wpAny c.M A (getMethod (.ref x) name pl) Q E s := by
  obtain ⟨o, h2, es, n, rfl, he⟩ := S.mus _ (.head _)
  exact methK S.K (instAt_of (S.keep _ _ hx) h2) hm (by rw [he.getL, hf]) h

theorem setF_ {Q : Unit → Shared → Prop} (S : St c P C' L m ((dx, IsDictO c.w fs) :: mu) s) (hx : P x (instObj C dx)) (hs : SetOk c.K C name) (hl : fs.length ≤ 900)
    (h : ∀ s', St c P C' L m ((dx, IsDictO c.w (setF name v fs)) :: mu) s' → Q () s') : wpAny c.M A (setAttr (.ref x) name v) Q E s := by
  obtain ⟨o, h2, es, n, rfl, he⟩ := S.mus _ (.head _)
  obtain ⟨pre, post, e, e1, e2⟩ := S.split h2
  have X := S.K
  refine set_plain X (instAt_of (S.keep _ _ hx) h2) hs.set ?_
  refine osa_dict (s := { s with toks := s.toks + 1 }) (h₀ := {}) (L := L) (m := m) (pre := pre) (post := post) (dx := dx) S.fr (e ▸ S.news) X (instAt_of (S.keep _ _ hx) h2) rfl hs.plain hs.taker hs.hd (by rw [lookIn_dict, he.getL]; rfl) e1 e2 (putName_dict _ _ _ _ _ _) rfl ?_ fun h' F' N' => ?_
  · have h3 := (he.put (x := name) (t := s.toks + 1) (v := v)).len
    have h4 := setF_len name v fs
    show (putL name (PyData.keyHash c.w.params name) (.str name (s.toks + 1)) v es).length ≤ 1000
    lia
  · exact h _ (S.turned e F' N' ⟨_, _, rfl, he.put⟩)
end



section
variable {c : Cx} {P C' : View} {L x C dx f : Addr} {m : Loc} {mu : Led} {s : Shared} {A : Around} {env : Env} {E : Value → Shared → Prop} {Q : Value → Shared → Prop} {first : List Value} {pos : Pos}

theorem cW0 (X : Kh c s) (hk : keepIn c.K (.ref f) = true) (h : wpAny c.M A (call (.ref f) (first ++ [])) Q E s) : wpAny c.M A (callWith pos (.ref f) first (backTo pos (starEach [] env)) []) Q E s := callWith_K0 X hk h
theorem cW1 {e1 : Expr} (hk : keepIn c.K (.ref f) = true) (h : wpAny c.M A (eval e1 env) (K1 c A f first Q E) E s)
    (he : starEach [e1] env = [(false, eval e1 env)] := by rfl) :
    wpAny c.M A (callWith pos (.ref f) first (backTo pos (starEach [e1] env)) []) Q E s :=
  callWith_K c.top.K hk (spliced_more (wpAny_mono h (fun v1 s1 h1 => spliced_none h1) fun _ _ e => e) he) he rfl
theorem cW2 {e1 e2 : Expr} (hk : keepIn c.K (.ref f) = true)
    (h : wpAny c.M A (eval e1 env) (K2 c A env f first e2 Q E) E s)
    (h1' : starEach (e1 :: [e2]) env = (false, eval e1 env) :: starEach [e2] env := by rfl) (h2' : starEach [e2] env = [(false, eval e2 env)] := by rfl) :
    wpAny c.M A (callWith pos (.ref f) first (backTo pos (starEach [e1, e2] env)) []) Q E s :=
  callWith_K c.top.K hk (spliced_more (wpAny_mono h (fun v1 s1 h1 => spliced_more (wpAny_mono h1 (fun v2 s2 h2 => spliced_none h2) fun _ _ e => e) h2') fun _ _ e => e) h1') h1' (by rw [h2']; rfl)
theorem cW3 {e1 e2 e3 : Expr} (hk : keepIn c.K (.ref f) = true)
    (h : wpAny c.M A (eval e1 env) (K3 c A env f first e2 e3 Q E) E s)
    (h1' : starEach (e1 :: [e2, e3]) env = (false, eval e1 env) :: starEach [e2, e3] env := by rfl) (h2' : starEach (e2 :: [e3]) env = (false, eval e2 env) :: starEach [e3] env := by rfl) (h3' : starEach [e3] env = [(false, eval e3 env)] := by rfl) :
    wpAny c.M A (callWith pos (.ref f) first (backTo pos (starEach [e1, e2, e3] env)) []) Q E s :=
  callWith_K c.top.K hk (spliced_more (wpAny_mono h (fun v1 s1 h1 => spliced_more (wpAny_mono h1 (fun v2 s2 h2 => spliced_more (wpAny_mono h2 (fun v3 s3 h3 => spliced_none h3) fun _ _ e => e) h3') fun _ _ e => e) h2') fun _ _ e => e) h1') h1' (by rw [h2', h3']; rfl)
theorem cW4 {e1 e2 e3 e4 : Expr} (hk : keepIn c.K (.ref f) = true)
    (h : wpAny c.M A (eval e1 env) (K4 c A env f first e2 e3 e4 Q E) E s)
    (h1' : starEach (e1 :: [e2, e3, e4]) env = (false, eval e1 env) :: starEach [e2, e3, e4] env := by rfl) (h2' : starEach (e2 :: [e3, e4]) env = (false, eval e2 env) :: starEach [e3, e4] env := by rfl)
    (h3' : starEach (e3 :: [e4]) env = (false, eval e3 env) :: starEach [e4] env := by rfl) (h4' : starEach [e4] env = [(false, eval e4 env)] := by rfl) :
    wpAny c.M A (callWith pos (.ref f) first (backTo pos (starEach [e1, e2, e3, e4] env)) []) Q E s :=
  callWith_K c.top.K hk (spliced_more (wpAny_mono h (fun v1 s1 h1 => spliced_more (wpAny_mono h1 (fun v2 s2 h2 => spliced_more (wpAny_mono h2 (fun v3 s3 h3 => spliced_more (wpAny_mono h3 (fun v4 s4 h4 => spliced_none h4) fun _ _ e => e) h4') fun _ _ e => e) h3') fun _ _ e => e) h2') fun _ _ e => e) h1') h1' (by rw [h2', h3', h4']; rfl)

/-- f(..): the name is a def or class of the text -/
theorem cF {id : Str} {p : Pos} {args : List Expr} {sc : Scope} {cl : List (Str × Addr)} (S : St c P C' L m mu s) (hE : EnvOk env sc L cl) (hk : sc.names.lookup id = some .globalImplicit) (hg : GlobOk c.K id f)
    (h : wpAny c.M A (callWith pos (.ref f) [] (backTo pos (starEach args env)) []) Q E s) (hd : (id == ("__debug__" : Str)) = false := by decide) : wpAny c.M A (eval (.Call (.Name id p) args [] pos) env) Q E s :=
  wpAny_Call_Name_kw (nm_glob S hE hk hg.at_ h hd)

theorem Room.under {A : Around} {n : Nat} (h : Room A (n + 1)) (C : Addr) (vals : List Value) : Room (A.under (.builtin "type.__call__" ⟨.ref C :: vals, []⟩)) n :=
  ⟨by have := h.depth; rw [depth_under_make]; lia, by have := h.units; rw [units_under_make]; lia, h.handled⟩

/-- an instance is made -/
theorem mk {fI : Addr} {args : List Value} {n : Nat} (S : St c P C' L m mu s) (hm : MakeOk c.K C fI) (hA : Room A (n + 1))
    (h : ∀ x dx s' A', Room A' n → (∀ o, ¬ P x o) → St c (P.add x (instObj C dx)) C' L m ((dx, IsDictO c.w []) :: mu) s' →
      codeAny c.M A' (.call (.ref fI) ⟨.ref x :: args, []⟩) (InitBack x fun r s' => match r with | .ok (.ret v) => Q v s' | .ok _ => False | .error e => E e s') s') : wpAny c.M A (call (.ref C) args) Q E s := by
  have Y := makes_of (M := c.M) S.K hm.makes
  obtain ⟨hh, g, d, t, os⟩ := s
  refine wpAny_call (make_core Y (looks_findIn S.K hm.init) (fun self => bind_fn S.K self hm.fn) (.inl rfl) ?_)
  have k1 : ∀ b o, hh.get? b = some o → (hh.push emptyDict).get? b = some o := fun b o e => Heap.get?_push_of_some _ e
  have S1 := S.pushMu (h' := hh.push emptyDict) (tk := t) (φ := IsDictO c.w []) (Heap.get?_none_of_le (Nat.le_refl _)) k1 (Heap.get?_push_size _ rfl) ⟨[], 0, rfl, .nil⟩
  have S2 := S1.pushP (h' := (hh.push emptyDict).push (instObj C hh.objs.size)) (tk := t) (a := hh.objs.size + 1) (o := instObj C hh.objs.size)
    (Heap.get?_none_of_le (by show (hh.push emptyDict).objs.size ≤ _; rw [Heap.size_push]; exact Nat.le_refl _)) (fun b o e => Heap.get?_push_of_some _ e) (by heap_get)
  exact h (hh.objs.size + 1) hh.objs.size _ _ (hA.under C args) (fun o ho => by have := S.lt ho; exact absurd this (by show ¬ _ < hh.objs.size; lia)) S2
end
end TC1
section TC2
theorem fl_same {x : Str} {v : Value} {r : Flds} : List.lookup x ((x, v) :: r) = some v := by simp
theorem fl_ne {x y : Str} {u : Value} {r : Flds} {o : Option Value} (h : x ≠ y) (k : List.lookup x r = o) : List.lookup x ((y, u) :: r) = o := by
  rw [List.lookup_cons, beq_eq_false_iff_ne.mpr h]; exact k
/-- where a body goes back -/
structure Back (c : Cx) (P C : View) (L : Addr) (Post : View → Led → Value → Prop) (Qb : Flow → Shared → Prop) : Prop where
  ret : ∀ {v s' P' m' mu'}, P.le P' → St c P' C L m' mu' s' → Post P' mu' v → Qb (.ret v) s'
  nxt : ∀ {s' P' m' mu'}, P.le P' → St c P' C L m' mu' s' → Post P' mu' .none → Qb .next s'

noncomputable def CallsC (c : Cx) (n : Nat) (f : Addr) (args : List Value) (P : View) (mu : Led) (Post : View → Led → Value → Prop) : Prop :=
  ∀ {A C L m rho s R}, St c P C L m (mu ++ rho) s → Room A n → (∀ v s' P' mu', P.le P' → St c P' C L m (mu' ++ rho) s' → Post P' mu' v → R (.ok (.ret v)) s') → codeAny c.M A (.call (.ref f) ⟨args, []⟩) R s
/-- what a call does -/
noncomputable def Calls (c : Cx) (n : Nat) (f : Addr) (args : List Value) (P : View) (mu : Led) (Post : View → Led → Value → Prop) : Prop :=
  ∀ {A C L m rho s Q E}, St c P C L m (mu ++ rho) s → Room A n → (∀ v s' P' mu', P.le P' → St c P' C L m (mu' ++ rho) s' → Post P' mu' v → Q v s') → wpAny c.M A (call (.ref f) args) Q E s
theorem CallsC.calls {c : Cx} {n : Nat} {f : Addr} {args : List Value} {P : View} {mu : Led} {Post : View → Led → Value → Prop} (h : CallsC c n f args P mu Post) : Calls c n f args P mu Post :=
  fun S hA k => wpAny_call (h S hA k)
theorem cc {c : Cx} {n : Nat} {f : Addr} {args : List Value} {P C : View} {L : Addr} {m : Loc} {mu rho : Led} {s : Shared} {A : Around} {Post : View → Led → Value → Prop} {Q E : Value → Shared → Prop} (h : CallsC c n f args P mu Post) (S : St c P C L m (mu ++ rho) s) (hA : Room A n)
    (k : ∀ v s' P' mu', P.le P' → St c P' C L m (mu' ++ rho) s' → Post P' mu' v → Q v s') : wpAny c.M A (call (.ref f) args) Q E s := wpAny_call (h S hA k)
theorem ccn {c : Cx} {n : Nat} {f : Addr} {args : List Value} {P C : View} {L : Addr} {m : Loc} {mu : Led} {s : Shared} {A : Around} {Post : View → Led → Value → Prop} {Q E : Value → Shared → Prop} (h : CallsC c n f args P mu Post) (S : St c P C L m mu s) (hA : Room A n)
    (k : ∀ v s' P' mu', P.le P' → St c P' C L m mu' s' → Post P' mu' v → Q v s') : wpAny c.M A (call (.ref f) args) Q E s := cc (rho := []) h (by rw [List.append_nil]; exact S) hA fun v s' P' mu' hP S' hp => k v s' P' mu' hP (by rw [List.append_nil] at S'; exact S') hp
theorem ccMn {c : Cx} {n : Nat} {f : Addr} {args : List Value} {P C : View} {L : Addr} {m : Loc} {mu mu0 : Led} {s : Shared} {A : Around} {p : View → Value → Prop} {Q E : Value → Shared → Prop} (h : CallsC c n f args P mu (fun P' mu' v => mu' = mu0 ∧ p P' v)) (S : St c P C L m mu s) (hA : Room A n)
    (k : ∀ v s' P', P.le P' → St c P' C L m mu0 s' → p P' v → Q v s') : wpAny c.M A (call (.ref f) args) Q E s := ccn h S hA fun v s' P' mu' hP S' hp => k v s' P' hP (by have := hp.1; subst this; exact S') hp.2
theorem cc0 {c : Cx} {n : Nat} {f : Addr} {args : List Value} {P C : View} {L : Addr} {m : Loc} {rho : Led} {s : Shared} {A : Around} {p : View → Value → Prop} {Q E : Value → Shared → Prop} (h : CallsC c n f args P [] (fun P' mu' v => mu' = [] ∧ p P' v)) (S : St c P C L m rho s) (hA : Room A n)
    (k : ∀ v s' P', P.le P' → St c P' C L m rho s' → p P' v → Q v s') : wpAny c.M A (call (.ref f) args) Q E s := cc h S hA fun v s' P' mu' hP S' hp => k v s' P' hP (by have := hp.1; subst this; exact S') hp.2
theorem ccM {c : Cx} {n : Nat} {f : Addr} {args : List Value} {P C : View} {L : Addr} {m : Loc} {mu mu0 rho : Led} {s : Shared} {A : Around} {p : View → Value → Prop} {Q E : Value → Shared → Prop} (h : CallsC c n f args P mu (fun P' mu' v => mu' = mu0 ∧ p P' v)) (S : St c P C L m (mu ++ rho) s) (hA : Room A n)
    (k : ∀ v s' P', P.le P' → St c P' C L m (mu0 ++ rho) s' → p P' v → Q v s') : wpAny c.M A (call (.ref f) args) Q E s := cc h S hA fun v s' P' mu' hP S' hp => k v s' P' hP (by have := hp.1; subst this; exact S') hp.2

section
variable {c : Cx} {P C : View} {L f : Addr} {m : Loc} {mu rho : Led} {s : Shared} {A : Around} {args : List Value} {n : Nat} {Post : View → Led → Value → Prop}
theorem intro {F : Fn} (hf : FnIs c.K f F) (binds : List (Str × Value)) (hb : ∀ s a b e f g h i, BindsTo s (F.data a b e f g h i) ⟨args, []⟩ binds)
    (hloc : ∀ y ∈ binds, F.scope.names.lookup y.1 = some .local) (hcell : ∀ x ∈ F.scope.names, x.2 ≠ .cell)
    (body : ∀ env A' L' C' s₁ Qb Eb, EnvOk env F.scope L' [] → Room A' n → St c P C' L' (binds0 noLoc binds) mu s₁ → Back c P C' L' Post Qb → wpAny c.M A' (execs F.body env) Qb Eb s₁) :
    CallsC c (n + 1) f args P mu Post := fun S hA k =>
  enterC Post S hf hA (fun _ _ _ _ _ _ _ => hb _ _ _ _ _ _ _ _) hloc hcell (fun env A' L' C' s₁ Qb Eb hE hA' S' hret hnext => body env A' L' C' s₁ Qb Eb hE hA' S'
    ⟨fun {v s' P' m' mu'} hP S'' hp => hret v s' P' m' mu' [] hP (by rw [List.append_nil]; exact S'') hp, fun {s' P' m' mu'} hP S'' hp => hnext s' P' m' mu' [] hP (by rw [List.append_nil]; exact S'') hp⟩) k
theorem introK {F : Fn} (hf : FnIs c.K f F) (binds : List (Str × Value)) (hb : ∀ s, c.K.In s.heap → ∀ a b e f g h i, BindsTo s (F.data a b e f g h i) ⟨args, []⟩ binds)
    (hloc : ∀ y ∈ binds, F.scope.names.lookup y.1 = some .local) (hcell : ∀ x ∈ F.scope.names, x.2 ≠ .cell)
    (body : ∀ env A' L' C' s₁ Qb Eb, EnvOk env F.scope L' [] → Room A' n → St c P C' L' (binds0 noLoc binds) mu s₁ → Back c P C' L' Post Qb → wpAny c.M A' (execs F.body env) Qb Eb s₁) :
    CallsC c (n + 1) f args P mu Post := fun S hA k =>
  enterC Post S hf hA (fun _ _ _ _ _ _ _ => hb _ S.K _ _ _ _ _ _ _) hloc hcell (fun env A' L' C' s₁ Qb Eb hE hA' S' hret hnext => body env A' L' C' s₁ Qb Eb hE hA' S'
    ⟨fun {v s' P' m' mu'} hP S'' hp => hret v s' P' m' mu' [] hP (by rw [List.append_nil]; exact S'') hp, fun {s' P' m' mu'} hP S'' hp => hnext s' P' m' mu' [] hP (by rw [List.append_nil]; exact S'') hp⟩) k
end

section
variable {c : Cx} {P C : View} {L : Addr} {m : Loc} {mu : Led} {s : Shared} {A : Around} {env : Env} {E : Value → Shared → Prop} {Q : Value → Shared → Prop} {pos : Pos} {v : Value}

theorem kInt {i : Int} {k : Nat} (h : Q (.int i s.toks) (bump s)) : wpAny c.M A (eval (.Constant (.int i) k pos) env) Q E s := wpAny_Constant_int h
theorem kStr {x : Str} {k : Nat} (h : Q (.str x s.toks) (bump s)) : wpAny c.M A (eval (.Constant (.str x) k pos) env) Q E s := Constant_str h
theorem kNone {k : Nat} (h : Q .none s) : wpAny c.M A (eval (.Constant .none k pos) env) Q E s := fun _ _ _ => h
theorem kBool {b : Bool} {k : Nat} (h : Q (.bool b) s) : wpAny c.M A (eval (.Constant (.bool b) k pos) env) Q E s := fun _ _ _ => h

section
variable (c : Cx) (A : Around) (env : Env)
noncomputable abbrev B1 (f : Value) (Q E : Value → Shared → Prop) : Value → Shared → Prop := fun v1 s1 => wpAny c.M A (call f [v1]) Q E s1
noncomputable abbrev B2b (f v1 : Value) (Q E : Value → Shared → Prop) : Value → Shared → Prop := fun v2 s2 => wpAny c.M A (call f [v1, v2]) Q E s2
noncomputable abbrev B2 (f : Value) (e2 : PySem.Expr) (Q E : Value → Shared → Prop) : Value → Shared → Prop := fun v1 s1 => wpAny c.M A (eval e2 env) (B2b c A f v1 Q E) E s1
end
/-- a built-in of one argument -/
theorem cB1 {id : Str} {b : String} {p : Pos} {e1 : Expr} {sc : PySem.Scope} {cl : List (Str × Addr)} (S : St c P C L m mu s) (hE : EnvOk env sc L cl) (hk : sc.names.lookup id = some .globalImplicit) (e : nsIn c.K mainGlobals id = some none) (hv : bootBuiltins id = some (.builtin b))
    (h : wpAny c.M A (eval e1 env) (B1 c A (.builtin b) Q E) E s) (he : starEach [e1] env = [(false, eval e1 env)] := by rfl) (hn : id ≠ "__name__" := by decide) (hd : (id == ("__debug__" : Str)) = false := by decide) :
    wpAny c.M A (eval (.Call (.Name id p) [e1] [] pos) env) Q E s :=
  wpAny_Call_Name_kw (nm_blt S hE hk e hv (by
    have e0 : backTo pos (starEach [e1] env) = [(false, eval e1 env)] := by rw [he]; rfl
    show wpAny _ _ (callWith pos (.builtin b) [] (backTo pos (starEach [e1] env)) []) _ _ _
    rw [e0]
    exact Calls.callWith_builtin rfl (Calls.evalArgs_plain (Calls.spliced_cons (wpAny_mono h (fun _ _ h₁ => Calls.spliced_nil h₁) fun _ _ e => e)))) hn hd)
theorem cB2 {id : Str} {b : String} {p : Pos} {e1 e2 : Expr} {sc : PySem.Scope} {cl : List (Str × Addr)} (S : St c P C L m mu s) (hE : EnvOk env sc L cl) (hk : sc.names.lookup id = some .globalImplicit) (e : nsIn c.K mainGlobals id = some none) (hv : bootBuiltins id = some (.builtin b))
    (h : wpAny c.M A (eval e1 env) (B2 c A env (.builtin b) e2 Q E) E s) (he : starEach [e1, e2] env = [(false, eval e1 env), (false, eval e2 env)] := by rfl)
    (hn : id ≠ "__name__" := by decide) (hd : (id == ("__debug__" : Str)) = false := by decide) :
    wpAny c.M A (eval (.Call (.Name id p) [e1, e2] [] pos) env) Q E s :=
  wpAny_Call_Name_kw (nm_blt S hE hk e hv (by
    have e0 : backTo pos (starEach [e1, e2] env) = [(false, eval e1 env), (false, eval e2 env)] := by rw [he]; rfl
    show wpAny _ _ (callWith pos (.builtin b) [] (backTo pos (starEach [e1, e2] env)) []) _ _ _
    rw [e0]
    exact Calls.callWith_builtin rfl (Calls.evalArgs_plain (Calls.spliced_cons (wpAny_mono h (fun _ _ h₁ => Calls.spliced_cons (wpAny_mono h₁ (fun _ _ h₂ => Calls.spliced_nil h₂) fun _ _ e => e)) fun _ _ e => e)))) hn hd)

/-- an instance that then stands for good -/
noncomputable def Makes (c : Cx) (n : Nat) (C : Addr) (args : List Value) (P : View) (fs : Flds) : Prop :=
  ∀ {A C' L m mu s Q E}, St c P C' L m mu s → Room A n → (∀ x s' P', P.le P' → St c P' C' L m mu s' → Inst c.w P' x C fs → Q (.ref x) s') → wpAny c.M A (call (.ref C) args) Q E s
theorem makes {C fI : Addr} {args : List Value} {n : Nat} {fs : Flds} (hm : MakeOk c.K C fI)
    (hi : ∀ x dx P', P'  x (instObj C dx) → CallsC c n fI (.ref x :: args) P' [(dx, IsDictO c.w [])] (fun P'' mu' v => P'' = P' ∧ mu' = [(dx, IsDictO c.w fs)] ∧ v = .none)) : Makes c (n + 1) C args P fs := by
  intro A C' L m mu s Q E S hA k
  refine mk S hm hA fun x dx s' A' hA' hx S' => hi x dx _ (View.add_self _ _ _) (rho := mu) S' hA' ?_
  rintro v s'' P' mu' hP S'' ⟨rfl, rfl, rfl⟩
  obtain ⟨o, ho, S3⟩ := St.freeze S''
  exact ⟨rfl, k x s'' _ ((View.le_add _ _ _).trans (View.le_add _ _ _)) S3 ⟨dx, o, View.le_add _ _ _ _ _ (View.add_self _ _ _), View.add_self _ _ _, ho⟩⟩
/-- an instance that may turn -/
noncomputable def MakesM (c : Cx) (n : Nat) (C : Addr) (args : List Value) (P : View) (mu0 : Led) (Post : Addr → Addr → View → Led → Prop) : Prop :=
  ∀ {A C' L m mu s Q E}, St c P C' L m (mu0 ++ mu) s → Room A n → (∀ x dx s' P' mu', P.le P' → St c P' C' L m (mu' ++ mu) s' → P' x (instObj C dx) → Post x dx P' mu' → Q (.ref x) s') → wpAny c.M A (call (.ref C) args) Q E s
theorem makesM {C fI : Addr} {args : List Value} {n : Nat} {mu0 : Led} {Post : Addr → Addr → View → Led → Prop} (hm : MakeOk c.K C fI)
    (hi : ∀ x dx P', P.le P' → P'  x (instObj C dx) → CallsC c n fI (.ref x :: args) P' ((dx, IsDictO c.w []) :: mu0) (fun P'' mu' v => Post x dx P'' mu' ∧ v = .none)) : MakesM c (n + 1) C args P mu0 Post := by
  intro A C' L m mu s Q E S hA k
  refine mk S hm hA fun x dx s' A' hA' hx S' => hi x dx _ (View.le_add _ _ _) (View.add_self _ _ _) (rho := mu) S' hA' ?_
  rintro v s'' P' mu' hP S'' ⟨hp, rfl⟩
  exact ⟨rfl, k x dx s'' P' mu' ((View.le_add _ _ _).trans hP) S'' (hP _ _ (View.add_self _ _ _)) hp⟩

/-! isinstance -/
variable {x C' D : Addr} {fs : Flds}
theorem isiT (S : St c P C L m mu s) (I : Inst c.w P x D fs) (e : isIn c.K (.ref D) D = true) (h : Q (.bool true) s) : wpAny c.M A (call (.builtin "isinstance") [.ref x, .ref D]) Q E s := by
  obtain ⟨dx, o, h1, h2, es, n, rfl, he⟩ := I
  exact isi_call S.K (fun M => (instAt_of (S.keep _ _ h1) (S.keep _ _ h2)).type) e (by intro q; cases q) h
theorem isiF (S : St c P C L m mu s) (I : Inst c.w P x D fs) (k : KinC c.K D) (e : kin_not c.K D C' = true) (h : Q (.bool false) (bump s)) : wpAny c.M A (call (.builtin "isinstance") [.ref x, .ref C']) Q E s := by
  obtain ⟨dx, o, h1, h2, es, n, rfl, he⟩ := I
  exact kin_callC S.K (instAt_of (S.keep _ _ h1) (S.keep _ _ h2)) e k.hg k.hd k.ha k.hn k.ht k.hm h
theorem isiI {i : Int} {t : Tok} (S : St c P C L m mu s) (e : isNotIn c.K "int" C' = true) (h : Q (.bool false) (bump s)) : wpAny c.M A (call (.builtin "isinstance") [.int i t, .ref C']) Q E s :=
  isn_call (P := fun _ => True) S.K (fun M => Looks.of_pure rfl) e (by intro q; cases q) trivial int_cls h
end

/-! the known objects of the start -/
theorem St.P_of {c : Cx} {P C : View} {L : Addr} {m : Loc} {mu : Led} {s : Shared} (S : St c P C L m mu s) {a : Addr} {o : Obj} (h : c.K.lookup a = some o) : P a o := S.base _ _ (c.top.K _ _ h)
end TC2
section TC3
theorem subscriptTail_any {prog : Program} {w : World} {A : Around} {E : Value → Shared → Prop} {s : Shared} {value slice : PySem.Expr} {o i : Value} {T id : String} {ops : List Value} {Q : Value → Shared → Prop} (hT : s.TypeIs o T)
    (hl : typeLookup (.type T) "__getitem__" = pure (some (.builtin id))) (h : wpAny (model prog w) A (getItem o i) Q E s)
    (hs : subscripted slice false o i = operate ops (getItem o i)) : wpAny (model prog w) A (subscriptTail value slice o i) Q E s := by
  unfold subscriptTail
  refine wpAny_bind ?_
  rw [getitemInPython_of_ne hT.not_modules]
  refine wpAny_bind (wpAny_specialOf hT hl ?_)
  have fin : wpAny (model prog w) A (subscripted slice false o i) (fun r s₃ => wpAny (model prog w) A (letTemporaryGo value o r >>= fun _ => pure r) Q E s₃) E s := by
    rw [hs]
    exact wpAny_operating (wpAny_mono h (fun r s₃ h₃ => wpAny_bind (wpAny_letTemporaryGo (wpAny_pure h₃))) fun _ _ x => x)
  first
    | exact wpAny_pure (wpAny_bind fin)
    | exact wpAny_bind (wpAny_pure (wpAny_bind fin))
    | exact wpAny_bind fin
noncomputable def LstO (xs : List Value) (o : Obj) : Prop := ∃ n, o = listOf xs.toArray n
noncomputable def IsLst (P : View) (a : Addr) (xs : List Value) : Prop := Ex1 fun o => P a o ∧ LstO xs o
noncomputable def tupOf (xs : List Value) : Obj := { cls := .type "tuple", data := .seq xs.toArray }
noncomputable def IsTp (P : View) (a : Addr) (xs : List Value) : Prop := P a (tupOf xs)
theorem IsTp.mono {P P' : View} {a : Addr} {xs : List Value} (h : IsTp P a xs) (k : P.le P') : IsTp P' a xs := k _ _ h
theorem IsLst.mono {P P' : View} {a : Addr} {xs : List Value} (h : IsLst P a xs) (k : P.le P') : IsLst P' a xs := let ⟨o, x, y⟩ := h; ⟨o, k _ _ x, y⟩
theorem LstO.inj {xs ys : List Value} {o : Obj} (h : LstO xs o) (k : LstO ys o) : xs = ys := by
  obtain ⟨n, rfl⟩ := h
  obtain ⟨k, e⟩ := k
  have : xs.toArray = ys.toArray := by
    have := congrArg Obj.data e
    injection this
  simpa using this
theorem updOf {D : Addr} {o o' : Obj} : ∀ {pre post : List (Addr × Obj)}, (∀ p ∈ pre, p.1 ≠ D) → (∀ p ∈ post, p.1 ≠ D) → Upd D o o' (pre ++ (D, o) :: post) (pre ++ (D, o') :: post)
  | [], _, _, h => .head h
  | p :: r, _, h, k => .tail (h p (.head _)) (updOf (fun q hq => h q (.tail _ hq)) k)

section
variable {c : Cx} {P C : View} {L a : Addr} {m : Loc} {mu : Led} {s : Shared} {xs ys : List Value} {φ : Obj → Prop} {o : Obj} {A : Around} {E : Value → Shared → Prop} {Q : Value → Shared → Prop}

theorem St.lst (S : St c P C L m mu s) (h : (a, LstO xs) ∈ mu) : s.heap.IsList a xs.toArray := by
  obtain ⟨o, ho, n, rfl⟩ := S.mus _ h
  exact ⟨_, ho, rfl, n, rfl⟩
theorem St.lstP (S : St c P C L m mu s) (h : IsLst P a xs) : s.heap.IsList a xs.toArray := by
  obtain ⟨o, ho, n, rfl⟩ := h
  exact ⟨_, S.keep _ _ ho, rfl, n, rfl⟩

/-- an object of the ledger set aside -/
theorem St.hide (S : St c P C L m ((a, φ) :: mu) s) : Ex1 fun o => φ o ∧ St c P (C.add a o) L m mu s := by
  obtain ⟨o, ho, q⟩ := S.mus _ (.head _)
  have hm : ∀ p ∈ mu, p.1 ≠ a := fun p hp e => (List.nodup_cons.mp S.nodup).1 (List.mem_map.mpr ⟨p, hp, e⟩)
  refine ⟨o, q, S.ns, S.keep, fun b x h => ?_, S.base, fun p hp => S.mus p (.tail _ hp), S.offL, fun p hp => S.offmu p (.tail _ hp), fun b x h => ?_, fun p hp => S.muL p (.tail _ hp), (List.nodup_cons.mp S.nodup).2, S.rest⟩
  · rcases h with h | ⟨rfl, rfl⟩
    · exact S.kep b x h
    · exact ho
  · rcases h with h | ⟨rfl, rfl⟩
    · exact ⟨(S.offC b x h).1, (S.offC b x h).2.1, fun p hp => (S.offC b x h).2.2 p (.tail _ hp)⟩
    · exact ⟨S.offmu (b, φ) (.head _), S.muL (b, φ) (.head _), hm⟩
/-- and taken back -/
theorem St.unhide (S : St c P (C.add a o) L m mu s) (q : φ o) (ha : ∀ x, ¬ C a x) : St c P C L m ((a, φ) :: mu) s := by
  have h0 := S.offC a o (.inr ⟨rfl, rfl⟩)
  refine ⟨S.ns, S.keep, fun b x h => S.kep b x (.inl h), S.base, fun p hp => ?_, S.offL, fun p hp => ?_, fun b x h => ⟨(S.offC b x (.inl h)).1, (S.offC b x (.inl h)).2.1, fun p hp => ?_⟩, fun p hp => ?_, ?_, S.rest⟩
  · rcases List.mem_cons.mp hp with rfl | hp
    · exact ⟨o, S.kep _ _ (.inr ⟨rfl, rfl⟩), q⟩
    · exact S.mus p hp
  · rcases List.mem_cons.mp hp with rfl | hp
    · exact h0.1
    · exact S.offmu p hp
  · rcases List.mem_cons.mp hp with rfl | hp
    · rintro rfl; exact ha _ h
    · exact (S.offC b x (.inl h)).2.2 p hp
  · rcases List.mem_cons.mp hp with rfl | hp
    · exact h0.2.1
    · exact S.muL p hp
  · refine List.nodup_cons.mpr ⟨fun h => ?_, S.nodup⟩
    obtain ⟨p, hp, e⟩ := List.mem_map.mp h
    exact h0.2.2 p hp e
theorem St.unC (S : St c P (C.add a o) L m mu s) : St c P C L m mu s :=
  ⟨S.ns, S.keep, fun b x h => S.kep b x (.inl h), S.base, S.mus, S.offL, S.offmu, fun b x h => S.offC b x (.inl h), S.muL, S.nodup, S.rest⟩
/-- what is on the ledger is not another's -/
theorem St.muC (S : St c P C L m ((a, φ) :: mu) s) : ∀ x, ¬ C a x := fun x h => (S.offC a x h).2.2 (a, φ) (.head _) rfl

theorem St.freezeL (S : St c P C L m ((a, LstO xs) :: mu) s) : Ex1 fun P' => And3 (P.le P') (IsLst P' a xs) (St c P' C L m mu s) :=
  let ⟨o, ho, S'⟩ := S.freeze; ⟨_, View.le_add _ _ _, ⟨o, View.add_self _ _ _, ho⟩, S'⟩
theorem newLst (S : St c P C L m mu s) (h : ∀ a s', (∀ x, ¬ P a x) → St c P C L m ((a, LstO xs) :: mu) s' → Q (.ref a) s') (hz : xs.length ≤ 1000) : wpAny c.M A (newList xs) Q E s := by
  refine wpAny_newObj_type (h _ _ S.fresh.2.1 (S.pushMu (tk := s.toks) (o := { cls := .type "list", data := .seq xs.toArray }) (Heap.get?_none_of_le (Nat.le_refl _)) (fun b o e => Heap.get?_push_of_some _ e) (Heap.get?_push_size _ rfl) ⟨0, rfl⟩)) ?_
  show xs.toArray.size ≤ sizeLine
  rw [List.size_toArray]
  exact Nat.le_trans hz (by decide)
theorem newTup (S : St c P C L m mu s) (h : ∀ a s' P', P.le P' → IsTp P' a xs → St c P' C L m mu s' → Q (.ref a) s') (hz : xs.length ≤ 1000) : wpAny c.M A (newTuple xs) Q E s := by
  refine wpAny_newObj_type (h _ _ _ (View.le_add _ _ _) (View.add_self _ _ _) (S.pushP (tk := s.toks) (o := tupOf xs) (Heap.get?_none_of_le (Nat.le_refl _)) (fun b o e => Heap.get?_push_of_some _ e) (Heap.get?_push_size _ rfl))) ?_
  show xs.toArray.size ≤ sizeLine
  rw [List.size_toArray]
  exact Nat.le_trans hz (by decide)

theorem size_lid {n k : Nat} (h : n ≤ 10000) (e : k = n) : k ≤ sizeLine := by subst e; exact Nat.le_trans h (by decide)
theorem app {x : Value} (S : St c P C L m ((a, LstO xs) :: mu) s) (h : ∀ s', St c P C L m ((a, LstO (xs ++ [x])) :: mu) s' → Q .none s') (hz : xs.length ≤ 10000) : wpAny c.M A (call (.builtin "list.append") [.ref a, x]) Q E s := by
  obtain ⟨o, ho, n, rfl⟩ := S.mus _ (.head _)
  obtain ⟨pre, post, e, e1, e2⟩ := S.split ho
  refine append_K S.fr (e ▸ S.news) (updOf e1 e2) (fun h' F' N' => h _ (S.turned (tk := s.toks) e F' N' ⟨n + 1, by rw [List.push_toArray]⟩)) (size_lid hz (by simp))
theorem popAt {y : Value} {p q : List Value} {i : Int} {u : Tok} (S : St c P C L m ((a, LstO xs) :: mu) s) (e : xs = p ++ y :: q) (hf : Builtin.List.listFitsIndex i = true) (hk : seqIndex? i xs.toArray.size = some p.length)
    (h : ∀ s', St c P C L m ((a, LstO (p ++ q)) :: mu) s' → Q y s') (hz : xs.length ≤ 10000) : wpAny c.M A (call (.builtin "list.pop") [.ref a, .int i u]) Q E s := by
  obtain ⟨o, ho, n, rfl⟩ := S.mus _ (.head _)
  obtain ⟨pre, post, e0, e1, e2⟩ := S.split ho
  refine kl_popAt (p := p) (q := q) S.fr (e0 ▸ S.news) hf hk ?_ (updOf e1 e2) (by simpa using size_lid hz rfl) (fun h' F' N' => h _ (S.turned (tk := s.toks) e0 F' N' ⟨n + 1, rfl⟩))
  subst e
  have : ∀ p : List Value, kl_cut (p ++ y :: q) p.length = some (p, y, q) := fun p => by
    induction p with
    | nil => rfl
    | cons z p ih => simp only [List.cons_append, List.length_cons, kl_cut]; rw [ih]
  simpa using this p
theorem popLast {y : Value} {p : List Value} (S : St c P C L m ((a, LstO (p ++ [y])) :: mu) s)
    (h : ∀ s', St c P C L m ((a, LstO p) :: mu) s' → Q y s') (hz : p.length ≤ 9999) : wpAny c.M A (call (.builtin "list.pop") [.ref a]) Q E s := by
  obtain ⟨o, ho, n, rfl⟩ := S.mus _ (.head _)
  obtain ⟨pre, post, e0, e1, e2⟩ := S.split ho
  refine kl_pop (p := p) S.fr (e0 ▸ S.news) ?_ (updOf e1 e2) (by simpa using size_lid (n := p.length + 1) (by lia) rfl) (fun h' F' N' => h _ (S.turned (tk := s.toks) e0 F' N' ⟨n + 1, rfl⟩))
  have : ∀ p : List Value, kl_last (p ++ [y]) = some (p, y) := fun p => by
    induction p with
    | nil => rfl
    | cons z p ih =>
      cases p with
      | nil => rfl
      | cons z' p' => simp only [List.cons_append, kl_last] at ih ⊢; rw [ih]
  simpa using this p

theorem lenL (S : St c P C L m mu s) (hl : s.heap.IsList a xs.toArray) (hz : xs.length ≤ 10000) (h : ∀ t s', St c P C L m mu s' → Q (.int xs.length t) s') : wpAny c.M A (call (.builtin "len") [.ref a]) Q E s := by
  refine call_len_list hl ?_ ?_
  · simp; lia
  · have := h (s.toks + 1) _ (S.toks (s.toks + 1 + 1))
    simpa using this
theorem itemL {k : Int} {t : Tok} {x : Value} (hl : s.heap.IsList a xs.toArray) (h0 : 0 ≤ k) (hz : k < 10000) (hx : xs[k.toNat]? = some x) (h : Q x s) : wpAny c.M A (getItem (.ref a) (.int k t)) Q E s :=
  wpAny_getItem_list hl h0 (by lia) (by simpa using hx) h
theorem putL0 {t : Tok} {x y : Value} {Q : Unit → Shared → Prop} (S : St c P C L m ((a, LstO (y :: xs)) :: mu) s) (h : ∀ s', St c P C L m ((a, LstO (x :: xs)) :: mu) s' → Q () s') : wpAny c.M A (setItem (.ref a) (.int 0 t) x) Q E s := by
  obtain ⟨o, ho, n, rfl⟩ := S.mus _ (.head _)
  obtain ⟨pre, post, e0, e1, e2⟩ := S.split ho
  exact ki_set (q := x :: xs) S.fr (e0 ▸ S.news) (by lia) (by lia) (by rfl) (updOf e1 e2) (fun h' F' N' => h _ (S.turned (tk := s.toks) e0 F' N' ⟨n, rfl⟩))
/-- methods of a list -/
theorem methL {name : Str} {id : String} {pl : Sem Bool} {Q : Value × List Value → Shared → Prop} (hl : ∃ n, s.heap.get? a = some (listOf xs.toArray n)) (slot : Slot "list" name id) (hty : typeOf (.builtin id) = pure (.type "method_descriptor"))
    (h : Q (.builtin id, [.ref a]) s) : wpAny c.M A (getMethod (.ref a) name pl) Q E s := by
  obtain ⟨n, hl⟩ := hl
  exact getMethod_builtin ⟨_, hl, rfl⟩ PySem.F.plainAttrs_list slot hty (fun b e => by cases e; exact ⟨_, hl, rfl⟩) h
theorem St.lstO (S : St c P C L m mu s) (h : (a, LstO xs) ∈ mu) : ∃ n, s.heap.get? a = some (listOf xs.toArray n) := by
  obtain ⟨o, ho, n, rfl⟩ := S.mus _ h
  exact ⟨n, ho⟩

/-! slices -/
theorem sliceE {lower upper step : Option PySem.Expr} {p : Pos} {env : Env}
    (h : wpAny c.M A (evalPart lower env) (fun l s₁ => wpAny c.M A (evalPart upper env) (fun u s₂ => wpAny c.M A (evalPart step env) (fun st s₃ =>
      Ex5 fun P C L m mu => St c P C L m mu s₃ ∧ ∀ sl s' P', P.le P' → P' sl { cls := .type "slice", data := .fields #[l, u, st] } → St c P' C L m mu s' → Q (.ref sl) s') E s₂) E s₁) E s) : wpAny c.M A (eval (.Slice lower upper step p) env) Q E s :=
  wpAny_Slice (wpAny_mono h (fun l s₁ h₁ => wpAny_mono h₁ (fun u s₂ h₂ => wpAny_mono h₂ (fun st s₃ ⟨P, C, L, m, mu, S, k⟩ =>
    k _ _ _ (View.le_add _ _ _) (View.add_self _ _ _) (S.pushP (tk := s₃.toks) (Heap.get?_none_of_le (Nat.le_refl _)) (fun b o e => Heap.get?_push_of_some _ e) (Heap.get?_push_size _ rfl))) fun _ _ e => e) fun _ _ e => e) fun _ _ e => e)
theorem partNone {Q : Value → Shared → Prop} {env : Env} (h : Q .none s) : wpAny c.M A (evalPart none env) Q E s := wpAny_pure h
theorem sliceT {ops : List Value} {value slice : PySem.Expr} {sl l : Addr} {vl vu vk : Value} {lo hi st : Option Int} (S : St c P C L m mu s) (hl : s.heap.IsList l xs.toArray) (hs : P sl { cls := .type "slice", data := .fields #[vl, vu, vk] })
    (pl : IsPart vl lo) (pu : IsPart vu hi) (pk : IsPart vk st) (h0 : st ≠ some 0) (e : slicePick xs.toArray lo hi st = ys.toArray) (h : ∀ a s', (∀ x, ¬ P a x) → St c P C L m ((a, LstO ys) :: mu) s' → Q (.ref a) s') (hz : xs.length ≤ 10000)
    (hsub : subscripted slice false (.ref l) (.ref sl) = operate ops (getItem (.ref l) (.ref sl)) := by with_unfolding_all rfl) :
    wpAny c.M A (subscriptTail value slice (.ref l) (.ref sl)) Q E s := by
  refine subscriptTail_any (Heap.IsList.typeIs hl) list_getitem_lookup (wpAny_getItem_list_slice hl ⟨_, S.keep _ _ hs, rfl, rfl⟩ pl pu pk h0 ?_ (size_lid hz (by simp))) hsub
  refine h _ _ S.fresh.2.1 (S.pushMu (tk := s.toks) (o := { cls := .type "list", data := .seq (slicePick xs.toArray lo hi st) }) (Heap.get?_none_of_le (Nat.le_refl _)) (fun b o e => Heap.get?_push_of_some _ e) (Heap.get?_push_size _ rfl) ⟨0, ?_⟩)
  rw [e]
/-- list[int] -/
theorem subL {value slice : PySem.Expr} {k : Int} {t : Tok} {x : Value} (hl : s.heap.IsList a xs.toArray) (h0 : 0 ≤ k) (hz : k < 10000) (hx : xs[k.toNat]? = some x) (h : Q x s)
    (hs : subscripted slice false (.ref a) (.int k t) = operate [.ref a, .int k t] (getItem (.ref a) (.int k t)) := by with_unfolding_all rfl) :
    wpAny c.M A (subscriptTail value slice (.ref a) (.int k t)) Q E s :=
  subscriptTail_any (Heap.IsList.typeIs hl) list_getitem_lookup (itemL hl h0 hz hx h) hs
end

/-! iterators -/
structure Steps (c : Cx) (P : View) (it : Addr) (n : Nat) (φ : Nat → Obj → Prop) (val : Nat → Value → Prop) : Prop where
  item : ∀ {P' C L m mu s A Q E i}, P.le P' → A.handled = none → i < n → St c P' C L m ((it, φ i) :: mu) s → (∀ v s', val i v → St c P' C L m ((it, φ (i + 1)) :: mu) s' → Q (some v) s') → wpAny c.M A (pyNext (.ref it)) Q E s
  done : ∀ {P' C L m mu s A Q E}, P.le P' → A.handled = none → St c P' C L m ((it, φ n) :: mu) s → (∀ s', St c P' C L m mu s' → Q none s') → wpAny c.M A (pyNext (.ref it)) Q E s

theorem St.extBut {c : Cx} {P C : View} {L a : Addr} {m : Loc} {mu : Led} {s : Shared} {φ : Obj → Prop} {h' : Heap} {tk : Nat} (S : St c P C L m ((a, φ) :: mu) s) (k : Heap.ExtBut a s.heap h') : St c P C L m mu { s with heap := h', toks := tk } := by
  have hm : ∀ p ∈ mu, p.1 ≠ a := fun p hp e => (List.nodup_cons.mp S.nodup).1 (List.mem_map.mpr ⟨p, hp, e⟩)
  have D := S.drop
  refine ⟨?_, fun b o h => k _ _ (fun e => S.offmu (a, φ) (.head _) o (e ▸ h)) (S.keep b o h), fun b o h => k _ _ (fun e => S.muC o (e ▸ h)) (S.kep b o h), S.base, fun p hp => ?_, D.offL, D.offmu, D.offC, D.muL, D.nodup, D.rest⟩
  · obtain ⟨oL, es, ep, h1, h2⟩ := S.ns
    exact ⟨oL, es, ep, k _ _ (Ne.symm (S.muL (a, φ) (.head _))) h1, h2⟩
  · obtain ⟨o, ho, q⟩ := S.mus p (.tail _ hp)
    exact ⟨o, k _ _ (hm p hp) ho, q⟩

noncomputable def LitO (l : Addr) (i : Nat) (o : Obj) : Prop := o.cls = .type "list_iterator" ∧ o.data = .fields #[.ref l, .int i 0]
theorem steps_list {c : Cx} {P : View} {it l : Addr} {xs : List Value} (hl : IsLst P l xs) : Steps c P it xs.length (LitO l) (fun i v => xs[i]? = some v) where
  item := fun {P' C L m mu s A Q E i} hP hA hi S k => by
    obtain ⟨o, ho, q⟩ := S.mus _ (.head _)
    obtain ⟨x, hx⟩ : ∃ x, xs[i]? = some x := ⟨_, List.getElem?_eq_getElem hi⟩
    refine wpAny_pyNext_list_item ⟨o, ho, q⟩ (S.lstP (hl.mono hP)) (x := x) (by simpa using hx) fun h' ⟨o', ho', q'⟩ hs => k x _ hx (S.turn (tk := s.toks) hs ho' q')
  done := fun {P' C L m mu s A Q E} hP hA S k => by
    obtain ⟨o, ho, q⟩ := S.mus _ (.head _)
    exact wpAny_pyNext_list_end hA ⟨o, ho, q⟩ (S.lstP (hl.mono hP)) (by simp) fun h' hs => k _ (S.extBut (tk := s.toks) hs)
theorem iterL {c : Cx} {P C : View} {L l : Addr} {m : Loc} {mu : Led} {s : Shared} {xs : List Value} {A : Around} {E : Value → Shared → Prop} {Q : Value → Shared → Prop} (S : St c P C L m mu s) (hl : IsLst P l xs)
    (h : ∀ it s', (∀ x, ¬ C it x) → Steps c P it xs.length (LitO l) (fun i v => xs[i]? = some v) → St c P C L m ((it, LitO l 0) :: mu) s' → Q (.ref it) s') : wpAny c.M A (pyIter (.ref l)) Q E s :=
  wpAny_pyIter_list (S.lstP hl) (h _ _ S.fresh.2.2.2 (steps_list hl) (S.pushMu (tk := s.toks) (o := { cls := .type "list_iterator", data := .fields #[.ref l, .int 0 0] }) (Heap.get?_none_of_le (Nat.le_refl _)) (fun b o e => Heap.get?_push_of_some _ e) (Heap.get?_push_size _ rfl) ⟨rfl, rfl⟩))

noncomputable def RitO (x left step : Int) (o : Obj) : Prop := o = { cls := .type "range_iterator", dict := none, data := .fields #[rawInt x, rawInt left, rawInt step], slots := #[] }
theorem steps_range {c : Cx} {P : View} {it : Addr} {a b : Int} {n : Nat} : Steps c P it n (fun i => RitO (a + i * b) (n - i) b) (fun i v => ∃ t, v = .int (a + i * b) t) where
  item := fun {P' C L m mu s A Q E i} hP hA hi S k => by
    obtain ⟨o, ho, q⟩ := S.mus _ (.head _)
    subst q
    refine wpAny_pyNext_range_item ho (by omega) fun h' ho' hs => k _ _ ⟨_, rfl⟩ (S.turn (tk := s.toks + 1) hs ho' ?_)
    show _ = _
    rw [show a + ((i + 1 : Nat) : Int) * b = a + i * b + b by rw [Int.natCast_add, Int.add_mul]; simp [Int.add_assoc], show ((n : Int) - ((i + 1 : Nat) : Int)) = n - i - 1 by lia]
  done := fun {P' C L m mu s A Q E} hP hA S k => by
    obtain ⟨o, ho, q⟩ := S.mus _ (.head _)
    subst q
    exact wpAny_pyNext_range_end hA ho (by lia) fun h' hs => k _ (S.extBut (tk := s.toks) hs)
/-- range(..) gone through -/
theorem iterR {c : Cx} {P C : View} {L r : Addr} {m : Loc} {mu : Led} {s : Shared} {a b d : Int} {t u v : Tok} {n : Nat} {A : Around} {E : Value → Shared → Prop} {Q : Value → Shared → Prop} (S : St c P C L m mu s) (hr : P r { cls := .type "range", dict := none, data := .fields #[.int a t, .int b u, .int d v], slots := #[] })
    (hs : Builtin.Range.small a b d = true) (hn : Builtin.Range.rangeSize a b d = n)
    (h : ∀ it s', (∀ x, ¬ C it x) → Steps c P it n (fun i => RitO (a + i * d) (n - i) d) (fun i v => ∃ t, v = .int (a + i * d) t) → St c P C L m ((it, RitO (a + (0 : Nat) * d) (n - (0 : Nat)) d) :: mu) s' → Q (.ref it) s') : wpAny c.M A (pyIter (.ref r)) Q E s :=
  wpAny_pyIter_range (S.keep _ _ hr) hs (h _ _ S.fresh.2.2.2 steps_range (S.pushMu (tk := s.toks) (Heap.get?_none_of_le (Nat.le_refl _)) (fun b o e => Heap.get?_push_of_some _ e) (Heap.get?_push_size _ rfl) (by rw [hn]; unfold RitO; simp)))

/-! for -/
section
variable {c : Cx} {P C : View} {L it : Addr} {m : Loc} {mu : Led} {s : Shared} {A : Around} {env : Env} {sc : PySem.Scope} {cl : List (Str × Addr)} {x : Str} {p : Pos} {body : List Stmt} {n : Nat} {φ : Nat → Obj → Prop} {val : Nat → Value → Prop} {R : Result → Shared → Prop}
/-- J: how many turns are behind -/
theorem forS (S : St c P C L m ((it, φ 0) :: mu) s) (hE : EnvOk env sc L cl) (hx : sc.names.lookup x = some .local) (hA : A.handled = none) (hC : ∀ x, ¬ C it x) (W : Steps c P it n φ val) (J : Nat → View → Loc → Led → Prop) (h0 : J 0 P m mu)
    (turn : ∀ {i v P' m' mu' s' C' E E2}, i < n → val i v → P.le P' → C.le C' → J i P' m' mu' → St c P' C' L (upd m' x v) mu' s' → (∀ {P'' m'' mu'' s''}, P'.le P'' → J (i + 1) P'' m'' mu'' → St c P'' C' L m'' mu'' s'' → E .next s'') →
      (∀ {v P'' m'' mu'' s''}, P'.le P'' → St c P'' C' L m'' mu'' s'' → (∀ s3, St c P'' C L m'' mu'' s3 → R (.ok (.ret v)) s3) → E (.ret v) s'') → (∀ x s2, notedBy c.M A env (fun e s' => R (.error e) s') x s2 → E2 x s2) →
      wpAny c.M A (execs body env) E E2 s')
    (k : ∀ P' m' mu' s', P.le P' → J n P' m' mu' → St c P' C L m' mu' s' → R (.ok .next) s') : codeAny c.M A (.forLoop (.Name x p) (.ref it) body [] env) R s := by
  refine codeAny_forLoop (fun r s => Ex4 fun i P' m' mu' => And4 (i + r = n) (P.le P') (J i P' m' mu') (St c P' C L m' ((it, φ i) :: mu') s)) ?_ n ⟨0, P, m, mu, by lia, View.le.refl _, h0, S⟩
  rintro r s ⟨i, P', m', mu', hi, hP, hJ, S⟩
  by_cases hn : i < n
  · refine W.item hP hA hn S fun v s' hv S' => ?_
    refine wpAny_assign_Name (sto S' hE hx fun s2 S2 => ?_)
    obtain ⟨o, q, S3⟩ := S2.hide
    refine turn hn hv hP (View.le_add _ _ _) hJ S3 ?_ ?_ (fun _ _ h => h)
    · intro P'' m'' mu'' s'' hP'' hJ'' S''
      exact ⟨r - 1, by omega, i + 1, P'', m'', mu'', by lia, hP.trans hP'', hJ'', S''.unhide q hC⟩
    · intro v P'' m'' mu'' s'' hP'' S'' k
      exact k _ S''.unC
  · have : i = n := by lia
    subst this
    refine W.done hP hA S fun s' S' => ?_
    exact wpAny_execs_nil (k P' m' mu' s' hP hJ S')
end
end TC3
section TC4
noncomputable def relabelS (scope sc : PySem.Scope) : PySem.Scope :=
  { scope with names := scope.names.map fun (n, k) => if (k == .free && sc.kind == .function && sc.names.lookup n == some .cell) then (n, .cell) else (n, k) }
theorem relabel_eq {env : Env} {sc scope : PySem.Scope} {L : Addr} {cl : List (Str × Addr)} (hE : EnvOk env sc L cl) : relabel scope env = relabelS scope sc := by
  unfold relabel relabelS Env.kindOf
  rw [hE.scope]
noncomputable def NsO (m : Loc) (o : Obj) : Prop := Ex2 fun es ep => And3 (o.data = .dict es ep) (StrKeys es) (∀ name, nsFind es name = m name)
theorem nsO_iff {h : Heap} {a : Addr} {m : Loc} : h.Ns a m ↔ Ex1 fun o => h.get? a = some o ∧ NsO m o :=
  ⟨fun ⟨o, es, ep, ho, r, t, u⟩ => ⟨o, ho, es, ep, r, t, u⟩, fun ⟨o, ho, es, ep, r, t, u⟩ => ⟨o, es, ep, ho, r, t, u⟩⟩
section
variable {c : Cx} {P P' C : View} {L a : Addr} {m : Loc} {mu mu' : Led} {s s₀ : Shared} {φ : Obj → Prop} {o : Obj}
theorem St.known (S : St c P C L m mu s) (ho : s.heap.get? a = some o) (q : φ o) (h1 : ∀ x, ¬ P a x) (h2 : a ≠ L) (h3 : ∀ p ∈ mu, p.1 ≠ a) (h4 : ∀ x, ¬ C a x) : St c P C L m ((a, φ) :: mu) s := by
  refine ⟨S.ns, S.keep, S.kep, S.base, fun p hp => ?_, S.offL, fun p hp => ?_, fun b x h => ⟨(S.offC b x h).1, (S.offC b x h).2.1, fun p hp => ?_⟩, fun p hp => ?_, ?_, S.rest⟩
  · rcases List.mem_cons.mp hp with rfl | hp
    · exact ⟨o, ho, q⟩
    · exact S.mus p hp
  · rcases List.mem_cons.mp hp with rfl | hp
    · exact h1
    · exact S.offmu p hp
  · rcases List.mem_cons.mp hp with rfl | hp
    · rintro rfl; exact h4 _ h
    · exact (S.offC b x h).2.2 p hp
  · rcases List.mem_cons.mp hp with rfl | hp
    · exact h2
    · exact S.muL p hp
  · refine List.nodup_cons.mpr ⟨fun h => ?_, S.nodup⟩
    obtain ⟨p, hp, e⟩ := List.mem_map.mp h
    exact h3 p hp e
/-- back to the caller's frame, the left one on the ledger -/
theorem St.back1 {L' : Addr} {m' : Loc} {mu0 : Led} (S₀ : St c P C L m mu0 s₀) (S : St c P' (under C L [] s₀) L' m' mu' s) (hP : P.le P') : St c P' C L m ((L', NsO m') :: mu') s := by
  have S1 := St.leave (mu := mu0) (rho := []) (junk := []) (by rw [List.append_nil]; exact S₀) (by rw [List.append_nil]; exact S) hP
  rw [List.append_nil] at S1
  obtain ⟨o, ho, q⟩ := nsO_iff.mp S.ns
  refine S1.known ho q S.offL ?_ (fun p hp e => S.muL p hp e) (fun x h => (S.offC _ x (.inl h)).2.1 rfl)
  rintro rfl
  obtain ⟨oL, _, _, hL, _⟩ := S₀.ns
  exact (S.offC _ oL (.inr ⟨.inl rfl, hL⟩)).2.1 rfl
theorem St.sameDrop (S : St c P C L m ((a, φ) :: mu) s) {h' : Heap} {tk : Nat} (k : Heap.SameBut a s.heap h') : St c P C L m mu { s with heap := h', toks := tk } := S.extBut k.extBut
end

section
variable {c : Cx} {P C : View} {L it : Addr} {m : Loc} {mu : Led} {s : Shared} {A : Around} {env : Env} {sc scope : PySem.Scope} {cl cl' : List (Str × Addr)} {x : Str} {px pos : Pos} {elt iter : PySem.Expr} {n : Nat} {φ : Nat → Obj → Prop} {val : Nat → Value → Prop}
  {RR : Value → Addr → Result → Shared → Prop} {E : Value → Shared → Prop}
theorem compBlock (S : St c P C L m ((it, φ 0) :: mu) s) (hE : EnvOk env sc L cl) (hA : A.handled = none) (W : Steps c P it n φ val)
    (self : ∀ {P' C L m mu s A Q E}, P.le P' → St c P' C L m ((it, φ 0) :: mu) s → Q (.ref it) s → wpAny c.M A (pyIter (.ref it)) Q E s)
    (hz : n ≤ 9000) (hC : ∀ x, ¬ C it x) (hcell : ∀ y ∈ scope.names, y.2 ≠ .cell) (hkind : scope.kind = .function) (hx : scope.names.lookup x = some .local)
    (J : Nat → View → Led → List Value → Prop) (h0 : J 0 P mu [])
    (turn : ∀ {i v P' mu' ys s' Lc m' C' cenv E Eb}, i < n → val i v → P.le P' → J i P' mu' ys → EnvOk cenv (relabelS scope sc) Lc cl' → m' x = some v → St c P' C' Lc m' mu' s' →
      (∀ {y P'' m'' mu'' s''}, P'.le P'' → J (i + 1) P'' mu'' (ys ++ [y]) → St c P'' C' Lc m'' mu'' s'' → E y s'') → wpAny c.M A (eval elt cenv) E Eb s')
    (k : ∀ {D Lc P' mu' ys s' m'}, P.le P' → J n P' mu' ys → ys.length = n → St c P' C L m ((Lc, NsO m') :: (D, LstO ys) :: mu') s' → RR (.ref D) Lc (.ok .next) s') :
    wpAny c.M A (newList []) (fun acc s₃ => wpAny c.M A (newFunctionEnv scope env.globals cl' [] env.qual none .none (some env)) (fun cenv s₄ =>
      codeAny c.M A (.compStart (.ListComp elt [⟨.Name x px, iter, [], 0⟩] scope pos) 0 (.ref it) acc { cenv with scope := relabel scope env }) (RR acc cenv.locals) s₄) E s₃) E s := by
  refine newLst S (fun D s3 hD S3 => ?_) (by simp)
  have S3' : St c P C L m ((it, φ 0) :: (D, LstO []) :: mu) s3 := S3.perm (List.Perm.swap ..)
  refine wpAny_newFunctionEnv hcell (by intro y hy; simp at hy) (fun h₁ hns₁ hsb₁ => ?_) hkind
  rw [binds_start] at hns₁
  have S4 := St.enter (rho := []) (tk := s3.toks + ([] : List (Str × Value)).length) (by rw [List.append_nil]; exact S3') (Heap.get?_none_of_le (Nat.le_refl _)) hns₁
    (fun b o e => hsb₁.extBut b o (Nat.ne_of_lt (Heap.lt_size e)) (Heap.get?_push_of_some _ e))
  have hEc : EnvOk { newEnv scope s3.heap.objs.size env.globals cl' env.qual none .none (some env) env.builtins with scope := relabel scope env } (relabel scope env) s3.heap.objs.size cl' :=
    ⟨rfl, hkind, rfl, hE.globals, hE.builtins, rfl⟩
  generalize hL : s3.heap.objs.size = Lc at *
  have hCit : ∀ x, ¬ under C L [] s3 it x := by
    rintro x (h | ⟨rfl | ⟨p, hp, _⟩, _⟩)
    · exact hC x h
    · exact S3'.muL (_, φ 0) (.head _) rfl
    · cases hp
  have loop : ∀ s4, St c P (under C L [] s3) Lc (binds0 noLoc []) ((it, φ 0) :: (D, LstO []) :: mu) s4 →
      codeAny c.M A (.compLoop (.ListComp elt [⟨.Name x px, iter, [], 0⟩] scope pos) 0 (.ref it) (.ref D) { newEnv scope Lc env.globals cl' env.qual none .none (some env) env.builtins with scope := relabel scope env }) (RR (.ref D) Lc) s4 := by
    intro s4 S4
    refine codeAny_compLoop_tests (fun r s => Ex5 fun i P' m' mu' ys => And5 (i + r = n) (P.le P') (J i P' mu' ys) (ys.length = i) (St c P' (under C L [] s3) Lc m' ((it, φ i) :: (D, LstO ys) :: mu') s)) ?_ n ⟨0, P, _, mu, [], by lia, View.le.refl _, h0, rfl, S4⟩
    rintro r s ⟨i, P', m', mu', ys, hi, hP, hJ, hlen, S⟩
    by_cases hn : i < n
    · refine W.item hP hA hn S fun v s' hv S' => ?_
      refine wpAny_assign_Name (sto S' hEc (lookup_relabel_local hx) fun s2 S2 => ?_)
      simp only [List.forIn_nil]
      refine wpAny_pure ?_
      rw [if_pos rfl]
      obtain ⟨o1, q1, S5⟩ := S2.hide
      obtain ⟨o2, q2, S6⟩ := S5.hide
      refine turn hn hv hP hJ (relabel_eq hE ▸ hEc) upd_same S6 ?_
      intro y P'' m'' mu'' s'' hP'' hJ'' S''
      have hD1 : ∀ x, ¬ (under C L [] s3).add it o1 D x := fun x h => S5.muC x h
      have S7 := (S''.unhide q2 hD1)
      refine app S7 (fun s5 S8 => ?_) (by lia)
      have S9 := (S8.unhide q1 hCit)
      exact ⟨r - 1, by lia, i + 1, P'', m'', mu'', ys ++ [y], by lia, hP.trans hP'', hJ'', by simp [hlen], S9⟩
    · have : i = n := by lia
      subst this
      refine W.done hP hA S fun s' S' => ?_
      exact k hP hJ hlen (St.back1 S3' S' hP)
  exact codeAny_compStart_list (loop _ S4) (self (View.le.refl _) S4 (loop _ S4))

/-- [elt for x in iter] -/
theorem compE (hE : EnvOk env sc L cl) (hclos : closureFor scope env = pure cl') (hnames : ∀ y ∈ scope.names, y.2 = .local → scope.names.lookup y.1 = some .local) (hcell : ∀ y ∈ scope.names, y.2 ≠ .cell) (hkind : scope.kind = .function)
    (hx : scope.names.lookup x = some .local) (hA : A.handled = none) {Q : Value → Shared → Prop}
    (h : wpAny c.M A (eval iter env) (fun xv s₁ => wpAny c.M A (pyIter xv) (fun itv s₂ => Ex8 fun it P C m mu n φ val => Ex1 fun (J : Nat → View → Led → List Value → Prop) => And9 (itv = .ref it) (St c P C L m ((it, φ 0) :: mu) s₂) (Steps c P it n φ val) ((∀ {P' C L m mu s A Q E}, P.le P' → St c P' C L m ((it, φ 0) :: mu) s → Q (.ref it) s → wpAny c.M A (pyIter (.ref it)) Q E s)) (n ≤ 9000) ((∀ x, ¬ C it x)) (J 0 P mu []) ((∀ {i v P' mu' ys s' Lc m' C' cenv E Eb}, i < n → val i v → P.le P' → J i P' mu' ys → EnvOk cenv (relabelS scope sc) Lc cl' → m' x = some v → St c P' C' Lc m' mu' s' →
        (∀ {y P'' m'' mu'' s''}, P'.le P'' → J (i + 1) P'' mu'' (ys ++ [y]) → St c P'' C' Lc m'' mu'' s'' → E y s'') → wpAny c.M A (eval elt cenv) E Eb s')) ((∀ {D P' mu' ys s'}, P.le P' → J n P' mu' ys → ys.length = n → St c P' C L m ((D, LstO ys) :: mu') s' → Q (.ref D) s'))) E s₁) E s)
    (hs : ∀ x, foldedSetIterable iter env x = pure x := by intro _; rfl) :
    wpAny c.M A (eval (.ListComp elt [⟨.Name x px, iter, [], 0⟩] scope pos) env) Q E s := by
  rw [eval_ListComp]
  refine wpAny_comprehension_free rfl hs hclos hkind hnames (wpAny_mono h (fun xv s₁ h₁ => wpAny_mono h₁ (fun itv s₂ h₂ => ?_) fun _ _ e => e) fun _ _ e => e)
  obtain ⟨it, P, C, m, mu, n, φ, val, J, rfl, S, W, self, hz, hC, h0, turn, k⟩ := h₂
  refine compBlock (RR := fun acc Lc => compPost c.M A E none Q acc Lc) S hE hA W self hz hC hcell hkind hx J h0 turn ?_
  intro D Lc P' mu' ys s' m' hP hJ hl S'
  obtain ⟨o, ho, q⟩ := S'.mus _ (.head _)
  exact ⟨m', nsO_iff.mpr ⟨o, ho, q⟩, fun h' hs => k hP hJ hl (S'.sameDrop (tk := s'.toks) hs)⟩
/-- y = [elt for x in iter] -/
theorem compA {y : Str} {py spos : Pos} (hsw : swapsWith (.ListComp elt [⟨.Name x px, iter, [], 0⟩] scope pos) (some (.Name y py)) spos.line env = pure true)
    (hE : EnvOk env sc L cl) (hy : sc.names.lookup y = some .local) (hclos : closureFor scope env = pure cl') (hnames : ∀ y ∈ scope.names, y.2 = .local → scope.names.lookup y.1 = some .local) (hcell : ∀ y ∈ scope.names, y.2 ≠ .cell) (hkind : scope.kind = .function)
    (hx : scope.names.lookup x = some .local) (hA : A.handled = none) {Q : Flow → Shared → Prop}
    (h : wpAny c.M A (eval iter env) (fun xv s₁ => wpAny c.M A (pyIter xv) (fun itv s₂ => Ex8 fun it P C m mu n φ val => Ex1 fun (J : Nat → View → Led → List Value → Prop) => And9 (itv = .ref it) (St c P C L m ((it, φ 0) :: mu) s₂) (Steps c P it n φ val) ((∀ {P' C L m mu s A Q E}, P.le P' → St c P' C L m ((it, φ 0) :: mu) s → Q (.ref it) s → wpAny c.M A (pyIter (.ref it)) Q E s)) (n ≤ 9000) ((∀ x, ¬ C it x)) (J 0 P mu []) ((∀ {i v P' mu' ys s' Lc m' C' cenv E Eb}, i < n → val i v → P.le P' → J i P' mu' ys → EnvOk cenv (relabelS scope sc) Lc cl' → m' x = some v → St c P' C' Lc m' mu' s' →
        (∀ {y P'' m'' mu'' s''}, P'.le P'' → J (i + 1) P'' mu'' (ys ++ [y]) → St c P'' C' Lc m'' mu'' s'' → E y s'') → wpAny c.M A (eval elt cenv) E Eb s')) ((∀ {D P' mu' ys s'}, P.le P' → J n P' mu' ys → ys.length = n → St c P' C L (upd m y (.ref D)) ((D, LstO ys) :: mu') s' → Q .next s'))) E s₁) E s)
    (hs : ∀ x, foldedSetIterable iter env x = pure x := by intro _; rfl) :
    wpAny c.M A (exec (.Assign [.Name y py] (.ListComp elt [⟨.Name x px, iter, [], 0⟩] scope pos) spos) env) Q E s := by
  rw [exec_Assign_Name_used _ _ _ _ hsw]
  refine wpAny_bind (wpAny_standAt (wpAny_bind ?_))
  show wpAny _ A (do let _ ← comprehension (.ListComp elt [⟨.Name x px, iter, [], 0⟩] scope pos) scope env _ (newList []) false (eval iter env) (some (assign (.Name y py) env))) _ _ s
  refine wpAny_bind (wpAny_mono (wpAny_comprehension_free (use := some (assign (.Name y py) env)) (Q := fun _ s' => Q .next s') rfl hs hclos hkind hnames
    (wpAny_mono h (fun xv s₁ h₁ => wpAny_mono h₁ (fun itv s₂ h₂ => ?_) fun _ _ e => e) fun _ _ e => e)) (fun _ s' hq => wpAny_pure (wpAny_pure hq)) fun _ _ e => e)
  obtain ⟨it, P, C, m, mu, n, φ, val, J, rfl, S, W, self, hz, hC, h0, turn, k⟩ := h₂
  refine compBlock (RR := fun acc Lc => compPost c.M A E (some (assign (.Name y py) env)) (fun _ s' => Q .next s') acc Lc) S hE hA W self hz hC hcell hkind hx J h0 turn ?_
  intro D Lc P' mu' ys s' m' hP hJ hl S'
  show wpAny _ A (assign (.Name y py) env (.ref D)) _ _ _
  refine wpAny_assign_Name (sto S' hE hy fun s2 S2 => ?_)
  obtain ⟨o, ho, q⟩ := S2.mus _ (.head _)
  exact ⟨m', nsO_iff.mpr ⟨o, ho, q⟩, fun h' hs => k hP hJ hl (S2.sameDrop (tk := s2.toks) hs)⟩
end
theorem self_list {c : Cx} {P : View} {it l : Addr} {P' C : View} {L : Addr} {m : Loc} {mu : Led} {s : Shared} {A : Around} {Q : Value → Shared → Prop} {E : Value → Shared → Prop} (hP : P.le P') (S : St c P' C L m ((it, LitO l 0) :: mu) s) (h : Q (.ref it) s) : wpAny c.M A (pyIter (.ref it)) Q E s := by
  obtain ⟨o, ho, q⟩ := S.mus _ (.head _)
  exact wpAny_pyIter_listiter (l := l) (i := 0) ⟨o, ho, q⟩ h
theorem self_range {c : Cx} {P : View} {it : Addr} {x a b : Int} {P' C : View} {L : Addr} {m : Loc} {mu : Led} {s : Shared} {A : Around} {Q : Value → Shared → Prop} {E : Value → Shared → Prop} (hP : P.le P') (S : St c P' C L m ((it, RitO x a b) :: mu) s) (h : Q (.ref it) s) : wpAny c.M A (pyIter (.ref it)) Q E s := by
  obtain ⟨o, ho, q⟩ := S.mus _ (.head _)
  subst q
  exact wpAny_pyIter_rangeiter ho h

/-! a def with captured names -/
inductive Splits (names : List (Str × NameKind)) : List (Str × Value) → List (Str × Value) → List (Str × Value) → Prop
  | nil : Splits names [] [] []
  | loc {n v r l d} : names.lookup n = some .local → Splits names r l d → Splits names ((n, v) :: r) ((n, v) :: l) d
  | cell {n v r l d} : names.lookup n = some .cell → Splits names r l d → Splits names ((n, v) :: r) l ((n, v) :: d)
theorem Splits.bindL {names : List (Str × NameKind)} {k : Str → Option NameKind} (hk : ∀ n, k n = names.lookup n) {b l d : List (Str × Value)} (h : Splits names b l d) : ∀ m, PySem.bindL k b m = binds0 m l := by
  induction h with
  | nil => intro m; rfl
  | loc h r ih => intro m; rw [PySem.bindL, hk, h, if_pos rfl, ih]; rfl
  | cell h r ih => intro m; rw [PySem.bindL, hk, h, if_neg (by decide), ih]
theorem Splits.bindC {names : List (Str × NameKind)} {k : Str → Option NameKind} (hk : ∀ n, k n = names.lookup n) {b l d : List (Str × Value)} (h : Splits names b l d) : ∀ m, PySem.bindC k b m = binds0 m d := by
  induction h with
  | nil => intro m; rfl
  | loc h r ih => intro m; rw [PySem.bindC, hk, h, if_pos rfl, ih]
  | cell h r ih => intro m; rw [PySem.bindC, hk, h, if_neg (by decide), ih]; rfl
theorem cellsFrom_acc : ∀ (names : List (Str × NameKind)) (n : Nat) (acc : List (Str × Addr)) (y : Str), (acc.lookup y).isSome = true → ((cellsFrom n names acc).lookup y).isSome = true
  | [], _, _, _, h => h
  | (name, k) :: r, n, acc, y, h => by
    unfold cellsFrom
    split
    · refine cellsFrom_acc r _ _ y ?_
      rw [List.lookup_cons]
      split
      · rfl
      · exact h
    · exact cellsFrom_acc r _ _ y h
theorem cellsFrom_cell : ∀ (names : List (Str × NameKind)) (n : Nat) (acc : List (Str × Addr)) (y : Str), names.lookup y = some .cell → ((cellsFrom n names acc).lookup y).isSome = true
  | [], _, _, _, h => by cases h
  | (name, k) :: r, n, acc, y, h => by
    rw [List.lookup_cons] at h
    unfold cellsFrom
    split at h
    · rename_i e
      cases h
      rw [if_pos (by decide)]
      refine cellsFrom_acc r _ _ y ?_
      rw [List.lookup_cons, e]; rfl
    · split
      · exact cellsFrom_cell r _ _ y h
      · exact cellsFrom_cell r _ _ y h
theorem Splits.kind {names : List (Str × NameKind)} {n : Nat} {b l d : List (Str × Value)} (h : Splits names b l d) : ∀ x ∈ b, names.lookup x.1 = some .local ∨ (names.lookup x.1 = some .cell ∧ ((cellsFrom n names []).lookup x.1).isSome = true) := by
  induction h with
  | nil => exact fun _ h => nomatch h
  | loc h r ih =>
    intro x hx
    rcases List.mem_cons.mp hx with rfl | hx
    · exact .inl h
    · exact ih x hx
  | cell h r ih =>
    intro x hx
    rcases List.mem_cons.mp hx with rfl | hx
    · exact .inr ⟨h, cellsFrom_cell _ _ _ _ h⟩
    · exact ih x hx

section
variable {c : Cx} {P P' C : View} {L a : Addr} {m : Loc} {mu : Led} {s : Shared} {o : Obj}
theorem St.addP (S : St c P C L m mu s) (ho : s.heap.get? a = some o) (h2 : a ≠ L) (h3 : ∀ p ∈ mu, p.1 ≠ a) (h4 : ∀ x, ¬ C a x) : St c (P.add a o) C L m mu s := by
  refine ⟨S.ns, fun b x h => ?_, S.kep, fun b x h => .inl (S.base b x h), S.mus, fun x h => ?_, fun p hp x h => ?_, fun b x h => ⟨fun x' k => ?_, (S.offC b x h).2.1, (S.offC b x h).2.2⟩, S.muL, S.nodup, S.rest⟩
  · rcases h with h | ⟨rfl, rfl⟩
    · exact S.keep b x h
    · exact ho
  · rcases h with h | ⟨e, rfl⟩
    · exact S.offL x h
    · exact h2 e.symm
  · rcases h with h | ⟨e, rfl⟩
    · exact S.offmu p hp x h
    · exact h3 p hp e
  · rcases k with k | ⟨e, rfl⟩
    · exact (S.offC b x h).1 x' k
    · exact h4 x (e ▸ h)

theorem introC {f : Addr} {args : List Value} {n : Nat} {Post : View → Led → Value → Prop} {F : Fn} (hf : FnIs c.K f F) {binds lb cb : List (Str × Value)} (hb : ∀ a b e f' g h i, bindArgs (F.data a b e f' g h i) ⟨args, []⟩ = pure binds)
    (hs : Splits F.scope.names binds lb cb)
    (body : ∀ env A' L' C' s₁ P₁ cl Qb Eb, P.le P₁ → EnvOk env F.scope L' cl → Room A' n → St c P₁ C' L' (binds0 noLoc lb) mu s₁ → (∀ y v, F.scope.names.lookup y = some .cell → binds0 noLoc cb y = some v → Ex2 fun a o => And3 (cl.lookup y = some a) (P₁ a o) (o.data = .cell (some v))) →
      Back c P₁ C' L' Post Qb → wpAny c.M A' (execs F.body env) Qb Eb s₁) :
    CallsC c (n + 1) f args P mu Post := by
  intro A C L m rho s R S hA k
  obtain ⟨n1, n2, n3, n4, n5, n6, n7, oc, od, osl, h, hcode⟩ := hf.at_
  refine codeAny_call_cells (fd := F.data n1 n2 n3 n4 n5 n6 n7) (body := F.body) (binds := binds) hA.here (S.K _ _ h) rfl S.nolimit (codeRec_of S.K hcode) rfl (hb _ _ _ _ _ _ _) rfl hs.kind (fun s₁ X => ?_) hf.co hf.gen hf.kind
  have hkk : ∀ y, (callEnvC (F.data n1 n2 n3 n4 n5 n6 n7) s.heap.objs.size f).kindOf y = F.scope.names.lookup y := fun _ => rfl
  rw [hs.bindL hkk, hs.bindC hkk] at X
  obtain ⟨h', tk, e, hk⟩ := X.done
  have hns := X.toInCall.ns
  subst e
  have S₁ := S.enter (tk := tk) (rho := rho) (Heap.get?_none_of_le (Nat.le_refl _)) hns hk
  -- the cells stand for good
  have key : ∀ cs : List (Str × Addr), (∀ q ∈ cs, s.heap.objs.size < q.2 ∧ Ex2 fun o v => h'.get? q.2 = some o ∧ o.data = .cell v) →
      Ex1 fun P₁ => And3 (P.le P₁) ((∀ q ∈ cs, ∀ o, h'.get? q.2 = some o → P₁ q.2 o)) (St c P₁ (under C L rho s) s.heap.objs.size (binds0 noLoc lb) mu { s with heap := h', toks := tk }) := by
    intro cs
    induction cs with
    | nil => exact fun _ => ⟨P, View.le.refl _, fun q hq => (nomatch hq), S₁⟩
    | cons q cs ih =>
      intro hq
      obtain ⟨P₁, k1, k2, S₂⟩ := ih fun q' hq' => hq q' (.tail _ hq')
      obtain ⟨hlt, o, v, ho, hd⟩ := hq q (.head _)
      have none_ : s.heap.get? q.2 = none := Heap.get?_none_of_le (Nat.le_of_lt hlt)
      refine ⟨P₁.add q.2 o, k1.trans (View.le_add _ _ _), fun q' hq' o' ho' => ?_, S₂.addP ho (Nat.ne_of_gt hlt) (fun p hp e => ?_) (fun x hx => ?_)⟩
      · rcases List.mem_cons.mp hq' with rfl | hq'
        · rw [ho] at ho'; cases ho'; exact View.add_self _ _ _
        · exact .inl (k2 q' hq' o' ho')
      · obtain ⟨x, hx, _⟩ := S.mus p (List.mem_append_left _ hp)
        rw [e, none_] at hx; cases hx
      · rcases hx with hx | ⟨_, hx⟩
        · have := S.kep _ _ hx; rw [none_] at this; cases this
        · rw [none_] at hx; cases hx
  have hap : ∀ q ∈ (callEnvC (F.data n1 n2 n3 n4 n5 n6 n7) s.heap.objs.size f).cells, s.heap.objs.size < q.2 := fun q hq => X.above q.1 q.2 hq
  obtain ⟨P₁, k1, k2, S₂⟩ := key ((callEnvC (F.data n1 n2 n3 n4 n5 n6 n7) s.heap.objs.size f).cells.filter fun q => (callEnvC (F.data n1 n2 n3 n4 n5 n6 n7) s.heap.objs.size f).cells.lookup q.1 == some q.2) (fun q hq => by
    obtain ⟨h1, h2⟩ := List.mem_filter.mp hq
    obtain ⟨o, ho, hd⟩ := X.cell q.1 q.2 (by simpa using h2)
    exact ⟨hap q h1, o, _, ho, hd⟩)
  refine body _ _ _ _ _ P₁ _ _ _ k1 ⟨rfl, hf.kind, rfl, rfl, rfl, rfl⟩ (hA.deeper _) S₂ (fun y v hy hv => ?_) ⟨fun {v s' P' m' mu'} hP S' hp => k _ _ _ _ (k1.trans hP) ?_ hp, fun {s' P' m' mu'} hP S' hp => k _ _ _ _ (k1.trans hP) ?_ hp⟩
  · have hsome := cellsFrom_cell F.scope.names (s.heap.objs.size + 1) [] y hy
    obtain ⟨a, ha⟩ := Option.isSome_iff_exists.mp hsome
    obtain ⟨o, ho, hd⟩ := X.cell y a ha
    have hm : (y, a) ∈ cellsFrom (s.heap.objs.size + 1) F.scope.names [] := by
      revert ha
      generalize cellsFrom (s.heap.objs.size + 1) F.scope.names [] = l
      induction l with
      | nil => intro h; cases h
      | cons q l ih =>
        intro h
        rw [List.lookup_cons] at h
        split at h
        · rename_i e
          cases h
          have : y = q.1 := by simpa using e
          subst this
          exact .head _
        · exact .tail _ (ih h)
    exact ⟨a, o, ha, k2 (y, a) (List.mem_filter.mpr ⟨hm, beq_iff_eq.mpr ha⟩) o ho, by rw [hd]; exact congrArg Data.cell hv⟩
  · exact S.leave (junk := []) (by rw [List.append_nil]; exact S') (k1.trans hP)
  · exact S.leave (junk := []) (by rw [List.append_nil]; exact S') (k1.trans hP)
end
end TC4
section TC5
mutual
inductive Rd (P : View) : Value → PyData → Prop
  | none : Rd P .none .none
  | bool (b) : Rd P (.bool b) (.bool b)
  | int (i t) : Rd P (.int i t) (.int i)
  | str (x t) : Rd P (.str x t) (.str x)
  | list {a vs xs} : IsLst P a vs → RdAll P vs xs → Rd P (.ref a) (.list xs)
  | tuple {a vs xs} : IsTp P a vs → RdAll P vs xs → Rd P (.ref a) (.tuple xs)
inductive RdAll (P : View) : List Value → List PyData → Prop
  | nil : RdAll P [] []
  | cons {v vs d ds} : Rd P v d → RdAll P vs ds → RdAll P (v :: vs) (d :: ds)
end
theorem Rd.mono {P P' : View} (h : P.le P') {v : Value} {d : PyData} (r : Rd P v d) : Rd P' v d :=
  Rd.rec (motive_1 := fun v d _ => Rd P' v d) (motive_2 := fun v d _ => RdAll P' v d) .none .bool .int .str (fun a _ k => .list (a.mono h) k) (fun a _ k => .tuple (h _ _ a) k) .nil (fun _ _ a b => .cons a b) r
theorem RdAll.ind {P : View} {motive : List Value → List PyData → Prop} (n : motive [] []) (k : ∀ {v vs d ds}, Rd P v d → RdAll P vs ds → motive vs ds → motive (v :: vs) (d :: ds)) {v : List Value} {d : List PyData} (r : RdAll P v d) : motive v d :=
  RdAll.rec (motive_1 := fun _ _ _ => True) (motive_2 := fun v d _ => motive v d) trivial (fun _ => trivial) (fun _ _ => trivial) (fun _ _ => trivial) (fun _ _ _ => trivial) (fun _ _ _ => trivial) n (fun a b _ e => k a b e) r
theorem RdAll.mono {P P' : View} (h : P.le P') {v : List Value} {d : List PyData} (r : RdAll P v d) : RdAll P' v d := RdAll.ind (motive := fun v d => RdAll P' v d) .nil (fun a _ e => .cons (a.mono h) e) r
theorem Rd.reads {P : View} {h : Heap} (hk : ∀ a o, P a o → h.get? a = some o) {v : Value} {d : PyData} (r : Rd P v d) : ∃ as, Reads h v d as :=
  Rd.rec (motive_1 := fun v d _ => ∃ as, Reads h v d as) (motive_2 := fun v d _ => ∃ as, ReadsAll h v d as) ⟨_, .none⟩ (fun b => ⟨_, .bool b⟩) (fun i t => ⟨_, .int i t⟩) (fun x t => ⟨_, .str x t⟩)
    (fun ⟨o, ho, n, e⟩ _ ⟨_, r⟩ => ⟨_, .list (n := n) (hk _ _ (e ▸ ho)) rfl rfl (by simpa using r)⟩) (fun a _ ⟨_, r⟩ => ⟨_, .tuple (n := 0) (hk _ _ a) rfl rfl (by simpa using r)⟩) ⟨_, .nil⟩ (fun _ _ ⟨_, r⟩ ⟨_, q⟩ => ⟨_, .cons r q⟩) r
theorem RdAll.length {P : View} {v : List Value} {d : List PyData} (h : RdAll P v d) : v.length = d.length := RdAll.ind (motive := fun v d => v.length = d.length) rfl (fun _ _ e => congrArg Nat.succ e) h
theorem RdAll.get {P : View} {vs : List Value} {ds : List PyData} (h : RdAll P vs ds) : ∀ {i : Nat} {v : Value}, vs[i]? = some v → Ex1 fun d => ds[i]? = some d ∧ Rd P v d :=
  RdAll.ind (motive := fun vs ds => ∀ {i : Nat} {v : Value}, vs[i]? = some v → Ex1 fun d => ds[i]? = some d ∧ Rd P v d) (fun h => nomatch h) (fun {v vs d ds} a _ e {i w} h => by
    cases i with
    | zero => cases h; exact ⟨_, rfl, a⟩
    | succ i => exact e (i := i) h) h
theorem RdAll.snoc {P : View} {vs : List Value} {ds : List PyData} {v : Value} {d : PyData} (h : RdAll P vs ds) (r : Rd P v d) : RdAll P (vs ++ [v]) (ds ++ [d]) :=
  RdAll.ind (motive := fun vs ds => RdAll P (vs ++ [v]) (ds ++ [d])) (.cons r .nil) (fun a _ e => .cons a e) h
theorem RdAll.reverse {P : View} {vs : List Value} {ds : List PyData} (h : RdAll P vs ds) : RdAll P vs.reverse ds.reverse :=
  RdAll.ind (motive := fun vs ds => RdAll P vs.reverse ds.reverse) .nil (fun a _ e => by rw [List.reverse_cons, List.reverse_cons]; exact e.snoc a) h

section
variable {c : Cx} {P C : View} {L a t : Addr} {m : Loc} {mu : Led} {s : Shared} {A : Around} {env : Env} {sc : PySem.Scope} {cl : List (Str × Addr)} {E : Value → Shared → Prop} {Q : Value → Shared → Prop} {pos : Pos} {va vb : Value} {da db : PyData} {xs : List Value}
theorem eqR (S : St c P C L m mu s) (ra : Rd P va da) (rb : Rd P vb db) (ha : da.canLay0 = true) (hb : db.canLay0 = true) (hu : A.units + min da.depth db.depth < cLine) (h : Q (.bool (PyData.eqv da db)) s) : wpAny c.M A (compareOp .Eq va vb) Q E s := by
  obtain ⟨_, r1⟩ := ra.reads S.keep
  obtain ⟨_, r2⟩ := rb.reads S.keep
  exact SeqAt.compareEq_reads r1 r2 ha hb hu h
theorem neR (S : St c P C L m mu s) (ra : Rd P va da) (rb : Rd P vb db) (ha : da.canLay0 = true) (hb : db.canLay0 = true) (hu : A.units + min da.depth db.depth < cLine) (h : Q (.bool (!PyData.eqv da db)) s) : wpAny c.M A (compareOp .NotEq va vb) Q E s := by
  obtain ⟨_, r1⟩ := ra.reads S.keep
  obtain ⟨_, r2⟩ := rb.reads S.keep
  exact SeqAt.compareNe_reads r1 r2 ha hb hu h
theorem St.tp (S : St c P C L m mu s) (h : IsTp P t xs) : IsTup s.heap t xs.toArray := ⟨_, S.keep _ _ h, rfl, 0, rfl⟩
/-- tuple[int] -/
theorem subT {value slice : PySem.Expr} {k : Int} {u : Tok} {x : Value} (S : St c P C L m mu s) (ht : IsTp P t xs) (h0 : 0 ≤ k) (hz : k < 10000) (hl : k.toNat < xs.length) (hx : xs[k.toNat]? = some x) (h : Q x s)
    (hs : subscripted slice false (.ref t) (.int k u) = operate [.ref t, .int k u] (getItem (.ref t) (.int k u)) := by with_unfolding_all rfl) :
    wpAny c.M A (subscriptTail value slice (.ref t) (.int k u)) Q E s :=
  subscriptTail_any (T := "tuple") ⟨_, S.keep _ _ ht, rfl⟩ PySem.F.slot_tuple_getitem.lookup (PyProof.Rows.getItem_tuple (S.tp ht) (by lia) (by omega) (j := k.toNat) (seqIndex_of h0 (by simp only [List.size_toArray]; lia)) (by simpa using hx) h) hs
theorem isiTup (S : St c P C L m mu s) (ht : IsTp P t xs) (h : Q (.bool true) s) : wpAny c.M A (call (.builtin "isinstance") [.ref t, .type "tuple"]) Q E s :=
  IsiPair.tuple_tuple (S.keep _ _ ht) rfl h
theorem isiTupI {i : Int} {u : Tok} (h : Q (.bool false) (bump s)) : wpAny c.M A (call (.builtin "isinstance") [.int i u, .type "tuple"]) Q E s :=
  IsiPair.int_tuple h
end
section
variable {c : Cx} {P C : View} {L a t : Addr} {m : Loc} {mu : Led} {s : Shared} {A : Around} {env : Env} {sc : PySem.Scope} {cl : List (Str × Addr)} {E : Value → Shared → Prop}
/-- x, y = .. -/
theorem unpack2 {value : PySem.Expr} {x y : Str} {p q tpos pos : Pos} {k : Nat} {Q : Flow → Shared → Prop} (hE : EnvOk env sc L cl) (hA : A.handled = none) (hx : sc.names.lookup x = some .local) (hy : sc.names.lookup y = some .local)
    (h : wpAny c.M A (eval value env) (fun v s₁ => Ex7 fun P C m mu t u w => And4 (v = .ref t) (IsTp P t [u, w]) (St c P C L m mu s₁) (∀ s', St c P C L (upd (upd m x u) y w) mu s' → Q .next s')) E s)
    (hs : swapsWithSole [.Tuple [.Name x p, .Name y q] k tpos] value pos.line env = pure false := by rfl)
    (hw : swappedStores [.Tuple [.Name x p, .Name y q] k tpos] value env = pure none := by rfl) :
    wpAny c.M A (exec (.Assign [.Tuple [.Name x p, .Name y q] k tpos] value pos) env) Q E s := by
  refine Assign_Tuple (wpAny_mono h (fun v s₁ h₁ => ?_) fun _ _ e => e) hs hw
  obtain ⟨P, C, m, mu, t, u, w, rfl, ht, S, k⟩ := h₁
  refine assign_Tuple_tuple hA (S.tp ht) rfl rfl fun h' he => ?_
  have S' : St c P C L m mu { s₁ with heap := h' } := S.grow (tk := s₁.toks) fun b o e => he _ _ (Nat.ne_of_lt (Heap.lt_size e)) e
  show wpAny _ _ (do holding _ (assign (.Name x p) env u); assignInOrder [assign (.Name y q) env] [w]) _ _ _
  refine wpAny_bind (wpAny_holding (PyProof.Rows.assign_Name (sto S' hE hx fun s2 S2 => ?_)))
  show wpAny _ _ (do holding _ (assign (.Name y q) env w); assignInOrder [] []) _ _ _
  exact wpAny_bind (wpAny_holding (PyProof.Rows.assign_Name (sto S2 hE hy fun s3 S3 => wpAny_pure (k s3 S3))))
end

noncomputable def TitO (t : Addr) (i : Nat) (o : Obj) : Prop := o.cls = .type "tuple_iterator" ∧ o.data = .fields #[.ref t, .int i 0]
theorem steps_tuple {c : Cx} {P : View} {it l : Addr} {xs : List Value} (hl : IsTp P l xs) : Steps c P it xs.length (TitO l) (fun i v => xs[i]? = some v) where
  item := fun {P' C L m mu s A Q E i} hP hA hi S k => by
    obtain ⟨o, ho, q⟩ := S.mus _ (.head _)
    obtain ⟨x, hx⟩ : ∃ x, xs[i]? = some x := ⟨_, List.getElem?_eq_getElem hi⟩
    refine wpAny_pyNext_tuple_item ⟨o, ho, q⟩ (S.tp (hl.mono hP)) (x := x) (by simpa using hx) fun h' ⟨o', ho', q'⟩ hs => k x _ hx (S.turn (tk := s.toks) hs ho' q')
  done := fun {P' C L m mu s A Q E} hP hA S k => by
    obtain ⟨o, ho, q⟩ := S.mus _ (.head _)
    exact wpAny_pyNext_tuple_end hA ⟨o, ho, q⟩ (S.tp (hl.mono hP)) (by simp) fun h' hs => k _ (S.extBut (tk := s.toks) hs)
theorem iterT {c : Cx} {P C : View} {L l : Addr} {m : Loc} {mu : Led} {s : Shared} {xs : List Value} {A : Around} {E : Value → Shared → Prop} {Q : Value → Shared → Prop} (S : St c P C L m mu s) (hl : IsTp P l xs)
    (h : ∀ it s', (∀ x, ¬ C it x) → Steps c P it xs.length (TitO l) (fun i v => xs[i]? = some v) → St c P C L m ((it, TitO l 0) :: mu) s' → Q (.ref it) s') : wpAny c.M A (pyIter (.ref l)) Q E s :=
  wpAny_pyIter_tuple (S.tp hl) (h _ _ S.fresh.2.2.2 (steps_tuple hl) (S.pushMu (tk := s.toks) (o := { cls := .type "tuple_iterator", data := .fields #[.ref l, .int 0 0] }) (Heap.get?_none_of_le (Nat.le_refl _)) (fun b o e => Heap.get?_push_of_some _ e) (Heap.get?_push_size _ rfl) ⟨rfl, rfl⟩))
end TC5
section TC6
theorem boot_isinstance : bootBuiltins "isinstance" = some (.builtin "isinstance") := rfl
theorem boot_len : bootBuiltins "len" = some (.builtin "len") := rfl
theorem boot_abs : bootBuiltins "abs" = some (.builtin "abs") := rfl
theorem boot_repr : bootBuiltins "repr" = some (.builtin "repr") := rfl
section
variable {c : Cx} {P C : View} {L a d : Addr} {m : Loc} {mu : Led} {s : Shared} {A : Around} {env : Env} {sc : PySem.Scope} {cl : List (Str × Addr)} {E : Value → Shared → Prop} {Q : Value → Shared → Prop} {pos : Pos} {first : List Value} {id : String} {e1 e2 e3 : PySem.Expr} {xs : List Value}

theorem bW0 (h : wpAny c.M A (call (.builtin id) (first ++ [])) Q E s) : wpAny c.M A (callWith pos (.builtin id) first (backTo pos (starEach [] env)) (backToKw pos (keywordEach [] env))) Q E s := by
  show wpAny _ _ (callWith pos (.builtin id) first [] []) _ _ _
  exact Calls.callWith_builtin rfl (evalArgs_empty h)
theorem bW1 (h : wpAny c.M A (eval e1 env) (fun v1 s1 => wpAny c.M A (call (.builtin id) (first ++ [v1])) Q E s1) E s) (he : starEach [e1] env = [(false, eval e1 env)] := by rfl) :
    wpAny c.M A (callWith pos (.builtin id) first (backTo pos (starEach [e1] env)) (backToKw pos (keywordEach [] env))) Q E s := by
  have e0 : backTo pos (starEach [e1] env) = [(false, eval e1 env)] := by rw [he]; rfl
  show wpAny _ _ (callWith pos (.builtin id) first (backTo pos (starEach [e1] env)) []) _ _ _
  rw [e0]
  exact Calls.callWith_builtin rfl (Calls.evalArgs_plain (Calls.spliced_cons (wpAny_mono h (fun _ _ h₁ => Calls.spliced_nil h₁) fun _ _ e => e)))
theorem bW2 (h : wpAny c.M A (eval e1 env) (fun v1 s1 => wpAny c.M A (eval e2 env) (fun v2 s2 => wpAny c.M A (call (.builtin id) (first ++ [v1, v2])) Q E s2) E s1) E s) (he : starEach [e1, e2] env = [(false, eval e1 env), (false, eval e2 env)] := by rfl) :
    wpAny c.M A (callWith pos (.builtin id) first (backTo pos (starEach [e1, e2] env)) (backToKw pos (keywordEach [] env))) Q E s := by
  have e0 : backTo pos (starEach [e1, e2] env) = [(false, eval e1 env), (false, eval e2 env)] := by rw [he]; rfl
  show wpAny _ _ (callWith pos (.builtin id) first (backTo pos (starEach [e1, e2] env)) []) _ _ _
  rw [e0]
  exact Calls.callWith_builtin rfl (Calls.evalArgs_plain (Calls.spliced_cons (wpAny_mono h (fun _ _ h₁ => Calls.spliced_cons (wpAny_mono h₁ (fun _ _ h₂ => Calls.spliced_nil h₂) fun _ _ e => e)) fun _ _ e => e)))
theorem tW1 {T : String} (h : wpAny c.M A (eval e1 env) (fun v1 s1 => wpAny c.M A (call (.type T) [v1]) Q E s1) E s) (he : starEach [e1] env = [(false, eval e1 env)] := by rfl) :
    wpAny c.M A (callWith pos (.type T) [] (backTo pos (starEach [e1] env)) []) Q E s := by
  have e0 : backTo pos (starEach [e1] env) = [(false, eval e1 env)] := by rw [he]; rfl
  rw [e0]
  exact PySem.callWith_type rfl (Calls.evalArgs_plain (Calls.spliced_cons (wpAny_mono h (fun _ _ h₁ => Calls.spliced_nil h₁) fun _ _ e => e)))
theorem tW3 {T : String} (h : wpAny c.M A (eval e1 env) (fun v1 s1 => wpAny c.M A (eval e2 env) (fun v2 s2 => wpAny c.M A (eval e3 env) (fun v3 s3 => wpAny c.M A (call (.type T) [v1, v2, v3]) Q E s3) E s2) E s1) E s)
    (he : starEach [e1, e2, e3] env = [(false, eval e1 env), (false, eval e2 env), (false, eval e3 env)] := by rfl) :
    wpAny c.M A (callWith pos (.type T) [] (backTo pos (starEach [e1, e2, e3] env)) []) Q E s := by
  have e0 : backTo pos (starEach [e1, e2, e3] env) = [(false, eval e1 env), (false, eval e2 env), (false, eval e3 env)] := by rw [he]; rfl
  rw [e0]
  exact PySem.callWith_type rfl (Calls.evalArgs_plain (Calls.spliced_cons (wpAny_mono h (fun _ _ h₁ => Calls.spliced_cons (wpAny_mono h₁ (fun _ _ h₂ => Calls.spliced_cons (wpAny_mono h₂ (fun _ _ h₃ => Calls.spliced_nil h₃) fun _ _ e => e)) fun _ _ e => e)) fun _ _ e => e)))
theorem range1 {n : Int} {t : Tok} (S : St c P C L m mu s) (h : ∀ r u v s', St c (P.add r { cls := .type "range", dict := none, data := .fields #[.int 0 u, .int n t, .int 1 v], slots := #[] }) C L m mu s' → Q (.ref r) s') : wpAny c.M A (call (.type "range") [.int n t]) Q E s :=
  call_range_1 (h _ _ _ _ (S.pushP (Heap.get?_none_of_le (Nat.le_refl _)) (fun b o e => Heap.get?_push_of_some _ e) (Heap.get?_push_size _ rfl)))
theorem rangeD {n : Int} {t u v : Tok} (hn : -1 ≤ n) (hz : n ≤ 10000) (S : St c P C L m mu s) (h : ∀ r s', St c (P.add r { cls := .type "range", dict := none, data := .fields #[.int n t, .int (-1) u, .int (-1) v], slots := #[] }) C L m mu s' → Q (.ref r) s') : wpAny c.M A (call (.type "range") [.int n t, .int (-1) u, .int (-1) v]) Q E s :=
  call_range_3 (by decide) (h _ _ (S.pushP (Heap.get?_none_of_le (Nat.le_refl _)) (fun b o e => Heap.get?_push_of_some _ e) (Heap.get?_push_size _ rfl))) (Or.inl (PyProof.noPylong_small (by lia)))
/-- range, the name -/
theorem cRange {p : Pos} {args : List PySem.Expr} (S : St c P C L m mu s) (hE : EnvOk env sc L cl) (hk : sc.names.lookup ("range" : Str) = some .globalImplicit)
    (h : wpAny c.M A (callWith pos (.type "range") [] (backTo pos (starEach args env)) []) Q E s) : wpAny c.M A (eval (.Call (.Name "range" p) args [] pos) env) Q E s :=
  wpAny_Call_Name_kw (nm_blt S hE hk c.fx.b_range rfl h)
theorem small_up {n : Int} (h0 : 0 ≤ n) (hz : n ≤ 10000) : Builtin.Range.small 0 n 1 = true := small_one (by decide) (by decide) (by lia) (by omega)

/-! ints -/
theorem addI {x y : Int} {t u : Tok} (h : Q (.int (x + y) s.toks) (bump s)) : wpAny c.M A (binaryOp .Add (.int x t) (.int y u)) Q E s := PyProof.Rows.add_int h
theorem subI {x y : Int} {t u : Tok} (h : Q (.int (x - y) s.toks) (bump s)) : wpAny c.M A (binaryOp .Sub (.int x t) (.int y u)) Q E s := PyProof.Rows.sub_int h

theorem negI {x : Int} {t : Tok} (h : Q (.int (-x) s.toks) (bump s)) : wpAny c.M A (unaryOp .USub (.int x t)) Q E s := PySem.P.neg_int h

/-! dicts -/
variable {K : Type} [DecidableEq K] {knd : KeyKind c.prog c.w K} {kvs : List (K × Value)} {k : K} {key dflt v : Value}
theorem dMeth {pl : Sem Bool} {Q : Value × List Value → Shared → Prop} (hD : s.heap.DictOf knd d kvs) (h : Q (.builtin "dict.get", [.ref d]) s) : wpAny c.M A (getMethod (.ref d) "get" pl) Q E s :=
  getMethod_builtin hD.typeIs PySem.F.plainAttrs_dict PySem.F.slot_dict_get PySem.F.type_dict_get hD.mapOf.noDict h
theorem dGet (S : St c P C L m mu s) (hD : s.heap.DictOf knd d kvs) (lo : d ≠ sysModules) (hkey : knd.is k key = true) (h : ∀ s', St c P C L m mu s' → Q ((valueAt kvs k).getD dflt) s') : wpAny c.M A (call (.builtin "dict.get") [.ref d, key, dflt]) Q E s :=
  call_meetsIn PySem.F.slot_dict_get hD.typeIs PySem.F.entry_dict_get (PySem.F.args_dict_get_3 _ _ _) (meets_dict_get_default knd d hkey (beq_eq_false_iff_ne.mpr lo) dflt) ⟨_, hD.mapOf, h _ (S.toks _)⟩
theorem St.dct (S : St c P C L m mu s) (h : (d, fun o => o.IsDictOf knd kvs) ∈ mu) : s.heap.DictOf knd d kvs := let ⟨o, ho, q⟩ := S.mus _ h; Heap.dictOf_iff.mpr ⟨o, ho, q⟩
theorem St.dctP {o : Obj} (S : St c P C L m mu s) (h : P d o) (q : o.IsDictOf knd kvs) : s.heap.DictOf knd d kvs := Heap.dictOf_iff.mpr ⟨o, S.keep _ _ h, q⟩
theorem dSet {Q : Unit → Shared → Prop} (S : St c P C L m ((d, fun o => o.IsDictOf knd kvs) :: mu) s) (hkey : knd.is k key = true) (hz : kvs.length ≤ 10000) (h : ∀ s', St c P C L m ((d, fun o => o.IsDictOf knd (stored kvs k v)) :: mu) s' → Q () s') :
    wpAny c.M A (setItem (.ref d) key v) Q E s :=
  wpAny_setItem_pairs hkey (S.dct (.head _)) (fun h' hd hs => by
    obtain ⟨o, ho, q⟩ := Heap.dictOf_iff.mp hd
    exact h _ (S.turn (tk := s.toks + 1) hs ho q)) (size_lid hz rfl)
theorem dNew (S : St c P C L m mu s) (h : ∀ d s', d ≠ sysModules → (∀ x, ¬ P d x) → St c P C L m ((d, fun o => o.IsDictOf knd ([] : List (K × Value))) :: mu) s' → Q (.ref d) s') (hs : s.heap.objs.size ≠ sysModules) :
    wpAny c.M A (eval (.Dict [] [] pos) env) Q E s := by
  obtain ⟨o, ho, hd⟩ := Heap.dictOf_iff.mp (Heap.DictOf.new (knd := knd) s.heap)
  have hn : s.heap.get? s.heap.objs.size = none := Heap.get?_none_of_le (Nat.le_refl _)
  exact wpAny_Dict_empty (h _ _ hs S.fresh.2.1 (S.pushMu (tk := s.toks) hn (fun b o e => Heap.get?_push_of_some _ e) ho hd))
end

/-! lists and tuples written out -/
section
variable (c : Cx) (A : Around) (env : Env)
noncomputable abbrev NT1 (f : List Value → Sem Value) (Q E : Value → Shared → Prop) : Value → Shared → Prop := fun v1 s1 => wpAny c.M A (f [v1]) Q E s1
noncomputable abbrev NT2b (f : List Value → Sem Value) (v1 : Value) (Q E : Value → Shared → Prop) : Value → Shared → Prop := fun v2 s2 => wpAny c.M A (f [v1, v2]) Q E s2
noncomputable abbrev NT2 (f : List Value → Sem Value) (e2 : PySem.Expr) (Q E : Value → Shared → Prop) : Value → Shared → Prop := fun v1 s1 => wpAny c.M A (eval e2 env) (NT2b c A f v1 Q E) E s1
noncomputable abbrev NT3c (f : List Value → Sem Value) (v1 v2 : Value) (Q E : Value → Shared → Prop) : Value → Shared → Prop := fun v3 s3 => wpAny c.M A (f [v1, v2, v3]) Q E s3
noncomputable abbrev NT3b (f : List Value → Sem Value) (e3 : PySem.Expr) (v1 : Value) (Q E : Value → Shared → Prop) : Value → Shared → Prop := fun v2 s2 => wpAny c.M A (eval e3 env) (NT3c c A f v1 v2 Q E) E s2
noncomputable abbrev NT3 (f : List Value → Sem Value) (e2 e3 : PySem.Expr) (Q E : Value → Shared → Prop) : Value → Shared → Prop := fun v1 s1 => wpAny c.M A (eval e2 env) (NT3b c A env f e3 v1 Q E) E s1
end
section
variable {c : Cx} {A : Around} {env : Env} {s : Shared} {E : Value → Shared → Prop} {Q : Value → Shared → Prop} {pos : Pos} {e1 e2 e3 : PySem.Expr} {k : Nat}
theorem tup1 (h : wpAny c.M A (eval e1 env) (NT1 c A newTuple Q E) E s) (he : starEach [e1] env = [(false, eval e1 env)] := by rfl) : wpAny c.M A (eval (.Tuple [e1] k pos) env) Q E s := by
  refine Tuple_ ?_
  rw [show backTo pos (starEach [e1] env) = [(false, eval e1 env)] by rw [he]; rfl]
  exact Calls.spliced_cons (wpAny_mono h (fun _ _ h₁ => Calls.spliced_nil h₁) fun _ _ e => e)
theorem tup2 (h : wpAny c.M A (eval e1 env) (NT2 c A env newTuple e2 Q E) E s) (he : starEach [e1, e2] env = [(false, eval e1 env), (false, eval e2 env)] := by rfl) : wpAny c.M A (eval (.Tuple [e1, e2] k pos) env) Q E s := by
  refine Tuple_ ?_
  rw [show backTo pos (starEach [e1, e2] env) = [(false, eval e1 env), (false, eval e2 env)] by rw [he]; rfl]
  exact Calls.spliced_cons (wpAny_mono h (fun _ _ h₁ => Calls.spliced_cons (wpAny_mono h₁ (fun _ _ h₂ => Calls.spliced_nil h₂) fun _ _ e => e)) fun _ _ e => e)
theorem tup3 (h : wpAny c.M A (eval e1 env) (NT3 c A env newTuple e2 e3 Q E) E s)
    (he : starEach [e1, e2, e3] env = [(false, eval e1 env), (false, eval e2 env), (false, eval e3 env)] := by rfl) : wpAny c.M A (eval (.Tuple [e1, e2, e3] k pos) env) Q E s := by
  refine Tuple_ ?_
  rw [show backTo pos (starEach [e1, e2, e3] env) = [(false, eval e1 env), (false, eval e2 env), (false, eval e3 env)] by rw [he]; rfl]
  exact Calls.spliced_cons (wpAny_mono h (fun _ _ h₁ => Calls.spliced_cons (wpAny_mono h₁ (fun _ _ h₂ => Calls.spliced_cons (wpAny_mono h₂ (fun _ _ h₃ => Calls.spliced_nil h₃) fun _ _ e => e)) fun _ _ e => e)) fun _ _ e => e)
theorem lst0 (h : wpAny c.M A (newList []) Q E s) : wpAny c.M A (eval (.List [] pos) env) Q E s := List_ (Calls.spliced_nil h)
theorem lst1 (h : wpAny c.M A (eval e1 env) (NT1 c A newList Q E) E s) (he : starEach [e1] env = [(false, eval e1 env)] := by rfl) : wpAny c.M A (eval (.List [e1] pos) env) Q E s := by
  refine List_ ?_
  rw [show backTo pos (starEach [e1] env) = [(false, eval e1 env)] by rw [he]; rfl]
  exact Calls.spliced_cons (wpAny_mono h (fun _ _ h₁ => Calls.spliced_nil h₁) fun _ _ e => e)
theorem lst2 (h : wpAny c.M A (eval e1 env) (NT2 c A env newList e2 Q E) E s) (he : starEach [e1, e2] env = [(false, eval e1 env), (false, eval e2 env)] := by rfl) : wpAny c.M A (eval (.List [e1, e2] pos) env) Q E s := by
  refine List_ ?_
  rw [show backTo pos (starEach [e1, e2] env) = [(false, eval e1 env), (false, eval e2 env)] by rw [he]; rfl]
  exact Calls.spliced_cons (wpAny_mono h (fun _ _ h₁ => Calls.spliced_cons (wpAny_mono h₁ (fun _ _ h₂ => Calls.spliced_nil h₂) fun _ _ e => e)) fun _ _ e => e)
theorem lst3 (h : wpAny c.M A (eval e1 env) (NT3 c A env newList e2 e3 Q E) E s)
    (he : starEach [e1, e2, e3] env = [(false, eval e1 env), (false, eval e2 env), (false, eval e3 env)] := by rfl) : wpAny c.M A (eval (.List [e1, e2, e3] pos) env) Q E s := by
  refine List_ ?_
  rw [show backTo pos (starEach [e1, e2, e3] env) = [(false, eval e1 env), (false, eval e2 env), (false, eval e3 env)] by rw [he]; rfl]
  exact Calls.spliced_cons (wpAny_mono h (fun _ _ h₁ => Calls.spliced_cons (wpAny_mono h₁ (fun _ _ h₂ => Calls.spliced_cons (wpAny_mono h₂ (fun _ _ h₃ => Calls.spliced_nil h₃) fun _ _ e => e)) fun _ _ e => e)) fun _ _ e => e)
end

/-! the law's data -/
mutual
noncomputable def enc : Thing → PyData
  | .int i => .int i
  | .sym s => .tuple [.str "sym", .str s]
  | .nil => .tuple [.str "nil"]
  | .vec ts => .tuple [.str "vec", .list (encs ts)]
  | .pair a d => .tuple [.str "pair", enc a, enc d]
noncomputable def encs : List Thing → List PyData
  | [] => []
  | t :: r => enc t :: encs r
end
noncomputable def encM : Mean → PyData
  | .int i => .int i
  | .sym s => .tuple [.str "sym", .str s]
  | .nil => .tuple [.str "nil"]
  | .vecOf m => .tuple [.str "vector-of", encM m]
  | .pair a d => .tuple [.str "pair", encM a, encM d]
  | .call t => .tuple [.str "call", enc t]
  | .joined a d => .tuple [.str "joined", encM a, encM d]
noncomputable def rowD : List PyData → PyData → PyData
  | [], t => t
  | a :: r, t => .tuple [.str "pair", a, rowD r t]
theorem enc_row : ∀ (ts : List Thing) (t : Thing), enc (row ts t) = rowD (encs ts) (enc t)
  | [], _ => rfl
  | a :: r, t => by simp only [row, encs, rowD, enc, enc_row r t]
theorem encM_row : ∀ (ts : List Mean) (t : Mean), encM (mrow ts t) = rowD (ts.map encM) (encM t)
  | [], _ => rfl
  | a :: r, t => by simp only [mrow, List.map, rowD, encM, encM_row r t]
theorem encs_map : ∀ ts : List Thing, encs ts = ts.map enc
  | [] => rfl
  | a :: r => by rw [encs, encs_map r]; rfl
noncomputable abbrev TV (P : View) (v : Value) (t : Thing) : Prop := Rd P v (enc t)
noncomputable abbrev MV (P : View) (v : Value) (t : Mean) : Prop := Rd P v (encM t)
theorem Rd.tupleInv {P : View} {v : Value} {xs : List PyData} (h : Rd P v (.tuple xs)) : Ex2 fun a vs => And3 (v = .ref a) (IsTp P a vs) (RdAll P vs xs) := by
  cases h with
  | tuple a k => exact ⟨_, _, rfl, a, k⟩
theorem Rd.listInv {P : View} {v : Value} {xs : List PyData} (h : Rd P v (.list xs)) : Ex2 fun a vs => And3 (v = .ref a) (IsLst P a vs) (RdAll P vs xs) := by
  cases h with
  | list a k => exact ⟨_, _, rfl, a, k⟩
theorem RdAll.consInv {P : View} {vs : List Value} {d : PyData} {ds : List PyData} (h : RdAll P vs (d :: ds)) : Ex2 fun v r => And3 (vs = v :: r) (Rd P v d) (RdAll P r ds) := by
  cases h with
  | cons a b => exact ⟨_, _, rfl, a, b⟩
theorem RdAll.nilInv {P : View} {vs : List Value} (h : RdAll P vs []) : vs = [] := by cases h; rfl
theorem Rd.strInv {P : View} {v : Value} {x : Str} (h : Rd P v (.str x)) : ∃ t, v = .str x t := by cases h; exact ⟨_, rfl⟩
theorem Rd.intInv {P : View} {v : Value} {x : Int} (h : Rd P v (.int x)) : ∃ t, v = .int x t := by cases h; exact ⟨_, rfl⟩
theorem TV.symInv {P : View} {v : Value} {x : Str} (h : TV P v (.sym x)) : Ex3 fun a t u => v = .ref a ∧ IsTp P a [.str "sym" t, .str x u] := by
  unfold TV at h; rw [enc] at h
  obtain ⟨a, vs, rfl, ht, hr⟩ := h.tupleInv
  replace hr := hr.consInv; obtain ⟨v1, r, rfl, h1, hr⟩ := hr
  replace hr := hr.consInv; obtain ⟨v2, r, rfl, h2, hr⟩ := hr
  obtain rfl := hr.nilInv
  obtain ⟨t, rfl⟩ := h1.strInv
  obtain ⟨u, rfl⟩ := h2.strInv
  exact ⟨a, t, u, rfl, ht⟩
theorem TV.nilInv {P : View} {v : Value} (h : TV P v .nil) : Ex2 fun a t => v = .ref a ∧ IsTp P a [.str "nil" t] := by
  unfold TV at h; rw [enc] at h
  obtain ⟨a, vs, rfl, ht, hr⟩ := h.tupleInv
  replace hr := hr.consInv; obtain ⟨v1, r, rfl, h1, hr⟩ := hr
  obtain rfl := hr.nilInv
  obtain ⟨t, rfl⟩ := h1.strInv
  exact ⟨a, t, rfl, ht⟩
theorem TV.vecInv {P : View} {v : Value} {ts : List Thing} (h : TV P v (.vec ts)) : Ex4 fun a t l vs => And4 (v = .ref a) (IsTp P a [.str "vec" t, .ref l]) (IsLst P l vs) (RdAll P vs (encs ts)) := by
  unfold TV at h; rw [enc] at h
  obtain ⟨a, vs, rfl, ht, hr⟩ := h.tupleInv
  replace hr := hr.consInv; obtain ⟨v1, r, rfl, h1, hr⟩ := hr
  replace hr := hr.consInv; obtain ⟨v2, r, rfl, h2, hr⟩ := hr
  obtain rfl := hr.nilInv
  obtain ⟨t, rfl⟩ := h1.strInv
  obtain ⟨l, vs, rfl, hl, hr⟩ := h2.listInv
  exact ⟨a, t, l, vs, rfl, ht, hl, hr⟩
theorem pairInv {P : View} {v : Value} {x y : PyData} {w : Str} (h : Rd P v (.tuple [.str w, x, y])) : Ex4 fun a t p q => And4 (v = .ref a) (IsTp P a [.str w t, p, q]) (Rd P p x) (Rd P q y) := by
  obtain ⟨a, vs, rfl, ht, hr⟩ := h.tupleInv
  replace hr := hr.consInv; obtain ⟨v1, r, rfl, h1, hr⟩ := hr
  replace hr := hr.consInv; obtain ⟨v2, r, rfl, h2, hr⟩ := hr
  replace hr := hr.consInv; obtain ⟨v3, r, rfl, h3, hr⟩ := hr
  obtain rfl := hr.nilInv
  obtain ⟨t, rfl⟩ := h1.strInv
  exact ⟨a, t, v2, v3, rfl, ht, h2, h3⟩
theorem TV.pairInv {P : View} {v : Value} {x y : Thing} (h : TV P v (.pair x y)) : Ex4 fun a t p q => And4 (v = .ref a) (IsTp P a [.str "pair" t, p, q]) (TV P p x) (TV P q y) := by
  unfold TV at h; rw [enc] at h
  exact Mine.pairInv h
theorem Rd.tup2 {P : View} {a : Addr} {u v : Value} {x y : PyData} (h : IsTp P a [u, v]) (h1 : Rd P u x) (h2 : Rd P v y) : Rd P (.ref a) (.tuple [x, y]) := .tuple h (.cons h1 (.cons h2 .nil))
theorem Rd.tup3 {P : View} {a : Addr} {u v w : Value} {x y z : PyData} (h : IsTp P a [u, v, w]) (h1 : Rd P u x) (h2 : Rd P v y) (h3 : Rd P w z) : Rd P (.ref a) (.tuple [x, y, z]) := .tuple h (.cons h1 (.cons h2 (.cons h3 .nil)))
end TC6
section TC7
theorem ifT {b : Bool} {P Q : Prop} [inst : Decidable (b = true)] (hb : b = true) (h : P) : if b = true then P else Q := by rw [if_pos hb]; exact h
theorem ifF {b : Bool} {P Q : Prop} [inst : Decidable (b = true)] (hb : b = false) (h : Q) : if b = true then P else Q := by rw [if_neg (by rw [hb]; decide)]; exact h
theorem cps_beq (x y : Str) : (x.cps.toList == y.cps.toList) = decide (x = y) := by
  by_cases h : x = y
  · subst h; simp
  · have : x.cps.toList ≠ y.cps.toList := fun e => h (by cases x; cases y; simp only [Str.mk.injEq]; exact Array.toList_inj.mp e)
    rw [beq_eq_false_iff_ne.mpr this, decide_eq_false h]
section
variable {c : Cx} {P C : View} {L a : Addr} {m : Loc} {mu : Led} {s : Shared} {A : Around} {E : Value → Shared → Prop} {Q : Value → Shared → Prop} {x y : Str} {t u : Tok} {i j : Int}
theorem eqS (h : Q (.bool (decide (x = y))) s) : wpAny c.M A (compareOp .Eq (.str x t) (.str y u)) Q E s := PySem.P.eq_str (by rw [cps_beq]; exact h)
theorem eqSt (h : Q (.bool true) s) : wpAny c.M A (compareOp .Eq (.str x t) (.str x u)) Q E s := eqS (by rw [decide_eq_true rfl]; exact h)
theorem eqSf (hne : x ≠ y) (h : Q (.bool false) s) : wpAny c.M A (compareOp .Eq (.str x t) (.str y u)) Q E s := eqS (by rw [decide_eq_false hne]; exact h)
theorem neS (h : Q (.bool (!decide (x = y))) s) : wpAny c.M A (compareOp .NotEq (.str x t) (.str y u)) Q E s := PySem.P.ne_str (by rw [bne, cps_beq]; exact h)
theorem neSt (hne : x ≠ y) (h : Q (.bool true) s) : wpAny c.M A (compareOp .NotEq (.str x t) (.str y u)) Q E s := neS (by rw [decide_eq_false hne]; exact h)
theorem neSf (h : Q (.bool false) s) : wpAny c.M A (compareOp .NotEq (.str x t) (.str x u)) Q E s := neS (by rw [decide_eq_true rfl]; exact h)
theorem eqI (h : Q (.bool (decide (i = j))) s) : wpAny c.M A (compareOp .Eq (.int i t) (.int j u)) Q E s := PySem.P.eq_int h
theorem neI (h : Q (.bool (!decide (i = j))) s) : wpAny c.M A (compareOp .NotEq (.int i t) (.int j u)) Q E s := PySem.P.ne_int h
theorem ltI (h : Q (.bool (decide (i < j))) s) : wpAny c.M A (compareOp .Lt (.int i t) (.int j u)) Q E s := PySem.P.lt_int h
theorem gtI (h : Q (.bool (decide (i > j))) s) : wpAny c.M A (compareOp .Gt (.int i t) (.int j u)) Q E s := PySem.P.gt_int h
theorem isNoneR {x : Addr} (h : Q (.bool false) s) : wpAny c.M A (compareOp .Is (.ref x) .none) Q E s := is_ref_none h
theorem isNoneN (h : Q (.bool true) s) : wpAny c.M A (compareOp .Is .none .none) Q E s := wpAny_is_self rfl h
theorem isNotNoneR {x : Addr} (h : Q (.bool true) s) : wpAny c.M A (compareOp .IsNot (.ref x) .none) Q E s := isnot_ref_none h
theorem isNotNoneN (h : Q (.bool false) s) : wpAny c.M A (compareOp .IsNot .none .none) Q E s := wpAny_isNot_self rfl h
theorem isNoneI (h : Q (.bool false) s) : wpAny c.M A (compareOp .Is (.int i t) .none) Q E s := is_int_none h
theorem notInR {v w : Value} {xs : List PyData} {d : PyData} (S : St c P C L m mu s) (rc : Rd P v (.list xs)) (rx : Rd P w d) (hxs : PyData.canLayAll0 xs = true) (hd : d.canLay0 = true) (hu : A.units + 1 + min (PyData.depthAll xs) d.depth < cLine)
    (h : Q (.bool (!xs.any fun y => PyData.eqv y d)) s) : wpAny c.M A (compareOp .NotIn w v) Q E s := by
  obtain ⟨_, r1⟩ := rc.reads S.keep
  obtain ⟨_, r2⟩ := rx.reads S.keep
  exact SeqAt.notIn_list_reads r1 r2 hxs hd hu h
theorem inR {v w : Value} {xs : List PyData} {d : PyData} (S : St c P C L m mu s) (rc : Rd P v (.list xs)) (rx : Rd P w d) (hxs : PyData.canLayAll0 xs = true) (hd : d.canLay0 = true) (hu : A.units + 1 + min (PyData.depthAll xs) d.depth < cLine)
    (h : Q (.bool (xs.any fun y => PyData.eqv y d)) s) : wpAny c.M A (compareOp .In w v) Q E s := by
  obtain ⟨_, r1⟩ := rc.reads S.keep
  obtain ⟨_, r2⟩ := rx.reads S.keep
  exact SeqAt.in_list_reads r1 r2 hxs hd hu h
/-- tuple, the name -/
theorem nTuple {env : Env} {sc : PySem.Scope} {cl : List (Str × Addr)} {pos : Pos} (S : St c P C L m mu s) (hE : EnvOk env sc L cl) (hk : sc.names.lookup ("tuple" : Str) = some .globalImplicit) (h : Q (.type "tuple") s) : wpAny c.M A (eval (.Name "tuple" pos) env) Q E s :=
  nm_blt S hE hk c.fx.b_tuple rfl h
end

theorem IsTp.new {P : View} {a : Addr} {xs : List Value} : IsTp (P.add a (tupOf xs)) a xs := View.add_self _ _ _
theorem EnvOk.inter {env : Env} {sc : PySem.Scope} {cl : List (Str × Addr)} {L : Addr} (hE : EnvOk env sc L cl) : interactive env = false := by
  unfold interactive
  rw [hE.scope, hE.kind]; rfl
/-- l.append(e), the list first on the ledger -/
theorem stAppend {pl : Sem Bool} {c : Cx} {A : Around} {env : Env} {s : Shared} {E : Value → Shared → Prop} {l e : PySem.Expr} {p q pos : Pos} {Q : Flow → Shared → Prop} {sc : PySem.Scope} {cl : List (Str × Addr)} {L0 : Addr} (hE : EnvOk env sc L0 cl)
    (h : wpAny c.M A (eval l env) (fun lv s1 => Ex1 fun a => And3 (lv = .ref a) ((Ex2 fun xs n => s1.heap.get? a = some (listOf xs n))) (wpAny c.M A (eval e env) (fun v s2 => Ex6 fun P C L m mu xs => And3 (xs.length ≤ 10000) (St c P C L m ((a, LstO xs) :: mu) s2) (∀ s', St c P C L m ((a, LstO (xs ++ [v])) :: mu) s' → Q .next s')) E s1)) E s)
    (hc : eval (.Call (.Attribute l "append" p) [e] [] q) env = (do
      let ov ← eval l env
      standAt p.atName
      let (f, first) ← holding [ov] (getMethod ov "append" pl)
      callWith q f first (backTo q (starEach [e] env)) (backToKw q (keywordEach [] env))) := by rfl)
    (he : starEach [e] env = [(false, eval e env)] := by rfl) (hs : swapsWith (.Call (.Attribute l "append" p) [e] [] q) none pos.line env = pure false := by rfl) :
    wpAny c.M A (exec (.Expr (.Call (.Attribute l "append" p) [e] [] q) pos) env) Q E s := by
  refine wpAny_Expr (methodCall_KW (wpAny_mono h (fun lv s1 h1 => ?_) fun _ _ e => e) hc) hE.inter hs
  obtain ⟨a, rfl, ⟨xs, n, hl⟩, h1⟩ := h1
  refine getMethod_list_append hl rfl rfl (bW1 (first := [.ref a]) (wpAny_mono h1 (fun v s2 h2 => ?_) fun _ _ e => e) he)
  obtain ⟨P, C, L, m, mu, xs, hz, S, k⟩ := h2
  exact app S (fun s' S' => k s' S') hz
/-- x, y = e1, e2 -/
theorem unpack2S {c : Cx} {A : Around} {env : Env} {s : Shared} {E : Value → Shared → Prop} {sc : PySem.Scope} {cl : List (Str × Addr)} {L : Addr} {value : PySem.Expr} {x y : Str} {p q tpos pos : Pos} {k : Nat} {Q : Flow → Shared → Prop}
    (hw : swappedStores [.Tuple [.Name x p, .Name y q] k tpos] value env = pure (some [x, y])) (hE : EnvOk env sc L cl) (hA : A.handled = none) (hx : sc.names.lookup x = some .local) (hy : sc.names.lookup y = some .local)
    (h : wpAny c.M A (eval value env) (fun v s₁ => Ex7 fun P C m mu t u w => And4 (v = .ref t) (IsTp P t [u, w]) (St c P C L m mu s₁) (∀ s', St c P C L (upd (upd m y w) x u) mu s' → Q .next s')) E s)
    (hs : swapsWithSole [.Tuple [.Name x p, .Name y q] k tpos] value pos.line env = pure false := by rfl) :
    wpAny c.M A (exec (.Assign [.Tuple [.Name x p, .Name y q] k tpos] value pos) env) Q E s := by
  refine Assign_Tuple_swapped (wpAny_mono h (fun v s₁ h₁ => ?_) fun _ _ e => e) hs hw
  obtain ⟨P, C, m, mu, t, u, w, rfl, ht, S, k⟩ := h₁
  refine unpackItems_tuple (items := #[u, w]) hA (S.tp ht) fun h' he => ?_
  have S' : St c P C L m mu { s₁ with heap := h' } := S.grow (tk := s₁.toks) fun b o e => he _ _ (Nat.ne_of_lt (Heap.lt_size e)) e
  show wpAny _ _ (do holding _ (bindName env y w); assignInOrder [fun v => bindName env x v] [u]) _ _ _
  refine wpAny_bind (wpAny_holding (wpAny_bindName (sto S' hE hy fun s2 S2 => ?_)))
  show wpAny _ _ (do holding _ (bindName env x u); assignInOrder [] []) _ _ _
  exact wpAny_bind (wpAny_holding (wpAny_bindName (sto S2 hE hx fun s3 S3 => wpAny_pure (k s3 S3))))

/-! sizes -/
mutual
noncomputable def sz : Thing → Nat
  | .int _ => 1
  | .sym _ => 1
  | .nil => 1
  | .vec ts => 1 + szs ts
  | .pair a d => 1 + sz a + sz d
noncomputable def szs : List Thing → Nat
  | [] => 1
  | t :: r => 1 + sz t + szs r
end
theorem sz_pos : ∀ t : Thing, 1 ≤ sz t
  | .int _ => Nat.le_refl _
  | .sym _ => Nat.le_refl _
  | .nil => Nat.le_refl _
  | .vec ts => by rw [sz]; lia
  | .pair a d => by rw [sz]; lia
mutual
theorem depth_enc : ∀ t : Thing, (enc t).depth ≤ 2 * sz t
  | .int _ => by simp [enc, PyData.depth]
  | .sym _ => by simp [enc, PyData.depth, PyData.depthAll, sz]
  | .nil => by simp [enc, PyData.depth, PyData.depthAll, sz]
  | .vec ts => by have := depth_encs ts; simp only [enc, PyData.depth, PyData.depthAll, sz]; lia
  | .pair a d => by have := depth_enc a; have := depth_enc d; simp only [enc, PyData.depth, PyData.depthAll, sz]; lia
theorem depth_encs : ∀ ts : List Thing, PyData.depthAll (encs ts) ≤ 2 * szs ts
  | [] => by simp [encs, PyData.depthAll]
  | t :: r => by have := depth_enc t; have := depth_encs r; simp only [encs, PyData.depthAll, szs]; lia
end
noncomputable abbrev TOk (t : Thing) : Prop := (enc t).canLay0 = true
theorem TOk.pair {a d : Thing} (h : TOk (.pair a d)) : TOk a ∧ TOk d := by
  unfold TOk at *; simp only [enc, PyData.canLay0, PyData.canLayAll0, Bool.and_eq_true] at h; exact ⟨h.2.1, h.2.2.1⟩
theorem TOk.vec {ts : List Thing} (h : TOk (.vec ts)) : PyData.canLayAll0 (encs ts) = true := by
  unfold TOk at *; simp only [enc, PyData.canLay0, PyData.canLayAll0, Bool.and_eq_true] at h; exact h.2.1
theorem Room.u {A : Around} {n k : Nat} (h : Room A n) (hk : k ≤ 8 * n) : A.units + k < cLine := by have := h.units; show _ < 9900; lia
end TC7
section TC8
theorem isS {prog : Program} {w : World} {a : Str} {t : Tok} : (PySem.strKind prog w).is a (.str a t) = true := by
  show Value.isStrOf a (.str a t) = true
  simp [Value.isStrOf]
section
variable {c : Cx} {P C : View} {L : Addr} {m : Loc} {mu : Led} {s : Shared} {A : Around} {env : Env} {E : Value → Shared → Prop} {Q : Value → Shared → Prop} {pos : Pos} {a1 a2 a3 : Str} {k1 k2 k3 : Nat} {p1 p2 p3 : Pos} {e1 e2 e3 : PySem.Expr}
/-- a dict of three written keys -/
theorem dict3 (S : St c P C L m mu s)
    (h : ∀ d s1, d ≠ sysModules → St c P C L m ((d, fun o => o.IsDictOf (strKind c.prog c.w) []) :: mu) s1 →
      wpAny c.M A (eval (.Constant (.str a1) k1 p1) env) (fun w1 s2 => wpAny c.M A (eval e1 env) (fun v1 s3 => wpAny c.M A (eval (.Constant (.str a2) k2 p2) env) (fun w2 s4 => wpAny c.M A (eval e2 env) (fun v2 s5 =>
        wpAny c.M A (eval (.Constant (.str a3) k3 p3) env) (fun w3 s6 => wpAny c.M A (eval e3 env) (fun v3 s7 => Ex3 fun t1 t2 t3 => And4 (w1 = .str a1 t1) (w2 = .str a2 t2) (w3 = .str a3 t3) (Ex5 fun P C L m mu => St c P C L m ((d, fun o => o.IsDictOf (strKind c.prog c.w) []) :: mu) s7 ∧ ∀ s', St c P C L m ((d, fun o => o.IsDictOf (strKind c.prog c.w) (merged [] [(a1, v1), (a2, v2), (a3, v3)])) :: mu) s' → Q (.ref d) s')) E s6) E s5) E s4) E s3) E s2) E s1) :
    wpAny c.M A (eval (.Dict [some (.Constant (.str a1) k1 p1), some (.Constant (.str a2) k2 p2), some (.Constant (.str a3) k3 p3)] [e1, e2, e3] pos) env) Q E s := by
  obtain ⟨o, ho, hd⟩ := Heap.dictOf_iff.mp (Heap.DictOf.new (knd := strKind c.prog c.w) s.heap)
  have hn : s.heap.get? s.heap.objs.size = none := Heap.get?_none_of_le (Nat.le_refl _)
  have S1 := S.pushMu (tk := s.toks) (φ := fun o => o.IsDictOf (strKind c.prog c.w) []) hn (fun b o e => Heap.get?_push_of_some _ e) ho hd
  refine wpAny_Dict_walk (knd := strKind c.prog c.w) rfl rfl (by simp) (by simp) (pairTrees_cons_walk (wpAny_mono (h _ _ (Nat.ne_of_gt (modules_low S.nolimit)) S1) (fun w1 s2 h2 => wpAny_mono h2 (fun v1 s3 h3 =>
    pairTrees_cons_walk (wpAny_mono h3 (fun w2 s4 h4 => wpAny_mono h4 (fun v2 s5 h5 => pairTrees_cons_walk (wpAny_mono h5 (fun w3 s6 h6 => wpAny_mono h6 (fun v3 s7 h7 => pairTrees_nil_walk ?_) fun _ _ e => e) fun _ _ e => e)) fun _ _ e => e) fun _ _ e => e)) fun _ _ e => e) fun _ _ e => e))
  obtain ⟨t1, t2, t3, rfl, rfl, rfl, P, C, L, m, mu, S7, k⟩ := h7
  refine ⟨[(a1, v1), (a2, v2), (a3, v3)], ?_, S7.dct (.head _), fun h' hd hs => ?_⟩
  · exact ⟨isS, rfl, isS, rfl, isS, rfl, trivial⟩
  · obtain ⟨o, ho, q⟩ := Heap.dictOf_iff.mp hd
    exact k _ (S7.turn hs ho q)
end
theorem look3 {a b c : Value} (s : Str) : valueAt (merged [] [(Str.ofString "p", a), (Str.ofString "q", b), (Str.ofString "r", c)]) s = if s = ("p" : Str) then some a else if s = ("q" : Str) then some b else if s = ("r" : Str) then some c else none := by
  have pq : ¬ (Str.ofString "p" = Str.ofString "q") := by decide +kernel
  have pr : ¬ (Str.ofString "p" = Str.ofString "r") := by decide +kernel
  have qr : ¬ (Str.ofString "q" = Str.ofString "r") := by decide +kernel
  have e : merged [] [(Str.ofString "p", a), (Str.ofString "q", b), (Str.ofString "r", c)] = [(Str.ofString "p", a), (Str.ofString "q", b), (Str.ofString "r", c)] := by
    simp [merged, stored, pq, pr, qr]
  rw [e]
  unfold valueAt
  by_cases h1 : s = Str.ofString "p"
  · subst h1; simp
  · rw [if_neg h1]
    by_cases h2 : s = Str.ofString "q"
    · subst h2; simp [pq]
    · rw [if_neg h2]
      by_cases h3 : s = Str.ofString "r"
      · subst h3; simp [pr, qr]
      · rw [if_neg h3]; simp [Ne.symm h1, Ne.symm h2, Ne.symm h3, List.find?_cons, List.find?_nil]
end TC8
section TC9
/-! rules of the walk as tables: a letter of a table stands for an argument -/
section
open Lean
def argT (c : Char) : MacroM (TSyntax `term) :=
  let at_ (s : String) : MacroM (TSyntax `term) := `(by walk_at $(Syntax.mkStrLit s))
  match c with
  | '?' => `(?_)
  | '_' => `(_)
  | 'r' => `(rfl)
  | 'a' => `(by assumption)
  | 'k' => `(by decide +kernel)
  | 'd' => `(by decide)
  | 'u' => `(by with_unfolding_all rfl)
  | 'b' => `(Nat.le_of_ble_eq_true (by with_unfolding_all rfl))
  | 'X' => `(Cx.fx _)
  | 'I' => `(Facts.b_isinstance (Cx.fx _))
  | 'B' => `(boot_isinstance)
  | 'M' => `(Facts.g_EMPTY (Cx.fx _))
  | 'D' => `($(mkIdent `Inst.d) (by assumption))
  | 'E' => `($(mkIdent `St.empty) (by walk_at "as"))
  | 'x' => `(by first | (with_unfolding_all rfl) | assumption)
  | 'w' => `(by intro _; with_unfolding_all rfl)
  | 'A' => at_ "as"
  | 'v' => at_ "ev"
  | 'g' => at_ "z gl"
  | 't' => at_ "z at"
  | 's' => at_ "z set"
  | 'f' => at_ "z fl"
  | 'l' => at_ "z lk"
  | 'i' => at_ "z isi"
  | 'c' => at_ "z kc"
  | 'n' => at_ "z no"
  | 'T' => at_ "isiT"
  | _ => at_ "isiF"
def ruleT (word : String) : MacroM (TSyntax `term) :=
  match word.splitOn "/" with
  | [n, w] => do
    let as ← w.toList.toArray.mapM argT
    `($(mkIdent n.toName) $as*)
  | _ => pure (mkIdent word.toName)
/-- a goal's form: eval:1,Expr.Call:3 is (eval (Expr.Call _ _ _ _) _) -/
def formT : List String → MacroM (TSyntax `term)
  | [] => `(_)
  | w :: ws => do
    let t ← formT ws
    match w.splitOn ":" with
    | [n, k] =>
      let h ← `(_)
      let as := #[t] ++ (List.replicate k.toNat! h).toArray
      `($(mkIdent n.toName) $as*)
    | _ => pure ⟨Syntax.mkStrLit w⟩
def asT (form : String) (t : TSyntax `tactic) : MacroM (TSyntax `tactic) := do
  let g ← formT (form.splitOn ",")
  `(tactic| ((with_reducible refine (?_ : wpAny _ _ $g _ _ _)); $t:tactic))
def oneT (e : String) : MacroM (TSyntax `tactic) := do
  match e.splitOn "=" with
  | [g, r] => asT g (← `(tactic| with_reducible refine $(← ruleT r)))
  | [g, r, _] => asT g (← `(tactic| (with_reducible refine $(← ruleT r); intro s' S')))
  | _ => `(tactic| with_reducible refine $(← ruleT e))
def firstT (ts : List (TSyntax `tactic)) : MacroM (TSyntax `tactic) := do
  let ts ← ts.toArray.mapM fun t => `(tacticSeq| $t:tactic)
  `(tactic| first $[| $ts]*)
/-- one of the rules, refined -/
def refT (words : String) : MacroM (TSyntax `tactic) := do firstT (← (words.splitOn " ").mapM oneT)
/-- one of the rules, refined, at a goal of a form -/
def refsT (form words : String) : MacroM (TSyntax `tactic) := do asT form (← refT words)
/-- one of the facts, as it is -/
def exT (pre : String) (words : String) (args : String := "/X") : MacroM (TSyntax `tactic) := do
  firstT (← (words.splitOn " ").mapM fun e => do `(tactic| with_reducible exact $(← ruleT (pre ++ e ++ args))))
end
/-! what is done behind a step, named: the proofs stay small so -/
section
variable (c : Cx) (A : Around) (env : Env)
noncomputable abbrev NxC (rest : List Stmt) (Q : Flow → Shared → Prop) (E : Value → Shared → Prop) : Flow → Shared → Prop := fun f s' => match f with | .next => wpAny c.M A (execs rest env) Q E s' | f => Q f s'
noncomputable abbrev IfN (body orelse : List Stmt) (Q : Flow → Shared → Prop) (E : Value → Shared → Prop) : Bool → Shared → Prop := fun b s => if b = true then wpAny c.M A (execs body env) Q E s else wpAny c.M A (execs orelse env) Q E s
noncomputable abbrev RtN (Q : Flow → Shared → Prop) : Value → Shared → Prop := fun v s => Q (.ret v) s
noncomputable abbrev TrN (Q : Bool → Shared → Prop) (E : Value → Shared → Prop) : Value → Shared → Prop := fun v s => wpAny c.M A (truthy v) Q E s
noncomputable abbrev NotN (Q : Bool → Shared → Prop) : Bool → Shared → Prop := fun b s => Q (!b) s
noncomputable abbrev AndN (rest : List PySem.Expr) (pos : Pos) (whole : Sem Value) (Q : Bool → Shared → Prop) (E : Value → Shared → Prop) : Bool → Shared → Prop := fun b s => if b = true then wpAny c.M A (isTrue (.BoolOp .And rest pos) env whole) Q E s else Q false s
noncomputable abbrev OrN (rest : List PySem.Expr) (pos : Pos) (whole : Sem Value) (Q : Bool → Shared → Prop) (E : Value → Shared → Prop) : Bool → Shared → Prop := fun b s => if b = true then Q true s else wpAny c.M A (isTrue (.BoolOp .Or rest pos) env whole) Q E s
noncomputable abbrev OpN (op : CmpOp) (a : Value) (Q : Value → Shared → Prop) (E : Value → Shared → Prop) : Value → Shared → Prop := fun b s => wpAny c.M A (compareOp op a b) Q E s
noncomputable abbrev CmN (op : CmpOp) (r : PySem.Expr) (Q : Value → Shared → Prop) (E : Value → Shared → Prop) : Value → Shared → Prop := fun a s => wpAny c.M A (eval r env) (OpN c A op a Q E) E s
noncomputable abbrev BoN (op : Operator) (a : Value) (Q : Value → Shared → Prop) (E : Value → Shared → Prop) : Value → Shared → Prop := fun b s => wpAny c.M A (binaryOp op a b) Q E s
noncomputable abbrev BiN (op : Operator) (r : PySem.Expr) (Q : Value → Shared → Prop) (E : Value → Shared → Prop) : Value → Shared → Prop := fun a s => wpAny c.M A (eval r env) (BoN c A op a Q E) E s
noncomputable abbrev IeN (body orelse : PySem.Expr) (Q : Value → Shared → Prop) (E : Value → Shared → Prop) : Bool → Shared → Prop := fun b s => if b = true then wpAny c.M A (eval body env) Q E s else wpAny c.M A (eval orelse env) Q E s
noncomputable abbrev SuB (value slice : PySem.Expr) (o : Value) (Q : Value → Shared → Prop) (E : Value → Shared → Prop) : Value → Shared → Prop := fun i s => wpAny c.M A (subscriptTail value slice o i) Q E s
noncomputable abbrev SuA (value slice : PySem.Expr) (Q : Value → Shared → Prop) (E : Value → Shared → Prop) : Value → Shared → Prop := fun o s => wpAny c.M A (eval slice env) (SuB c A value slice o Q E) E s
noncomputable abbrev AtN (attr : Str) (Q : Value → Shared → Prop) (E : Value → Shared → Prop) : Value → Shared → Prop := fun o s => wpAny c.M A (getAttr o attr true) Q E s
noncomputable abbrev CwN (pos : Pos) (args : List PySem.Expr) (kws : List Keyword) (Q : Value → Shared → Prop) (E : Value → Shared → Prop) : Value × List Value → Shared → Prop := fun fx s => wpAny c.M A (callWith pos fx.1 fx.2 (backTo pos (starEach args env)) (backToKw pos (keywordEach kws env))) Q E s
noncomputable abbrev MeN (name : Str) (pl : Sem Bool) (pos : Pos) (args : List PySem.Expr) (kws : List Keyword) (Q : Value → Shared → Prop) (E : Value → Shared → Prop) : Value → Shared → Prop := fun ov s => wpAny c.M A (getMethod ov name pl) (CwN c A env pos args kws Q E) E s
noncomputable abbrev SpV1 (v : Value) (Q : List Value → Shared → Prop) : List Value → Shared → Prop := fun vs s => Q (v :: vs) s
noncomputable abbrev SpN (rest : List PySem.Expr) (pos : Pos) (Q : List Value → Shared → Prop) (E : Value → Shared → Prop) : Value → Shared → Prop := fun v s => wpAny c.M A (spliced (backTo pos (starEach rest env))) (SpV1 v Q) E s
noncomputable def WhN (body : List Stmt) (K Q : Flow → Shared → Prop) (E : Value → Shared → Prop) : Bool → Shared → Prop := fun b s => if b = true then wpAny c.M A (execs body env) K E s else Q .next s
/-- a name is stored, and on -/
inductive AsK (L : Addr) (x : Str) (rest : List Stmt) (Q : Flow → Shared → Prop) (E : Value → Shared → Prop) (v : Value) (s₁ : Shared) : Prop
  | mk (P C m mu) : St c P C L m mu s₁ → (∀ s', St c P C L (upd m x v) mu s' → wpAny c.M A (execs rest env) Q E s') → AsK L x rest Q E v s₁
end
/-- a simple expression's value: no matter what is done with it -/
structure Ev (c : Cx) (env : Env) (P : View) (L : Addr) (m : Loc) (e : PySem.Expr) (v : Shared → Value) (b : Shared → Shared) : Prop where
  st : ∀ {C mu s}, St c P C L m mu s → St c P C L m mu (b s)
  go : ∀ {C mu s A} {Q : Value → Shared → Prop} {E : Value → Shared → Prop}, St c P C L m mu s → Q (v s) (b s) → wpAny c.M A (eval e env) Q E s
/-- isinstance(v, D): true, or false -/
structure IsiT (c : Cx) (P : View) (v D : Value) : Prop where
  use : ∀ {C L m mu s A} {Q : Value → Shared → Prop} {E : Value → Shared → Prop}, St c P C L m mu s → Q (.bool true) s → wpAny c.M A (call (.builtin "isinstance") [v, D]) Q E s
structure IsiF (c : Cx) (P : View) (v D : Value) : Prop where
  use : ∀ {C L m mu s A} {Q : Value → Shared → Prop} {E : Value → Shared → Prop}, St c P C L m mu s → Q (.bool false) (bump s) → wpAny c.M A (call (.builtin "isinstance") [v, D]) Q E s
section
variable {c : Cx} {P C : View} {L a D D' : Addr} {m : Loc} {mu : Led} {s : Shared} {A : Around} {env : Env} {sc : PySem.Scope} {cl : List (Str × Addr)} {x id : Str} {p p1 p2 p3 pos : Pos} {rest body orelse : List Stmt} {st : Stmt} {E : Value → Shared → Prop} {e e1 e2 e3 value test : PySem.Expr} {v : Value} {fs : Flds} {xs : List Value}
theorem nxc {Q : Flow → Shared → Prop} (h : wpAny c.M A (execs rest env) Q E s) : NxC c A env rest Q E .next s := h
theorem ifnT {Q : Flow → Shared → Prop} {b : Bool} (hb : b = true) (h : wpAny c.M A (execs body env) Q E s) : IfN c A env body orelse Q E b s := by subst hb; exact h
theorem ifnF {Q : Flow → Shared → Prop} {b : Bool} (hb : b = false) (h : wpAny c.M A (execs orelse env) Q E s) : IfN c A env body orelse Q E b s := by subst hb; exact h
theorem andT {Q : Bool → Shared → Prop} {es : List PySem.Expr} {whole : Sem Value} {b : Bool} (hb : b = true) (h : wpAny c.M A (isTrue (.BoolOp .And es pos) env whole) Q E s) : AndN c A env es pos whole Q E b s := by subst hb; exact h
theorem andF {Q : Bool → Shared → Prop} {es : List PySem.Expr} {whole : Sem Value} {b : Bool} (hb : b = false) (h : Q false s) : AndN c A env es pos whole Q E b s := by subst hb; exact h
theorem orT {Q : Bool → Shared → Prop} {es : List PySem.Expr} {whole : Sem Value} {b : Bool} (hb : b = true) (h : Q true s) : OrN c A env es pos whole Q E b s := by subst hb; exact h
theorem orF {Q : Bool → Shared → Prop} {es : List PySem.Expr} {whole : Sem Value} {b : Bool} (hb : b = false) (h : wpAny c.M A (isTrue (.BoolOp .Or es pos) env whole) Q E s) : OrN c A env es pos whole Q E b s := by subst hb; exact h
theorem whnT {K Q : Flow → Shared → Prop} {b : Bool} (hb : b = true) (h : wpAny c.M A (execs body env) K E s) : WhN c A env body K Q E b s := by subst hb; exact h
theorem whnF {K Q : Flow → Shared → Prop} {b : Bool} (hb : b = false) (h : Q .next s) : WhN c A env body K Q E b s := by subst hb; exact h
theorem trB {Q : Bool → Shared → Prop} {b : Bool} (h : Q b s) : TrN c A Q E (.bool b) s := wpAny_truthy_bool h
/-! statements -/
theorem consN {Q : Flow → Shared → Prop} (h : wpAny c.M A (exec st env) (NxC c A env rest Q E) E s) : wpAny c.M A (execs (st :: rest) env) Q E s := wpAny_execs_cons h
theorem consAs {Q : Flow → Shared → Prop} (hE : EnvOk env sc L cl) (hk : sc.names.lookup x = some .local) (h : wpAny c.M A (eval value env) (AsK c A env L x rest Q E) E s) (hs : swapsWith value (some (.Name x p)) pos.line env = pure false := by rfl) :
    wpAny c.M A (execs (.Assign [.Name x p] value pos :: rest) env) Q E s :=
  wpAny_execs_cons (xAssign hE hk (wpAny_mono h (fun v s₁ ⟨P, C, m, mu, S, k⟩ => ⟨P, C, m, mu, S, fun s' S' => k s' S'⟩) fun _ _ e => e) hs)
theorem asE {Q : Flow → Shared → Prop} {v : Shared → Value} {b : Shared → Shared} (S : St c P C L m mu s) (hE : EnvOk env sc L cl) (hk : sc.names.lookup x = some .local) (ev : Ev c env P L m value v b) (h : ∀ s', St c P C L (upd m x (v s)) mu s' → wpAny c.M A (execs rest env) Q E s')
    (hs : swapsWith value (some (.Name x p)) pos.line env = pure false := by rfl) : wpAny c.M A (execs (.Assign [.Name x p] value pos :: rest) env) Q E s :=
  consAs hE hk (ev.go S ⟨_, _, _, _, ev.st S, h⟩) hs
theorem consIf {Q : Flow → Shared → Prop} (h : wpAny c.M A (isTrue test env (eval test env)) (IfN c A env body orelse (NxC c A env rest Q E) E) E s) : wpAny c.M A (execs (.If test body orelse pos :: rest) env) Q E s := wpAny_execs_cons (wpAny_If h)
theorem consRt {Q : Flow → Shared → Prop} (h : wpAny c.M A (eval value env) (RtN Q) E s) : wpAny c.M A (execs (.Return (some value) pos :: rest) env) Q E s := wpAny_execs_cons (wpAny_Return_some h)
theorem rtE {Q : Flow → Shared → Prop} {v : Shared → Value} {b : Shared → Shared} (S : St c P C L m mu s) (ev : Ev c env P L m value v b) (h : Q (.ret (v s)) (b s)) : wpAny c.M A (execs (.Return (some value) pos :: rest) env) Q E s := consRt (ev.go S h)
theorem useEv {Q : Value → Shared → Prop} {v : Shared → Value} {b : Shared → Shared} (S : St c P C L m mu s) (ev : Ev c env P L m e v b) (h : Q (v s) (b s)) : wpAny c.M A (eval e env) Q E s := ev.go S h
/-! simple expressions -/
theorem evN (hE : EnvOk env sc L cl) (hk : sc.names.lookup x = some .local) (hm : m x = some v) (hd : (x == ("__debug__" : Str)) = false := by decide) : Ev c env P L m (.Name x pos) (fun _ => v) (fun s => s) := ⟨fun S => S, fun S h => nm_loc S hE hk hm h hd⟩
theorem evG (hE : EnvOk env sc L cl) (hk : sc.names.lookup x = some .globalImplicit) (hg : nsIn c.K mainGlobals x = some (some v)) (hd : (x == ("__debug__" : Str)) = false := by decide) : Ev c env P L m (.Name x pos) (fun _ => v) (fun s => s) := ⟨fun S => S, fun S h => nm_glob S hE hk hg h hd⟩
theorem evS {k : Nat} : Ev c env P L m (.Constant (.str x) k pos) (fun s => .str x s.toks) bump := ⟨fun S => S.bump, fun S h => kStr h⟩
theorem evI {k : Nat} {i : Int} : Ev c env P L m (.Constant (.int i) k pos) (fun s => .int i s.toks) bump := ⟨fun S => S.bump, fun S h => kInt h⟩
theorem evNone {k : Nat} : Ev c env P L m (.Constant .none k pos) (fun _ => .none) (fun s => s) := ⟨fun S => S, fun S h => kNone h⟩
theorem evB {k : Nat} {b : Bool} : Ev c env P L m (.Constant (.bool b) k pos) (fun _ => .bool b) (fun s => s) := ⟨fun S => S, fun S h => kBool h⟩
theorem evA {attr : Str} {b : Shared → Shared} (ev : Ev c env P L m e (fun _ => .ref a) b) (I : Inst c.w P a D fs) (ha : AttrOk c.K D attr) (hf : fs.lookup attr = some v) (hv : handedIn v = true)
    (he : eval (.Attribute e attr pos) env = (do
      let o ← eval e env
      standAt pos.atName
      let r ← holding [o] (getAttr o attr true)
      letTemporaryGo e o r
      pure r) := by with_unfolding_all rfl) : Ev c env P L m (.Attribute e attr pos) (fun _ => v) (fun s => bump (b s)) :=
  ⟨fun S => (ev.st S).bump, fun {C mu s A Q E} S h => Attribute_any_ (ev.go S (getF (ev.st S) I ha hf hv h)) he⟩
theorem evSub {b : Shared → Shared} {i : Int} {k : Nat} (ev : Ev c env P L m e (fun _ => .ref a) b) (ht : IsTp P a xs) (h0 : 0 ≤ i) (hz : i < 10000) (hl : i.toNat < xs.length) (hx : xs[i.toNat]? = some v)
    (hs : ∀ u, subscripted (.Constant (.int i) k p) false (.ref a) (.int i u) = operate [.ref a, .int i u] (getItem (.ref a) (.int i u)) := by intro _; with_unfolding_all rfl) : Ev c env P L m (.Subscript e (.Constant (.int i) k p) pos) (fun _ => v) (fun s => bump (b s)) :=
  ⟨fun S => (ev.st S).bump, fun {C mu s A Q E} S h => Subscript_ (ev.go S (kInt (subT (ev.st S).bump ht h0 hz hl hx h (hs _))))⟩
/-! tests -/
theorem tEv {Q : Bool → Shared → Prop} {bb : Bool} {b : Shared → Shared} (S : St c P C L m mu s) (ev : Ev c env P L m e (fun _ => .bool bb) b) (h : Q bb (b s))
    (he : isTrue e env (eval e env) = (do let v ← eval e env; standAt e.pos; holding [v] (truthy v)) := by rfl) : wpAny c.M A (isTrue e env (eval e env)) Q E s := isTrue_plain (ev.go S (wpAny_truthy_bool h)) he
theorem tIsi {Q : Bool → Shared → Prop} {b : Shared → Shared} (S : St c P C L m mu s) (hE : EnvOk env sc L cl) (h1 : sc.names.lookup ("isinstance" : Str) = some .globalImplicit) (ev : Ev c env P L m e (fun _ => v) b) (h2 : sc.names.lookup id = some .globalImplicit) (hg : GlobOk c.K id D)
    (h : wpAny c.M A (call (.builtin "isinstance") [v, .ref D]) (TrN c A Q E) E (b s)) (hd : (id == ("__debug__" : Str)) = false := by decide)
    (he : isTrue (.Call (.Name "isinstance" p1) [e, .Name id p2] [] pos) env (eval (.Call (.Name "isinstance" p1) [e, .Name id p2] [] pos) env) = (do let v ← eval (.Call (.Name "isinstance" p1) [e, .Name id p2] [] pos) env; standAt (PySem.Expr.Call (.Name "isinstance" p1) [e, .Name id p2] [] pos).pos; holding [v] (truthy v)) := by rfl)
    (he2 : starEach [e, .Name id p2] env = [(false, eval e env), (false, eval (.Name id p2) env)] := by rfl) :
    wpAny c.M A (isTrue (.Call (.Name "isinstance" p1) [e, .Name id p2] [] pos) env (eval (.Call (.Name "isinstance" p1) [e, .Name id p2] [] pos) env)) Q E s :=
  isTrue_plain (cB2 S hE h1 c.fx.b_isinstance boot_isinstance (ev.go S (nm_glob (ev.st S) hE h2 hg.at_ h hd)) he2) he
theorem tIsiT {Q : Bool → Shared → Prop} {b : Shared → Shared} (S : St c P C L m mu s) (hE : EnvOk env sc L cl) (h1 : sc.names.lookup ("isinstance" : Str) = some .globalImplicit) (ev : Ev c env P L m e (fun _ => v) b) (h2 : sc.names.lookup id = some .globalImplicit) (hg : GlobOk c.K id D)
    (r : IsiT c P v (.ref D)) (h : Q true (b s)) (hd : (id == ("__debug__" : Str)) = false := by decide)
    (he : isTrue (.Call (.Name "isinstance" p1) [e, .Name id p2] [] pos) env (eval (.Call (.Name "isinstance" p1) [e, .Name id p2] [] pos) env) = (do let v ← eval (.Call (.Name "isinstance" p1) [e, .Name id p2] [] pos) env; standAt (PySem.Expr.Call (.Name "isinstance" p1) [e, .Name id p2] [] pos).pos; holding [v] (truthy v)) := by rfl)
    (he2 : starEach [e, .Name id p2] env = [(false, eval e env), (false, eval (.Name id p2) env)] := by rfl) :
    wpAny c.M A (isTrue (.Call (.Name "isinstance" p1) [e, .Name id p2] [] pos) env (eval (.Call (.Name "isinstance" p1) [e, .Name id p2] [] pos) env)) Q E s :=
  tIsi S hE h1 ev h2 hg (r.use (ev.st S) (trB h)) hd he he2
theorem tIsiF {Q : Bool → Shared → Prop} {b : Shared → Shared} (S : St c P C L m mu s) (hE : EnvOk env sc L cl) (h1 : sc.names.lookup ("isinstance" : Str) = some .globalImplicit) (ev : Ev c env P L m e (fun _ => v) b) (h2 : sc.names.lookup id = some .globalImplicit) (hg : GlobOk c.K id D)
    (r : IsiF c P v (.ref D)) (h : Q false (bump (b s))) (hd : (id == ("__debug__" : Str)) = false := by decide)
    (he : isTrue (.Call (.Name "isinstance" p1) [e, .Name id p2] [] pos) env (eval (.Call (.Name "isinstance" p1) [e, .Name id p2] [] pos) env) = (do let v ← eval (.Call (.Name "isinstance" p1) [e, .Name id p2] [] pos) env; standAt (PySem.Expr.Call (.Name "isinstance" p1) [e, .Name id p2] [] pos).pos; holding [v] (truthy v)) := by rfl)
    (he2 : starEach [e, .Name id p2] env = [(false, eval e env), (false, eval (.Name id p2) env)] := by rfl) :
    wpAny c.M A (isTrue (.Call (.Name "isinstance" p1) [e, .Name id p2] [] pos) env (eval (.Call (.Name "isinstance" p1) [e, .Name id p2] [] pos) env)) Q E s :=
  tIsi S hE h1 ev h2 hg (r.use (ev.st S) (trB h)) hd he he2
theorem tTup {Q : Bool → Shared → Prop} {b : Shared → Shared} (S : St c P C L m mu s) (hE : EnvOk env sc L cl) (h1 : sc.names.lookup ("isinstance" : Str) = some .globalImplicit) (ev : Ev c env P L m e (fun _ => .ref a) b) (h2 : sc.names.lookup ("tuple" : Str) = some .globalImplicit) (ht : IsTp P a xs)
    (h : Q true (b s))
    (he : isTrue (.Call (.Name "isinstance" p1) [e, .Name "tuple" p2] [] pos) env (eval (.Call (.Name "isinstance" p1) [e, .Name "tuple" p2] [] pos) env) = (do let v ← eval (.Call (.Name "isinstance" p1) [e, .Name "tuple" p2] [] pos) env; standAt (PySem.Expr.Call (.Name "isinstance" p1) [e, .Name "tuple" p2] [] pos).pos; holding [v] (truthy v)) := by rfl)
    (he2 : starEach [e, .Name "tuple" p2] env = [(false, eval e env), (false, eval (.Name "tuple" p2) env)] := by rfl) :
    wpAny c.M A (isTrue (.Call (.Name "isinstance" p1) [e, .Name "tuple" p2] [] pos) env (eval (.Call (.Name "isinstance" p1) [e, .Name "tuple" p2] [] pos) env)) Q E s :=
  isTrue_plain (cB2 S hE h1 c.fx.b_isinstance boot_isinstance (ev.go S (nTuple (ev.st S) hE h2 (isiTup (ev.st S) ht (wpAny_truthy_bool h)))) he2) he
theorem tTupI {Q : Bool → Shared → Prop} {b : Shared → Shared} {i : Int} {t : Tok} (S : St c P C L m mu s) (hE : EnvOk env sc L cl) (h1 : sc.names.lookup ("isinstance" : Str) = some .globalImplicit) (ev : Ev c env P L m e (fun _ => .int i t) b) (h2 : sc.names.lookup ("tuple" : Str) = some .globalImplicit)
    (h : Q false (bump (b s)))
    (he : isTrue (.Call (.Name "isinstance" p1) [e, .Name "tuple" p2] [] pos) env (eval (.Call (.Name "isinstance" p1) [e, .Name "tuple" p2] [] pos) env) = (do let v ← eval (.Call (.Name "isinstance" p1) [e, .Name "tuple" p2] [] pos) env; standAt (PySem.Expr.Call (.Name "isinstance" p1) [e, .Name "tuple" p2] [] pos).pos; holding [v] (truthy v)) := by rfl)
    (he2 : starEach [e, .Name "tuple" p2] env = [(false, eval e env), (false, eval (.Name "tuple" p2) env)] := by rfl) :
    wpAny c.M A (isTrue (.Call (.Name "isinstance" p1) [e, .Name "tuple" p2] [] pos) env (eval (.Call (.Name "isinstance" p1) [e, .Name "tuple" p2] [] pos) env)) Q E s :=
  isTrue_plain (cB2 S hE h1 c.fx.b_isinstance boot_isinstance (ev.go S (nTuple (ev.st S) hE h2 (isiTupI (wpAny_truthy_bool h)))) he2) he
theorem useIsiF {Q : Value → Shared → Prop} (S : St c P C L m mu s) (r : IsiF c P v (.ref D)) (h : Q (.bool false) (bump s)) : wpAny c.M A (call (.builtin "isinstance") [v, .ref D]) Q E s := r.use S h
theorem isiTof (I : Inst c.w P a D fs) (e : isIn c.K (.ref D) D = true) : IsiT c P (.ref a) (.ref D) := ⟨fun S h => isiT S I e h⟩
theorem isiFof (I : Inst c.w P a D fs) (k : KinC c.K D) (e : kin_not c.K D D' = true) : IsiF c P (.ref a) (.ref D') := ⟨fun S h => isiF S I k e h⟩
theorem isiIof {i : Int} {t : Tok} (e : isNotIn c.K "int" D = true) : IsiF c P (.int i t) (.ref D) := ⟨fun S h => isiI S e h⟩
theorem tCmp {Q : Bool → Shared → Prop} {op : CmpOp} {v1 v2 : Shared → Value} {b1 b2 : Shared → Shared} (S : St c P C L m mu s) (ev1 : Ev c env P L m e1 v1 b1) (ev2 : Ev c env P L m e2 v2 b2)
    (h : wpAny c.M A (compareOp op (v1 s) (v2 (b1 s))) (TrN c A Q E) E (b2 (b1 s))) (hm : behindInMarks op e2 = false := by with_unfolding_all rfl) : wpAny c.M A (isTrue (.Compare e1 [op] [e2] pos) env (eval (.Compare e1 [op] [e2] pos) env)) Q E s :=
  wpAny_isTrue_Compare1 (ev1.go S (ev2.go (ev1.st S) h)) hm
theorem tCmp1 {Q : Bool → Shared → Prop} {op : CmpOp} (h : wpAny c.M A (eval e1 env) (CmN c A env op e2 (TrN c A Q E) E) E s) (hm : behindInMarks op e2 = false := by with_unfolding_all rfl) : wpAny c.M A (isTrue (.Compare e1 [op] [e2] pos) env (eval (.Compare e1 [op] [e2] pos) env)) Q E s := wpAny_isTrue_Compare1 h hm
theorem eCmp {Q : Value → Shared → Prop} {op : CmpOp} {v1 v2 : Shared → Value} {b1 b2 : Shared → Shared} (S : St c P C L m mu s) (ev1 : Ev c env P L m e1 v1 b1) (ev2 : Ev c env P L m e2 v2 b2)
    (h : wpAny c.M A (compareOp op (v1 s) (v2 (b1 s))) Q E (b2 (b1 s))) (hm : behindInMarks op e2 = false := by with_unfolding_all rfl) : wpAny c.M A (eval (.Compare e1 [op] [e2] pos) env) Q E s :=
  wpAny_Compare1 (ev1.go S (ev2.go (ev1.st S) h)) hm
theorem eCmp1 {Q : Value → Shared → Prop} {op : CmpOp} (h : wpAny c.M A (eval e1 env) (CmN c A env op e2 Q E) E s) (hm : behindInMarks op e2 = false := by with_unfolding_all rfl) : wpAny c.M A (eval (.Compare e1 [op] [e2] pos) env) Q E s := wpAny_Compare1 h hm
theorem tNot {Q : Bool → Shared → Prop} {whole : Sem Value} (h : wpAny c.M A (isTrue e env (eval e env)) (NotN Q) E s) : wpAny c.M A (isTrue (.UnaryOp .Not e pos) env whole) Q E s := isTrue_not h
theorem tAnd {Q : Bool → Shared → Prop} {es : List PySem.Expr} {whole : Sem Value} (h : wpAny c.M A (isTrue e env (eval e env)) (AndN c A env es pos whole Q E) E s) : wpAny c.M A (isTrue (.BoolOp .And (e :: es) pos) env whole) Q E s := isTrue_and h
theorem tOr {Q : Bool → Shared → Prop} {es : List PySem.Expr} {whole : Sem Value} (h : wpAny c.M A (isTrue e env (eval e env)) (OrN c A env es pos whole Q E) E s) : wpAny c.M A (isTrue (.BoolOp .Or (e :: es) pos) env whole) Q E s := isTrue_or h
theorem tPl {Q : Bool → Shared → Prop} (h : wpAny c.M A (eval e env) (TrN c A Q E) E s) (he : isTrue e env (eval e env) = (do let v ← eval e env; standAt e.pos; holding [v] (truthy v)) := by rfl) : wpAny c.M A (isTrue e env (eval e env)) Q E s := isTrue_plain h he
/-! a bool that is known -/
theorem boT {Q : Value → Shared → Prop} {b : Bool} (hb : b = true) (h : Q (.bool true) s) : Q (.bool b) s := by subst hb; exact h
theorem boF {Q : Value → Shared → Prop} {b : Bool} (hb : b = false) (h : Q (.bool false) s) : Q (.bool b) s := by subst hb; exact h
theorem bnT {Q : Value → Shared → Prop} {b : Bool} (hb : b = true) (h : Q (.bool false) s) : Q (.bool (!b)) s := by subst hb; exact h
theorem bnF {Q : Value → Shared → Prop} {b : Bool} (hb : b = false) (h : Q (.bool true) s) : Q (.bool (!b)) s := by subst hb; exact h
/-! expressions -/
theorem eAt {Q : Value → Shared → Prop} {attr : Str} (h : wpAny c.M A (eval value env) (AtN c A attr Q E) E s)
    (he : eval (.Attribute value attr pos) env = (do
      let o ← eval value env
      standAt pos.atName
      let r ← holding [o] (getAttr o attr true)
      letTemporaryGo value o r
      pure r) := by with_unfolding_all rfl) : wpAny c.M A (eval (.Attribute value attr pos) env) Q E s := Attribute_any_ h he
theorem eMe {Q : Value → Shared → Prop} {name : Str} {apos : Pos} {args : List PySem.Expr} {kws : List Keyword} {pl : Sem Bool} (h : wpAny c.M A (eval e env) (MeN c A env name pl pos args kws Q E) E s)
    (he : eval (.Call (.Attribute e name apos) args kws pos) env = (do
      let ov ← eval e env
      standAt apos.atName
      let (f, first) ← holding [ov] (getMethod ov name pl)
      callWith pos f first (backTo pos (starEach args env)) (backToKw pos (keywordEach kws env))) := by rfl) : wpAny c.M A (eval (.Call (.Attribute e name apos) args kws pos) env) Q E s := methodCall_KW h he
theorem eMeE {Q : Value → Shared → Prop} {name : Str} {apos : Pos} {args : List PySem.Expr} {kws : List Keyword} {pl : Sem Bool} {b : Shared → Shared} (S : St c P C L m mu s) (ev : Ev c env P L m e (fun _ => v) b) (h : wpAny c.M A (getMethod v name pl) (CwN c A env pos args kws Q E) E (b s))
    (he : eval (.Call (.Attribute e name apos) args kws pos) env = (do
      let ov ← eval e env
      standAt apos.atName
      let (f, first) ← holding [ov] (getMethod ov name pl)
      callWith pos f first (backTo pos (starEach args env)) (backToKw pos (keywordEach kws env))) := by rfl) : wpAny c.M A (eval (.Call (.Attribute e name apos) args kws pos) env) Q E s := methodCall_KW (ev.go S h) he
theorem eIe {Q : Value → Shared → Prop} (h : wpAny c.M A (isTrue test env (eval test env)) (IeN c A env e1 e2 Q E) E s) : wpAny c.M A (eval (.IfExp test e1 e2 pos) env) Q E s := IfExp_ h
theorem ieT {Q : Value → Shared → Prop} {b : Bool} (hb : b = true) (h : wpAny c.M A (eval e1 env) Q E s) : IeN c A env e1 e2 Q E b s := by subst hb; exact h
theorem ieF {Q : Value → Shared → Prop} {b : Bool} (hb : b = false) (h : wpAny c.M A (eval e2 env) Q E s) : IeN c A env e1 e2 Q E b s := by subst hb; exact h
theorem eSu {Q : Value → Shared → Prop} (h : wpAny c.M A (eval e1 env) (SuA c A env e1 e2 Q E) E s) : wpAny c.M A (eval (.Subscript e1 e2 pos) env) Q E s := Subscript_ h
theorem eBi {Q : Value → Shared → Prop} {op : Operator} (h : wpAny c.M A (eval e1 env) (BiN c A env op e2 Q E) E s) : wpAny c.M A (eval (.BinOp e1 op e2 pos) env) Q E s := wpAny_BinOp h
theorem eSp {Q : List Value → Shared → Prop} {es : List PySem.Expr} (h : wpAny c.M A (eval e env) (SpN c A env es pos Q E) E s) (he : starEach (e :: es) env = (false, eval e env) :: starEach es env := by rfl) : wpAny c.M A (spliced (backTo pos (starEach (e :: es) env))) Q E s := spliced_more h he
theorem eSpE {Q : List Value → Shared → Prop} {es : List PySem.Expr} {v : Shared → Value} {b : Shared → Shared} (S : St c P C L m mu s) (ev : Ev c env P L m e v b) (h : wpAny c.M A (spliced (backTo pos (starEach es env))) (SpV1 (v s) Q) E (b s)) (he : starEach (e :: es) env = (false, eval e env) :: starEach es env := by rfl) : wpAny c.M A (spliced (backTo pos (starEach (e :: es) env))) Q E s := spliced_more (ev.go S h) he
/-! a while loop -/
theorem whileS {Q : Flow → Shared → Prop} (I : Nat → Shared → Prop)
    (turn : ∀ {K : Flow → Shared → Prop} {E2 : Value → Shared → Prop} (n : Nat) (s : Shared), I n s → (∀ m s', m < n → I m s' → K .next s') → (∀ v s', Q (.ret v) s' → K (.ret v) s') → wpAny c.M A (isTrue test env (eval test env)) (WhN c A env body K Q E2) E2 s)
    (n : Nat) (h : I n s) : wpAny c.M A (exec (.While test body [] pos) env) Q E s := by
  refine wpAny_While (codeAny_whileLoop I (fun n s hI => ?_) n h)
  refine wpAny_mono (turn (K := fun f s₃ => match f with
            | .next | .cont => ∃ m, m < n ∧ I m s₃
            | .brk => Q .next s₃
            | .ret v => Q (.ret v) s₃) n s hI (fun m s' hm hI => ⟨m, hm, hI⟩) fun v s' h => h) (fun b s₂ h₂ => ?_) fun _ _ e => e
  cases b with
  | true => exact h₂
  | false => exact wpAny_execs_nil h₂
end
end TC9
section TX1
section
variable {prog : Program} {w : World} {A : Around} {E : Value → Shared → Prop} {h : Heap} {g : Array GenState} {d : Drawn} {t : Nat} {os : OsState}
variable {nm q : Str} {C N : Addr} {bs bm bmB : List Value} {hdct : Bool} {sn : List Str} {sub : List Value} {ab : Bool} {col : Option Bool} {dd : Option Addr} {k0 k1 k2 k3 k5 : Option Value} {B newId initId : String}
noncomputable abbrev excObj (C t : Addr) : Obj := { cls := .ref C, data := .fields #[.ref t, .none, .none, .none, .bool false, .none] }
theorem exc_check_new {M : Model} (F : ExcBaseFacts B newId initId bmB) (h1 : bm.contains (.type B) = true) {rest : List Value} {Q : Unit → Shared → Prop} (hC : h.get? C = some (excClassObj nm q C N bs bm hdct sn sub ab col dd k0 k1 k2 k3 k5 newId))
    (hq : Q () ⟨h, g, d, t, os⟩) : wpAny M A (checkBuiltinCall newId ⟨.ref C :: rest, []⟩) Q E ⟨h, g, d, t, os⟩ := by
  have hcont : (Value.ref C :: bm).contains (.type B) = true := by rw [List.contains_cons, h1, Bool.or_true]
  have hstar := F.noStar
  unfold checkBuiltinCall
  rw [F.newKind, F.newSplit, F.newRow]
  dsimp only
  repeat (first | refine wpAny_loadPart_at hC ?_ | (refine wpAny_isSubtype_exc hC ?_; rw [hcont]) | refine wpAny_staticBase_exc hC ?_ | refine wpAny_madeBy_exc hC ?_ | simp only [bne_self_eq_false, Bool.false_eq_true, if_false] | wp_step)
  exact hq
theorem exc_new {R : Result → Shared → Prop} (F : ExcBaseFacts B newId initId bmB) (h1 : bm.contains (.type B) = true) (h2 : bm.contains (.type "AttributeError") = false) (h3 : bm.contains (.type "NameError") = false) {rest : List Value}
    (hC : h.get? C = some (excClassObj nm q C N bs bm hdct sn sub ab col dd k0 k1 k2 k3 k5 newId))
    (hq : R (.ok (.ret (.ref (h.objs.size + 1)))) ⟨(h.push { cls := .type "tuple", data := .seq rest.toArray }).push (excObj C h.objs.size), g, d, t, os⟩) (hrest : rest.length ≤ sizeLine := by size_fits) :
    codeAny (model prog w) A (.builtin newId ⟨.ref C :: rest, []⟩) R ⟨h, g, d, t, os⟩ := by
  have hends := F.ends
  have hcB : (Value.ref C :: bm).contains (.type B) = true := by rw [List.contains_cons, h1, Bool.or_true]
  have hcA : (Value.ref C :: bm).contains (.type "AttributeError") = false := by rw [List.contains_cons, h2]; rfl
  have hcN : (Value.ref C :: bm).contains (.type "NameError") = false := by rw [List.contains_cons, h3]; rfl
  refine codeAny_builtinAt F.entry ?_
  unfold Builtin.«BaseException.__new__»
  refine PySem.wpAt_bind ?_
  show PySem.wpAt _ _ _ (stack >>= _) _ _ _
  refine PySem.wpAt_bind (PySem.wpAt_stack fun p below => PySem.wpAt_of_wpAny ?_)
  wp_walk
  refine PySem.wpAt_of_wpAny ?_
  rw [F.owner]
  repeat (first | with_reducible refine wpAny_madeHere_exc F.canon hC ?_ | with_reducible refine wpAny_loadPart_at hC ?_ | (with_reducible refine wpAny_isSubtype_exc hC ?_; first | rw [hcB] | rw [hcA] | rw [hcN]) | wp_step)
  show R _ _
  rw [Heap.size_push]
  exact hq
theorem exc_type_call {K : Frag} (F : ExcBaseFacts B newId initId bmB) (h1 : bm.contains (.type B) = true) (h2 : bm.contains (.type "AttributeError") = false) (h3 : bm.contains (.type "NameError") = false) {rest : List Value} {fI : Addr} {Q : Fin → Shared → Prop}
    (X : K.In h) (hC : h.get? C = some (excClassObj nm q C N bs bm hdct sn sub ab col dd k0 k1 k2 k3 k5 newId)) (hi : findIn K (.ref C) "__init__" = some (some (.ref fI))) (hfn : typeIn K (.ref fI) = some (.type "function"))
    (hq : wpAny (model prog w) A (call (.ref fI) (.ref (h.objs.size + 1) :: rest)) (fun r s' => r = .none ∧ Q (.done (.ret (.ref (h.objs.size + 1)))) s') E ⟨(h.push { cls := .type "tuple", data := .seq rest.toArray }).push (excObj C h.objs.size), g, d, t, os⟩) (hrest : rest.length ≤ sizeLine := by size_fits) :
    wpAny (model prog w) A (Builtin.«type.__call__» ⟨.ref C :: rest, []⟩) Q E ⟨h, g, d, t, os⟩ := by
  repeat (first | with_reducible refine wpAny_loadPart_at hC ?_ | with_reducible refine wpAny_madeBy_exc hC ?_ | wp_step)
  refine codeAny_call_builtin_code (Code.quiet_builtin _ F.quiet) (exc_check_new F h1 hC ?_)
  refine exc_new F h1 h2 h3 hC ?_ hrest
  show wpAny _ _ _ _ _ _
  have hk : ∀ b o, h.get? b = some o → ((h.push { cls := .type "tuple", data := .seq rest.toArray }).push (excObj C h.objs.size)).get? b = some o := fun b o e => Heap.get?_push_of_some _ (Heap.get?_push_of_some _ e)
  have hC₁ := hk _ _ hC
  have X₁ := X.keeps hk
  have hget : ((h.push { cls := .type "tuple", data := .seq rest.toArray }).push (excObj C h.objs.size)).get? (h.objs.size + 1) = some (excObj C h.objs.size) := by heap_get
  have hcC : (Value.ref C :: bm).contains (.ref C) = true := by simp
  unfold isInstance
  repeat (first | with_reducible refine wpAny_loadPart_at hget ?_ | (with_reducible refine wpAny_isSubtype_exc hC₁ ?_; rw [hcC]) | wp_step)
  show wpAny _ _ (typeLookup (.ref C) _) _ _ _
  refine (looks_findIn X₁ hi).here ?_
  refine wpAny_holding (wpAny_bind ?_)
  refine (bind_fn X₁ _ hfn).here ?_
  dsimp only
  refine wpAny_bind (wpAny_mono hq (fun r s' hr => ?_) fun _ _ x => x)
  obtain ⟨rfl, hQ⟩ := hr
  wp_walk
  exact hQ
theorem exc_call {K : Frag} (F : ExcBaseFacts B newId initId bmB) (h1 : bm.contains (.type B) = true) (h2 : bm.contains (.type "AttributeError") = false) (h3 : bm.contains (.type "NameError") = false) {rest : List Value} {fI : Addr} {Q : Value → Shared → Prop}
    (X : K.In h) (hC : h.get? C = some (excClassObj nm q C N bs bm hdct sn sub ab col dd k0 k1 k2 k3 k5 newId)) (hi : findIn K (.ref C) "__init__" = some (some (.ref fI))) (hfn : typeIn K (.ref fI) = some (.type "function"))
    (hq : wpAny (model prog w) (A.under (.builtin "type.__call__" ⟨.ref C :: rest, []⟩)) (call (.ref fI) (.ref (h.objs.size + 1) :: rest)) (fun r s' => r = .none ∧ Q (.ref (h.objs.size + 1)) s') E ⟨(h.push { cls := .type "tuple", data := .seq rest.toArray }).push (excObj C h.objs.size), g, d, t, os⟩) (hrest : rest.length ≤ sizeLine := by size_fits) :
    wpAny (model prog w) A (call (.ref C) rest) Q E ⟨h, g, d, t, os⟩ := by
  have f1 := tc_lookup
  have f2 := tc_bind (.ref C)
  have hT : (⟨h, g, d, t, os⟩ : Shared).TypeIs (.ref C) "type" := ⟨_, hC, rfl⟩
  refine wpAny_call (codeAny_of_tree ?_)
  show wpAny _ _ (callAny (.ref C) _) _ _ _
  repeat (any_goals (first | assumption | with_reducible refine wpAny_loadPart_at hC ?_ | wp_step))
  refine ⟨rfl, ?_⟩
  exact codeAny_call_builtin_at (Code.quiet_builtin _ (by decide +kernel)) entry_typeCall (wpAny_check_type_call_sub hC (exc_type_call (hrest := hrest) F h1 h2 h3 X hC hi hfn hq))
theorem exc_raise {M : Model} {env : Env} {s : Shared} {x : Sem Value} {Q : Flow → Shared → Prop} (hbase : bm.contains (.type "BaseException") = true) (hh : A.handled = none)
    (hx : wpAny M A x (fun v s₁ => Ex3 fun e oe t => And6 (v = .ref e) (s₁.heap.get? C = some (excClassObj nm q C N bs bm hdct sn sub ab col dd k0 k1 k2 k3 k5 newId)) (s₁.heap.get? e = some oe) (oe.cls = .ref C) (oe.data = .fields #[.ref t, .none, .none, .none, .bool false, .none]) (E (.ref e) s₁)) E s) :
    wpAny M A (raiseStmt env (some x) none) Q E s := by
  have hcB : (Value.ref C :: bm).contains (.type "BaseException") = true := by rw [List.contains_cons, hbase, Bool.or_true]
  unfold raiseStmt
  refine wpAny_bind (wpAny_mono hx (fun v s₁ h₁ => ?_) fun _ _ x => x)
  obtain ⟨e, oe, t, rfl, hC, he, hcl, hdt, hE⟩ := h₁
  obtain ⟨hp, g, d, tk, os⟩ := s₁
  obtain ⟨oc, od, oda, osl⟩ := oe
  dsimp only at hcl hdt
  subst hcl hdt
  repeat (first | with_reducible refine wpAny_loadPart_at he ?_ | with_reducible refine wpAny_loadPart_at hC ?_ | (with_reducible refine wpAny_isSubtype_exc hC ?_; rw [hcB]) | wp_step)
  exact wpAny_raiseNew_none hh hE
end
end TX1
section TX2
open PySem PySem.W PySem.Calls PyProof.Rows PySem.Builtin PySem.Builtin.ObjectAttr PySem.Builtin.Getset_descriptor
theorem refuse_exc (self : Value) (C D : Addr) : refuseLoop self "__setattr__" [.ref C, .ref D, .type "Exception", .type "BaseException", .type "object"] = pure () := by
  rw [refuseLoop_ref, refuseLoop_ref]
  rfl
section
variable {prog : Program} {w : World} {K : Frag} {A : Around} {s : Shared} {x C : Addr} {R : Result → Shared → Prop} {E : Value → Shared → Prop}
theorem osa_open_exc {ox : Obj} {od : Option Obj} {name : Str} {tk : Tok} {v : Value} (X : K.In s.heap) (I : InstAt s.heap x ox C od) (F : ExcSet K C name)
    (h : ∀ b, wpAny (model prog w) A.in1 (storeInOwnDict (.ref x) (.ref C) (.str name tk) name v b)
      (fun fin s' => match fin with | .done f => R (.ok f) s' | .again c' => c'.quiet = true ∧ codeAny (model prog w) A c' R s') (fun e s' => R (.error e) s') s) :
    codeAny (model prog w) A (.call (.builtin "object.__setattr__") ⟨[.ref x, .str name tk, v], []⟩) R s := by
  have SF := PySem.F.store_object
  obtain ⟨cd, hc, ho, hd⟩ := F.cls
  have ne : cd.mro.isEmpty = false := by rw [ho]; rfl
  have sub : Looks (model prog w) s.heap (isInstance (.ref x) (.type "object")) true := I.type.andThen (looks_mroIn X (by unfold mroIn; rw [hc, Option.bind_some, if_neg (by rw [ne]; decide), ho]; simp))
  refine codeAny_call_builtin SF.slot.plain SF.entry (@check_slot (model prog w) _ _ s "object.__setattr__" "object" "__setattr__" (.ref x) [.str name tk, v] [] _ SF.kind SF.split sub (SF.args (.ref x) (.str name tk) v) ?_)
  obtain ⟨attr, ha, hr⟩ := Option.bind_eq_some_iff.mp F.taker
  have hm : Looks (model prog w) s.heap (mroOf (.ref C)) cd.mro := (looks_clsIn X hc).andThen .now
  have L3 : Looks (model prog w) s.heap (storeTaker? attr) none := by
    cases attr with
    | none => exact .now
    | some a =>
      obtain ⟨b, hb, hr⟩ := Option.map_eq_some_iff.mp hr
      refine (looks_takesIn X hb).andThen ?_
      cases b
      · exact .now
      · cases hr
  rw [osa_eq, refuse_eq]
  refine wpAny_bind (wpAny_bind (I.type.here (wpAny_bind (hm.here ?_))))
  rw [ho, refuse_exc]
  refine wpAny_pure (wpAny_bind (I.type.here (wpAny_bind ((looks_findIn X ha).here (wpAny_bind (L3.here ?_))))))
  exact h _
/-- the first field: the dict is made -/
theorem osa_exc_new {ox : Obj} {name : Str} {tk : Tok} {v : Value} {vs : Array Value} (X : K.In s.heap) (hx : s.heap.get? x = some ox) (hc : ox.cls = .ref C) (hd0 : ox.dict = none) (hdt : ox.data = .fields vs) (F : ExcSet K C name)
    (h : ∀ h' d, s.heap.get? d = none → d ≠ x → h'.get? d = some (dictOf [⟨PyData.keyHash w.params name, .str name s.toks, v⟩] 1) → h'.get? x = some { ox with dict := some d } → (∀ b o, b ≠ x → s.heap.get? b = some o → h'.get? b = some o) → R (.ok (.ret .none)) { s with heap := h', toks := s.toks + 1 }) :
    codeAny (model prog w) A (.call (.builtin "object.__setattr__") ⟨[.ref x, .str name tk, v], []⟩) R s := by
  obtain ⟨hh, g, dr, t, os⟩ := s
  obtain ⟨oc, od, oda, osl⟩ := ox
  dsimp only at hc hd0 hdt hx
  subst hc hd0 hdt
  have I : InstAt hh x { cls := .ref C, dict := none, data := .fields vs, slots := osl } C none := ⟨hx, rfl, rfl, trivial⟩
  refine osa_open_exc (ox := { cls := .ref C, dict := none, data := .fields vs, slots := osl }) (od := none) X I F fun b => ?_
  obtain ⟨cd, hcl, hm, hd'⟩ := F.cls
  refine wpAny_bind (wpAny_pure (wpAny_bind ?_))
  refine wpAny_bind (wpAny_loadPart hx (wpAny_bind ((looks_clsIn X hcl).here ?_)))
  rw [hd']
  dsimp only
  rw [if_neg (by decide), if_neg (by simp [typeHasDict])]
  have hne : hh.objs.size ≠ x := Nat.ne_of_gt (Heap.lt_size hx)
  have hx1 : (hh.push emptyDict).get? x = some { cls := .ref C, dict := none, data := .fields vs, slots := osl } := Heap.get?_push_of_some _ hx
  refine wpAny_bind (wpAny_alloc (wpAny_bind (wpAny_update hx1 ?_)))
  refine wpAny_pure (a := some hh.objs.size) (wpAny_bind ?_)
  have hx2 : ((hh.push emptyDict).update x fun o => { o with dict := some hh.objs.size }).get? x = some { cls := .ref C, dict := some hh.objs.size, data := .fields vs, slots := osl } := Heap.get?_update_self _ hx1 rfl
  have D : ((hh.push emptyDict).update x fun o => { o with dict := some hh.objs.size }).get? hh.objs.size = some emptyDict := (Heap.get?_update_other _ _ (Ne.symm hne)).trans (Heap.get?_push_size _ rfl)
  refine wpAny_pure (wpAny_bind ?_)
  unfold nsSet
  refine wpAny_bind (wpAny_bind (wpAny_askSetting (wpAny_pure (wpAny_bind (wpAny_mkText (wpAny_bind (wpAny_loadPart D ?_)))))))
  have c : (!(#[] : Array DictEntry).any (·.key.isStr name) && (#[] : Array DictEntry).any (·.refKey)) = false := by simp
  dsimp only [emptyDict]
  rw [aRefKeyMayBeTheName_at, c]
  refine wpAny_updatePart D ?_
  have e : Obj.putName name (PyData.keyHash w.params name) (.str name t) v emptyDict = dictOf [⟨PyData.keyHash w.params name, .str name t, v⟩] 1 := putName_dict _ _ _ _ [] 0
  have D' : ((((hh.push emptyDict).update x fun o => { o with dict := some hh.objs.size })).update hh.objs.size (Obj.putName name (PyData.keyHash w.params name) (.str name t) v)).get? hh.objs.size = some (dictOf [⟨PyData.keyHash w.params name, .str name t, v⟩] 1) := by
    rw [Heap.get?_update_self _ D (by rw [e]; rfl), e]
  refine wpAny_bind (wpAny_lookBehind D' (pastItsLine_dict (by rw [sizeLine_eq]; simp)) ?_)
  refine wpAny_pure (h _ hh.objs.size (Heap.get?_none_of_le (Nat.le_refl _)) hne D' ?_ ?_)
  · exact (Heap.get?_update_other _ _ hne).trans hx2
  · intro b o hb ho
    have hb2 : b ≠ hh.objs.size := Nat.ne_of_lt (Heap.lt_size ho)
    exact (Heap.get?_update_other _ _ (Ne.symm hb2)).trans ((Heap.get?_update_other _ _ (Ne.symm hb)).trans (Heap.get?_push_of_some _ ho))
theorem osa_exc_dict {ox : Obj} {name : Str} {tk : Tok} {v : Value} {vs : Array Value} {dx : Addr} {es : List DictEntry} {n : Nat} (X : K.In s.heap) (hx : s.heap.get? x = some ox) (hc : ox.cls = .ref C) (hd0 : ox.dict = some dx) (hdt : ox.data = .fields vs)
    (hdx : s.heap.get? dx = some (dictOf es n)) (F : ExcSet K C name) (hl : (getL name es).isSome = true) (hz : (putL name (PyData.keyHash w.params name) (.str name s.toks) v es).length ≤ 1000)
    (h : ∀ h', h'.get? dx = some (dictOf (putL name (PyData.keyHash w.params name) (.str name s.toks) v es) (putN name es n)) → Heap.SameBut dx s.heap h' → R (.ok (.ret .none)) { s with heap := h', toks := s.toks + 1 }) :
    codeAny (model prog w) A (.call (.builtin "object.__setattr__") ⟨[.ref x, .str name tk, v], []⟩) R s := by
  obtain ⟨hh, g, dr, t, os⟩ := s
  obtain ⟨oc, od, oda, osl⟩ := ox
  dsimp only at hc hd0 hdt hx hdx
  subst hc hd0 hdt
  have I : InstAt hh x { cls := .ref C, dict := some dx, data := .fields vs, slots := osl } C (some (dictOf es n)) := ⟨hx, rfl, rfl, hdx⟩
  refine osa_open_exc (ox := { cls := .ref C, dict := some dx, data := .fields vs, slots := osl }) (od := some (dictOf es n)) X I F fun b => ?_
  obtain ⟨cd, hcl, hm, hd'⟩ := F.cls
  refine wpAny_bind (wpAny_pure (wpAny_bind ?_))
  refine wpAny_bind (wpAny_loadPart hx (wpAny_bind ((looks_clsIn X hcl).here ?_)))
  rw [hd']
  dsimp only
  rw [if_neg (by decide)]
  refine wpAny_pure (a := some dx) (wpAny_bind ?_)
  refine wpAny_pure (wpAny_bind ?_)
  unfold nsSet
  refine wpAny_bind (wpAny_bind (wpAny_askSetting (wpAny_pure (wpAny_bind (wpAny_mkText (wpAny_bind (wpAny_loadPart hdx ?_)))))))
  have e : Obj.putName name (PyData.keyHash w.params name) (.str name t) v (dictOf es n) = dictOf (putL name (PyData.keyHash w.params name) (.str name t) v es) (putN name es n) := putName_dict _ _ _ _ es n
  have D' : (hh.update dx (Obj.putName name (PyData.keyHash w.params name) (.str name t) v)).get? dx = some (dictOf (putL name (PyData.keyHash w.params name) (.str name t) v es) (putN name es n)) := by
    rw [Heap.get?_update_self _ hdx (by rw [e]; rfl), e]
  have c : (!es.toArray.any (·.key.isStr name) && es.toArray.any (·.refKey)) = false := by
    rw [← Array.any_toList, ← Array.any_toList]
    unfold getL at hl
    split at hl
    · rename_i en he
      rw [List.any_eq_true.mpr ⟨en, List.mem_of_find?_eq_some he, List.find?_some he⟩]; rfl
    · split at hl
      · cases hl
      · rename_i z; rw [Bool.not_eq_true] at z; rw [z, Bool.and_false]
  dsimp only [dictOf]
  rw [aRefKeyMayBeTheName_at, c]
  refine wpAny_updatePart hdx ?_
  refine wpAny_bind (wpAny_lookBehind D' (pastItsLine_dict (by rw [List.size_toArray, sizeLine_eq]; dsimp only at hz; lia)) ?_)
  exact wpAny_pure (h _ D' (Heap.SameBut.update ..))
theorem set_exc {name : Str} {v : Value} {ox : Obj} {od : Option Obj} {Q : Unit → Shared → Prop} (X : K.In s.heap) (I : InstAt s.heap x ox C od) (F : ExcSet K C name)
    (h : codeAny (model prog w) A (.call (.builtin "object.__setattr__") ⟨[.ref x, .str name s.toks, v], []⟩) (fun r s' => match r with | .ok (.ret _) => Q () s' | .ok _ => False | .error e => E e s') { s with toks := s.toks + 1 }) :
    wpAny (model prog w) A (setAttr (.ref x) name v) Q E s := set_plain X I F.set h
end
end TX2
section TX3
noncomputable def Kept (C : View) (h' : Heap) : Prop := ∀ b o, C b o → (∀ vs, o.data ≠ .fields vs) → ∃ sl, h'.get? b = some { o with slots := sl }
theorem Kept.up {C : View} {h h' : Heap} (k : Kept C h) (u : h.UpToSlots h') : Kept C h' := fun b o hb hn =>
  let ⟨_, e⟩ := k b o hb hn; let ⟨sl, e2⟩ := u b _ e hn; ⟨sl, e2⟩
theorem Kept.sub {C C' : View} {h : Heap} (k : Kept C h) (s : C'.le C) : Kept C' h := fun b o hb hn => k b o (s b o hb) hn
theorem Kept.of_keeps {C : View} {h : Heap} (k : ∀ b o, C b o → h.get? b = some o) : Kept C h := fun b o hb _ => ⟨o.slots, k b o hb⟩
noncomputable def FrOk (B : Heap) (C : View) : List Env → Prop
  | [] => True
  | env :: r => env.scope.kind ≠ .module ∧ (Ex2 fun L o => And4 (env.frame = some L) (B.get? L = none) (C L o) (∀ vs, o.data ≠ .fields vs)) ∧ FrOk B C r
theorem FrOk.mono {B : Heap} {C C' : View} (k : C.le C') : ∀ {l : List Env}, FrOk B C l → FrOk B C' l
  | [], _ => trivial
  | _ :: _, ⟨a, ⟨L, o, b, d, e, f⟩, r⟩ => ⟨a, ⟨L, o, b, d, k _ _ e, f⟩, r.mono k⟩
/-- what an exception meets below -/
structure ErrOk (B : Heap) (P C : View) (L : Addr) (A : Around) (env : Env) (outer : List Env) : Prop where
  base : ∀ b o, B.get? b = some o → P b o ∨ C b o
  frames : A.frames = some (env :: outer)
  fr : env.frame = some L
  kind : env.scope.kind ≠ .module
  offL : B.get? L = none
  out : FrOk B C outer
theorem ErrOk.mono {B : Heap} {P P' C C' : View} {L : Addr} {A : Around} {env : Env} {outer : List Env} (h : ErrOk B P C L A env outer) (k : P.le P') (k2 : C.le C') : ErrOk B P' C' L A env outer :=
  ⟨fun b o hb => (h.base b o hb).imp (k b o) (k2 b o), h.frames, h.fr, h.kind, h.offL, h.out.mono k2⟩
section
variable {c : Cx} {P P' C : View} {L f : Addr} {m : Loc} {mu rho : Led} {s s' : Shared} {A : Around} {B : Heap} {env : Env} {outer l : List Env} {e : Addr}
theorem St.stays_base (S : St c P C L m mu s) (E : ErrOk B P C L A env outer) : B.StaysIn s.heap := fun b o hb => (E.base b o hb).elim (S.keep b o) (S.kep b o)
theorem FrOk.funFrames {h : Heap} {C : View} (k : ∀ b o, C b o → h.get? b = some o) : ∀ {l : List Env}, FrOk B C l → h.FunFrames B l
  | [], _ => trivial
  | _ :: _, ⟨a, ⟨L, o, b, d, e, f⟩, r⟩ => ⟨a, ⟨L, o, b, d, k _ _ e, f⟩, r.funFrames k⟩
theorem St.funFrames (S : St c P C L m mu s) (E : ErrOk B P C L A env outer) : s.heap.FunFrames B (env :: outer) := by
  obtain ⟨o, es, ep, ho, hd, _⟩ := S.ns
  exact ⟨E.kind, ⟨L, o, E.fr, E.offL, ho, fun vs q => by rw [hd] at q; cases q⟩, E.out.funFrames S.kep⟩

structure RestOk (c : Cx) (s : Shared) : Prop where
  r : s.gens = c.r.gens ∧ s.drawn = c.r.drawn ∧ s.os = c.r.os
/-- thrown out of a call: the frames l are still to be left -/
structure Thrown (c : Cx) (B : Heap) (l : List Env) (C : View) (e : Addr) (s : Shared) : Prop where
  rest : s.gens = c.r.gens ∧ s.drawn = c.r.drawn ∧ s.os = c.r.os
  fl : ∃ t, Heap.FlyingW B l e (.ref 223) (.ref t) s.heap
  kept : Kept C s.heap
/-- thrown within the frame L -/
structure Thrown2 (c : Cx) (B : Heap) (l : List Env) (C : View) (L : Addr) (e : Addr) (s : Shared) : Prop where
  rest : s.gens = c.r.gens ∧ s.drawn = c.r.drawn ∧ s.os = c.r.os
  kept : Kept C s.heap
  how : (∃ t, Heap.FlyingW B l e (.ref 223) (.ref t) s.heap) ∨ (∃ t, Heap.HeldW B l e (.ref 223) (.ref t) L s.heap) ∨
    (s.heap.FunFrames B l ∧ B.StaysIn s.heap ∧ B.get? e = none ∧ Ex3 fun oe vs t => And5 (s.heap.get? e = some oe) (oe.cls = .ref 223) (oe.data = .fields vs) (vs[1]? = some .none) (vs[0]? = some (.ref t)))
theorem Thrown.two {C' : View} (h : Thrown c B l C' e s) (k : C.le C') : Thrown2 c B l C L e s := ⟨h.rest, h.kept.sub k, .inl h.fl⟩
theorem under_le : C.le (under C L rho s) := fun b o h => .inl h
theorem leaves_held {M : Model} {E : Value → Shared → Prop} {a0 cls : Value} {Q : Unit → Shared → Prop} (hf : env.frame = some L)
    (hh : Heap.HeldW B (env :: outer) e cls a0 L s.heap) (hQ : ∀ h', Heap.FlyingW B outer e cls a0 h' → s.heap.UpToSlots h' → Q () { s with heap := h' }) : wpAny M A (leaving env (.ref e)) Q E s := by
  unfold leaving
  refine wpAny_bind (wpAny_noteFrame_againW hf hh.2.2.2 ?_)
  refine wpAny_landsW hh fun h' hfl hu => ?_
  obtain ⟨k1, k2, ⟨_, _, k3⟩, k4⟩ := hfl
  exact hQ h' ⟨k1, k2, k3, k4⟩ hu
/-- the frame is left -/
theorem leave_any {M : Model} {E : Value → Shared → Prop} {Q : Unit → Shared → Prop} (hfr : A.frames = some (env :: outer)) (hf : env.frame = some L) (h : Thrown2 c B (env :: outer) C L e s) (hQ : ∀ s', Thrown c B outer C e s' → Q () s') :
    wpAny M A (leaving env (.ref e)) Q E s := by
  obtain ⟨rest, kept, ⟨t, hfl⟩ | ⟨t, hh⟩ | ⟨hff, hst, hen, oe, vs, t, he, hc, hd, h1, h0⟩⟩ := h
  · exact wpAny_leaves_onW hfr hf hfl fun h' x1 x2 => hQ _ ⟨rest, ⟨t, x1⟩, kept.up x2⟩
  · exact leaves_held hf hh fun h' x1 x2 => hQ _ ⟨rest, ⟨t, x1⟩, kept.up x2⟩
  · refine wpAny_leaving_firstW hfr hff hf he hst hen hd h1 h0 fun h' hL => ?_
    obtain ⟨k1, ⟨_, _, k2⟩, k3, k4⟩ := hL
    rw [hc] at k3
    exact hQ _ ⟨rest, ⟨t, k1, hen, k2, k3⟩, kept.up k4⟩
/-- a loop notes the frame -/
theorem noted_any {M : Model} {E : Value → Shared → Prop} (hfr : A.frames = some (env :: outer)) (hf : env.frame = some L) (h : Thrown c B (env :: outer) C e s) (hE : ∀ s', Thrown2 c B (env :: outer) C L e s' → E (.ref e) s') :
    notedBy M A env E (.ref e) s := by
  obtain ⟨rest, ⟨t, hfl⟩, kept⟩ := h
  exact wpAny_looks_onW hfr hf hfl fun h' x1 x2 => hE _ ⟨rest, kept.up x2, .inr (.inl ⟨t, x1⟩)⟩
theorem setFlight_again {M : Model} {E : Value → Shared → Prop} {base : Heap} {cls a0 fl : Value} {Q : Unit → Shared → Prop} (hkb : base.StaysIn s.heap) (hen : base.get? e = none) (hl : s.heap.FunFrames base l) (ht : s.heap.TracedAtW base e cls a0 fl)
    (h : ∀ h', Heap.HeldW base l e cls a0 L h' → s.heap.UpToSlots h' → Q () { s with heap := h' }) : wpAny M A (setFlight (.ref e) (some L)) Q E s := by
  obtain ⟨oe, vs, T, oT, ts, he, hcls, hd, h1, hnT, hTe, hT, hdT, h3⟩ := ht
  have hsz3 : 3 < ts.size := (Array.getElem?_eq_some_iff.mp h3).1
  have other : ∀ b, b ≠ T → (s.heap.update T (Obj.mapFields (·.setIfInBounds 3 ((some L).elim Value.none fun f => rawInt f)))).get? b = s.heap.get? b :=
    fun b hb => Heap.get?_update_other _ _ (Ne.symm hb)
  have noRecord : ∀ b o, s.heap.get? b = some o → (∀ vs, o.data ≠ .fields vs) → b ≠ T := fun b o hb hnf q => by
    rw [q, hT] at hb; injection hb with hb; subst hb; exact hnf ts hdT
  unfold setFlight
  refine wpAny_bind (wpAny_field he hd h1 ?_)
  rw [if_pos (show (Value.ref T != Value.none) = true from by simp)]
  refine wpAny_setField hT hdT hsz3 (h _ ⟨fun b o hbo => (other b fun q => by rw [q, hnT] at hbo; cases hbo).trans (hkb b o hbo), hen,
    hl.of_keeps fun b o hb hnf => ⟨o, (other b (noRecord b o hb hnf)).trans hb, rfl⟩, ?_⟩ fun b o hb hnf => ⟨o.slots, (other b (noRecord b o hb hnf)).trans hb⟩)
  exact ⟨oe, vs, T, _, _, (other e (Ne.symm hTe)).trans he, hcls, hd, h1, hnT, hTe, Heap.get?_update_self _ hT (Obj.isFreed_of_fields (Obj.data_mapFields hdT _)), Obj.data_mapFields hdT _, by simp [hsz3]⟩
/-- and comes back into the frame -/
theorem back_any {M : Model} {E : Value → Shared → Prop} (hf : env.frame = some L) (h : Thrown2 c B (env :: outer) C L e s) (hh : ∃ t, Heap.HeldW B (env :: outer) e (.ref 223) (.ref t) L s.heap) (hE : ∀ s', Thrown2 c B (env :: outer) C L e s' → E (.ref e) s') :
    cameBackBy M A env E (.ref e) s := by
  obtain ⟨t, f1, f2, f3, f4⟩ := hh
  obtain ⟨oe, vs, T, oT, ts, he, hcls, hd, h1, hnT, hTe, hT, hdT, h3⟩ := id f4
  unfold cameBackBy
  refine wpAny_bind (wpAny_field he hd h1 ?_)
  rw [if_neg (show ¬ ((Value.ref T == Value.none) = true) from by simp)]
  rw [hf]
  refine setFlight_again f1 f2 f3 f4 fun h' x1 x2 => hE _ ⟨h.rest, h.kept.up x2, .inr (.inl ⟨t, x1⟩)⟩
/-- out of a loop's turn -/
theorem loop_err {M : Model} {E : Value → Shared → Prop} (hfr : A.frames = some (env :: outer)) (hf : env.frame = some L) (h : Thrown c B (env :: outer) C e s) (hE : ∀ s', Thrown2 c B (env :: outer) C L e s' → E (.ref e) s') :
    notedBy M A env (fun x s' => cameBackBy M A env E x s') (.ref e) s := by
  obtain ⟨rest, ⟨t, hfl⟩, kept⟩ := h
  exact wpAny_looks_onW hfr hf hfl fun h' x1 x2 => back_any hf ⟨rest, kept.up x2, .inr (.inl ⟨t, x1⟩)⟩ ⟨t, x1⟩ hE
theorem Thrown.sub {C' : View} (h : Thrown c B l C' e s) (k : C.le C') : Thrown c B l C e s := ⟨h.rest, h.fl, h.kept.sub k⟩
end

/-- the contract of a def that may raise -/
noncomputable def CallsX (c : Cx) (n : Nat) (f : Addr) (args : List Value) (P : View) (mu : Led) (Post : View → Led → Value → Prop) (fail : Prop) : Prop :=
  ∀ {A C L m rho s R B env outer}, St c P C L m (mu ++ rho) s → Room A n → ErrOk B P C L A env outer → (∀ v s' P' mu', P.le P' → St c P' C L m (mu' ++ rho) s' → Post P' mu' v → R (.ok (.ret v)) s') →
    (∀ e s', fail → Thrown c B (env :: outer) (under C L rho s) e s' → R (.error (.ref e)) s') → codeAny c.M A (.call (.ref f) ⟨args, []⟩) R s
section
variable {c : Cx} {P C : View} {L f : Addr} {m : Loc} {mu rho : Led} {s : Shared} {A : Around} {args : List Value} {n : Nat} {Post : View → Led → Value → Prop} {fail : Prop} {B : Heap} {env : Env} {outer : List Env}
theorem ccx {Q E : Value → Shared → Prop} (h : CallsX c n f args P mu Post fail) (S : St c P C L m (mu ++ rho) s) (hA : Room A n) (hE : ErrOk B P C L A env outer)
    (k : ∀ v s' P' mu', P.le P' → St c P' C L m (mu' ++ rho) s' → Post P' mu' v → Q v s') (ke : ∀ e s', fail → Thrown c B (env :: outer) (under C L rho s) e s' → E (.ref e) s') : wpAny c.M A (call (.ref f) args) Q E s :=
  wpAny_call (h S hA hE k ke)
theorem ccxn {Q E : Value → Shared → Prop} (h : CallsX c n f args P mu Post fail) (S : St c P C L m mu s) (hA : Room A n) (hE : ErrOk B P C L A env outer)
    (k : ∀ v s' P' mu', P.le P' → St c P' C L m mu' s' → Post P' mu' v → Q v s') (ke : ∀ e s', fail → Thrown c B (env :: outer) (under C L [] s) e s' → E (.ref e) s') : wpAny c.M A (call (.ref f) args) Q E s :=
  ccx (rho := []) h (by rw [List.append_nil]; exact S) hA hE (fun v s' P' mu' hP S' hp => k v s' P' mu' hP (by rw [List.append_nil] at S'; exact S') hp) ke
theorem introX {F : Fn} (hf : FnIs c.K f F) (binds : List (Str × Value)) (hb : ∀ s a b e f g h i, BindsTo s (F.data a b e f g h i) ⟨args, []⟩ binds)
    (hloc : ∀ y ∈ binds, F.scope.names.lookup y.1 = some .local) (hcell : ∀ x ∈ F.scope.names, x.2 ≠ .cell)
    (body : ∀ env A' L' C' s₁ Qb Eb outer Bs, EnvOk env F.scope L' [] → Room A' n → St c P C' L' (binds0 noLoc binds) mu s₁ → ErrOk Bs P C' L' A' env outer → Back c P C' L' Post Qb →
      (∀ e s', fail → Thrown2 c Bs (env :: outer) C' L' e s' → Eb (.ref e) s') → wpAny c.M A' (execs F.body env) Qb Eb s₁) :
    CallsX c (n + 1) f args P mu Post fail := by
  intro A C L m rho s R B env outer S hA hE k ke
  obtain ⟨n1, n2, n3, n4, n5, n6, n7, oc, od, osl, h, hcode⟩ := hf.at_
  refine codeAny_call_def (fd := F.data n1 n2 n3 n4 n5 n6 n7) (body := F.body) (binds := binds) hA.here (S.K _ _ h) rfl S.nolimit (codeRec_of S.K hcode) rfl (hb _ _ _ _ _ _ _ _) hcell hloc (fun h₁ hns hk₁ => ?_) hf.co hf.gen hf.kind
  rw [binds_start] at hns
  have S₁ := S.enter (tk := s.toks + binds.length) (Heap.get?_none_of_le (Nat.le_refl _)) hns hk₁
  have hfr := Around.frames_deeper (env := callEnv (F.data n1 n2 n3 n4 n5 n6 n7) s.heap.objs.size f) hE.frames
  have hBL : B.get? s.heap.objs.size = none := by
    cases q : B.get? s.heap.objs.size with
    | none => rfl
    | some o => exact absurd (Heap.lt_size (S.stays_base hE _ _ q)) (Nat.lt_irrefl _)
  have hE' : ErrOk B P (under C L rho s) s.heap.objs.size (A.deeper (callEnv (F.data n1 n2 n3 n4 n5 n6 n7) s.heap.objs.size f)) (callEnv (F.data n1 n2 n3 n4 n5 n6 n7) s.heap.objs.size f) (env :: outer) := by
    refine ⟨fun b o hb => (hE.base b o hb).imp id .inl, hfr, rfl, ?_, hBL, hE.kind, ?_, hE.out.mono under_le⟩
    · show F.scope.kind ≠ .module
      rw [hf.kind]
      intro q; cases q
    · obtain ⟨o, es, ep, ho, hd, _⟩ := S.ns
      exact ⟨L, o, hE.fr, hE.offL, .inr ⟨.inl rfl, ho⟩, fun vs q => by rw [hd] at q; cases q⟩
  refine body _ _ _ _ _ _ _ (env :: outer) B ⟨rfl, hf.kind, rfl, rfl, rfl, rfl⟩ (hA.deeper _) S₁ hE' ⟨fun {v s' P' m' mu'} hP S' hp => ?_, fun {s' P' m' mu'} hP S' hp => ?_⟩ (fun e s' hfail ht => ?_)
  · exact k _ _ _ _ hP (S.leave (junk := []) (by rw [List.append_nil]; exact S') hP) hp
  · exact k _ _ _ _ hP (S.leave (junk := []) (by rw [List.append_nil]; exact S') hP) hp
  · exact leave_any hfr rfl ht fun s'' ht' => ke e s'' hfail ht'
end
end TX3
section TL1
/-! a name that a comprehension captures and the def stores -/
noncomputable def CelO (v : Option Value) (o : Obj) : Prop := o.data = .cell v
noncomputable def AnyCel (o : Obj) : Prop := ∃ v, o.data = .cell v
section
variable {c : Cx} {P C : View} {L a : Addr} {m : Loc} {mu : Led} {s : Shared} {A : Around} {env : Env} {sc : PySem.Scope} {cl : List (Str × Addr)} {x : Str} {v : Value} {E : Value → Shared → Prop} {pos : Pos}
theorem stoC {Q : Unit → Shared → Prop} (S : St c P C L m ((a, AnyCel) :: mu) s) (hE : EnvOk env sc L cl) (hk : sc.names.lookup x = some .cell) (hc : cl.lookup x = some a) (h : ∀ s', St c P C L m ((a, CelO (some v)) :: mu) s' → Q () s') :
    wpAny c.M A (storeName env x v) Q E s := by
  obtain ⟨o, ho, v0, q⟩ := S.mus _ (.head _)
  exact wpAny_storeName_cell (by rw [hE.scope]; exact hE.kind) (hE.kindOf hk) (by rw [hE.cells]; exact hc) ⟨o, ho, q⟩ fun h' ⟨o', ho', q'⟩ hs => h _ (S.turn (tk := s.toks) hs ho' q')
theorem xAssignC {value : PySem.Expr} {p pos : Pos} {Q : Flow → Shared → Prop} (hE : EnvOk env sc L cl) (hk : sc.names.lookup x = some .cell) (hc : cl.lookup x = some a)
    (h : wpAny c.M A (eval value env) (fun v s₁ => Ex4 fun P C m mu => St c P C L m ((a, AnyCel) :: mu) s₁ ∧ ∀ s', St c P C L m ((a, CelO (some v)) :: mu) s' → Q .next s') E s)
    (hs : swapsWith value (some (.Name x p)) pos.line env = pure false := by rfl) : wpAny c.M A (exec (.Assign [.Name x p] value pos) env) Q E s :=
  wpAny_Assign_Name (wpAny_mono h (fun v s₁ ⟨_, _, _, _, S, k⟩ => stoC S hE hk hc k) fun _ _ e => e) hs
theorem nm_cellC {o : Obj} {Q : Value → Shared → Prop} (S : St c P C L m mu s) (hE : EnvOk env sc L cl) (hk : sc.names.lookup x = some .cell) (hc : cl.lookup x = some a) (ho : C a o) (hd' : o.data = .cell (some v)) (h : Q v s)
    (hd : (x == ("__debug__" : Str)) = false := by decide) : wpAny c.M A (eval (.Name x pos) env) Q E s :=
  wpAny_Name (wpAny_loadName_cell (by rw [hE.scope]; exact hE.kind) (hE.kindOf hk) (by rw [hE.cells]; exact hc) ⟨o, S.kep _ _ ho, hd'⟩ h) hd

/-! what is there stands for good -/
theorem St.all (S : St c P C L m mu s) : Ex1 fun P' => And3 (P.le P') (St c P' C L m mu s) (∀ b o, s.heap.get? b = some o → b ≠ L → (∀ p ∈ mu, p.1 ≠ b) → P' b o ∨ C b o) := by
  refine ⟨fun b o => s.heap.get? b = some o ∧ b ≠ L ∧ (∀ p ∈ mu, p.1 ≠ b) ∧ ∀ x, ¬ C b x, fun b o h => ⟨S.keep b o h, fun e => S.offL o (e ▸ h), fun p hp e => S.offmu p hp o (e ▸ h), fun x hx => (S.offC b x hx).1 o h⟩, ?_, fun b o h1 h2 h3 => ?_⟩
  · exact ⟨S.ns, fun b o h => h.1, S.kep, fun b o h => ⟨S.stays b o h, fun e => S.offL o (S.base b o h |> fun k => e ▸ k), fun p hp e => S.offmu p hp o (e ▸ S.base b o h), fun x hx => (S.offC b x hx).1 o (S.base b o h)⟩, S.mus,
      fun o h => h.2.1 rfl, fun p hp o h => h.2.2.1 p hp rfl, fun b o h => ⟨fun x k => k.2.2.2 o h, (S.offC b o h).2⟩, S.muL, S.nodup, S.rest⟩
  · by_cases h : ∃ x, C b x
    · obtain ⟨x, hx⟩ := h
      have := S.kep b x hx
      rw [h1] at this; cases this
      exact .inr hx
    · exact .inl ⟨h1, h2, h3, fun x hx => h ⟨x, hx⟩⟩
end

/-! an own exception is caught -/
section
variable {c : Cx} {P C : View} {L a : Addr} {m : Loc} {mu rho : Led} {s s' s₀ : Shared} {A : Around} {env : Env} {sc : PySem.Scope} {cl : List (Str × Addr)} {x : Str} {v : Value} {E : Value → Shared → Prop} {pos np : Pos} {e : Addr} {B : Heap} {l outer : List Env}
theorem NsUp {h h' : Heap} (k : ∀ o, h.get? L = some o → (∀ vs, o.data ≠ .fields vs) → ∃ sl, h'.get? L = some { o with slots := sl }) (n : h.Ns L m) : h'.Ns L m := by
  obtain ⟨o, es, ep, ho, hd, r⟩ := n
  obtain ⟨sl, e⟩ := k o ho fun vs q => by rw [hd] at q; cases q
  exact ⟨_, es, ep, e, hd, r⟩
/-- behind the throw: the frame as it was, what was set aside as it was -/
theorem St.caught (S : St c P C L m mu s₀) (hB : ∀ b o, s₀.heap.get? b = some o → (P b o ∨ C b o) → B.get? b = some o) (hst : B.StaysIn s.heap) (hk : Kept (under C L rho s₀) s.heap) (hr : s.gens = c.r.gens ∧ s.drawn = c.r.drawn ∧ s.os = c.r.os) : St c P C L m [] s := by
  refine ⟨NsUp (fun o ho hn => hk L o (.inr ⟨.inl rfl, ho⟩) hn) S.ns, fun b o h => hst _ _ (hB b o (S.keep b o h) (.inl h)), fun b o h => hst _ _ (hB b o (S.kep b o h) (.inr h)), S.base, fun p hp => (nomatch hp), S.offL, fun p hp => (nomatch hp),
    fun b o h => ⟨(S.offC b o h).1, (S.offC b o h).2.1, fun p hp => (nomatch hp)⟩, fun p hp => (nomatch hp), List.nodup_nil, hr⟩
/-- except C: .. -/
theorem caught_ {b₀ : Stmt} {suite : List Stmt} {rest : List ExceptHandler} {Q : Flow → Shared → Prop} (hfr : A.frames = some (env :: outer)) (hE : EnvOk env sc L cl) (hf : env.frame = some L) (hk : sc.names.lookup x = some .globalImplicit) (hg : GlobOk c.K x 223)
    (S : St c P C L m mu s₀) (hB : ∀ b o, s₀.heap.get? b = some o → (P b o ∨ C b o) → B.get? b = some o) (ht : Thrown c B (env :: outer) (under C L rho s₀) e s)
    (h : ∀ s', St c P C L m [] s' → wpAny c.M (A.mark (some (.ref e))) (execs (b₀ :: suite) env) Q (notedBy c.M (A.mark (some (.ref e))) env (cameBackBy c.M A env E)) s') (hd : (x == ("__debug__" : Str)) = false := by decide) :
    wpAny c.M A (noteFrame (.ref e) env) (fun _ s₂ => wpAny c.M A (setFlight (.ref e) none) (fun _ s₃ => wpAny c.M A (handleBy (.ref e) env (.ExceptHandler (some (.Name x np)) none (b₀ :: suite) pos :: rest)) Q E s₃) E s₂) E s := by
  obtain ⟨hr, ⟨t0, hfl⟩, kept⟩ := ht
  obtain ⟨nm, q, N, bs, hdct, sn, sub, ab, col, dd, k0, k1, k2, k3, k5, hC⟩ := c.fx.exc.cls
  refine wpAny_looks_onW hfr hf hfl fun h1 hheld u1 => ?_
  refine wpAny_landsW hheld fun h2 hfl2 u2 => ?_
  have k2' := (kept.up u1).up u2
  have S2 : St c P C L m [] { s with heap := h2 } := S.caught hB hfl2.1 k2' hr
  refine wpAny_handleBy_cons (codeAny_handlers_test (nm_glob S2 hE hk hg.at_ ?_ hd)) (by intro q; cases q)
  obtain ⟨oe, hoe, hoc⟩ := hfl2.there
  obtain ⟨sg, sd, so⟩ : True ∧ True ∧ True := ⟨trivial, trivial, trivial⟩
  obtain ⟨hh, g, d, tk, os⟩ := s
  refine wpAny_excMatches_sub_self (S2.K _ _ hC) hoe hoc (by decide +kernel) (codeAny_handlers_suite ?_)
  refine lands_againW hfl2 fun h3 hfl3 u3 => ?_
  exact h _ (S.caught hB hfl3.1 (k2'.up u3) hr)
end

/-! [elt for x in iter if test] -/
section
variable {c : Cx} {P C : View} {L it : Addr} {m : Loc} {mu : Led} {s : Shared} {A : Around} {env : Env} {sc scope : PySem.Scope} {cl cl' : List (Str × Addr)} {x : Str} {px pos : Pos} {elt iter test : PySem.Expr} {n : Nat} {φ : Nat → Obj → Prop} {val : Nat → Value → Prop}
  {RR : Value → Addr → Result → Shared → Prop} {E : Value → Shared → Prop}
theorem compBlockT (S : St c P C L m ((it, φ 0) :: mu) s) (hE : EnvOk env sc L cl) (hA : A.handled = none) (W : Steps c P it n φ val)
    (self : ∀ {P' C L m mu s A Q E}, P.le P' → St c P' C L m ((it, φ 0) :: mu) s → Q (.ref it) s → wpAny c.M A (pyIter (.ref it)) Q E s)
    (hz : n ≤ 9000) (hC : ∀ x, ¬ C it x) (hcell : ∀ y ∈ scope.names, y.2 ≠ .cell) (hkind : scope.kind = .function) (hx : scope.names.lookup x = some .local)
    (J : Nat → View → Led → List Value → Prop) (h0 : J 0 P mu [])
    (turn : ∀ {i v P' mu' ys s' Lc m' C' cenv} {N : Shared → Prop} {E Eb}, i < n → val i v → P.le P' → C.le C' → J i P' mu' ys → EnvOk cenv (relabelS scope sc) Lc cl' → m' x = some v → St c P' C' Lc m' mu' s' →
      (∀ {y P'' m'' mu'' s''}, P'.le P'' → J (i + 1) P'' mu'' (ys ++ [y]) → St c P'' C' Lc m'' mu'' s'' → E y s'') →
      (∀ {P'' m'' mu'' s''}, P'.le P'' → J (i + 1) P'' mu'' ys → St c P'' C' Lc m'' mu'' s'' → N s'') →
      wpAny c.M A (isTrue test cenv (eval test cenv)) (fun ok s3 => if ok = true then wpAny c.M A (eval elt cenv) E Eb s3 else N s3) Eb s')
    (k : ∀ {D Lc P' mu' ys s' m'}, P.le P' → J n P' mu' ys → ys.length ≤ n → St c P' C L m ((Lc, NsO m') :: (D, LstO ys) :: mu') s' → RR (.ref D) Lc (.ok .next) s') :
    wpAny c.M A (newList []) (fun acc s₃ => wpAny c.M A (newFunctionEnv scope env.globals cl' [] env.qual none .none (some env)) (fun cenv s₄ =>
      codeAny c.M A (.compStart (.ListComp elt [⟨.Name x px, iter, [test], 0⟩] scope pos) 0 (.ref it) acc { cenv with scope := relabel scope env }) (RR acc cenv.locals) s₄) E s₃) E s := by
  refine newLst S (fun D s3 hD S3 => ?_) (by simp)
  have S3' : St c P C L m ((it, φ 0) :: (D, LstO []) :: mu) s3 := S3.perm (List.Perm.swap ..)
  refine wpAny_newFunctionEnv hcell (by intro y hy; simp at hy) (fun h₁ hns₁ hsb₁ => ?_) hkind
  rw [binds_start] at hns₁
  have S4 := St.enter (rho := []) (tk := s3.toks + ([] : List (Str × Value)).length) (by rw [List.append_nil]; exact S3') (Heap.get?_none_of_le (Nat.le_refl _)) hns₁
    (fun b o e => hsb₁.extBut b o (Nat.ne_of_lt (Heap.lt_size e)) (Heap.get?_push_of_some _ e))
  have hEc : EnvOk { newEnv scope s3.heap.objs.size env.globals cl' env.qual none .none (some env) env.builtins with scope := relabel scope env } (relabel scope env) s3.heap.objs.size cl' :=
    ⟨rfl, hkind, rfl, hE.globals, hE.builtins, rfl⟩
  generalize hL : s3.heap.objs.size = Lc at *
  have hCit : ∀ x, ¬ under C L [] s3 it x := by
    rintro x (h | ⟨rfl | ⟨p, hp, _⟩, _⟩)
    · exact hC x h
    · exact S3'.muL (_, φ 0) (.head _) rfl
    · cases hp
  have loop : ∀ s4, St c P (under C L [] s3) Lc (binds0 noLoc []) ((it, φ 0) :: (D, LstO []) :: mu) s4 →
      codeAny c.M A (.compLoop (.ListComp elt [⟨.Name x px, iter, [test], 0⟩] scope pos) 0 (.ref it) (.ref D) { newEnv scope Lc env.globals cl' env.qual none .none (some env) env.builtins with scope := relabel scope env }) (RR (.ref D) Lc) s4 := by
    intro s4 S4
    refine codeAny_compLoop_tests (fun r s => Ex5 fun i P' m' mu' ys => And5 (i + r = n) (P.le P') (J i P' mu' ys) (ys.length ≤ i) (St c P' (under C L [] s3) Lc m' ((it, φ i) :: (D, LstO ys) :: mu') s)) ?_ n ⟨0, P, _, mu, [], by lia, View.le.refl _, h0, Nat.le_refl _, S4⟩
    rintro r s ⟨i, P', m', mu', ys, hi, hP, hJ, hlen, S⟩
    by_cases hn : i < n
    · refine W.item hP hA hn S fun v s' hv S' => ?_
      refine wpAny_assign_Name (sto S' hEc (lookup_relabel_local hx) fun s2 S2 => ?_)
      rw [List.forIn_cons, if_pos rfl]
      obtain ⟨o1, q1, S5⟩ := S2.hide
      obtain ⟨o2, q2, S6⟩ := S5.hide
      have hD1 : ∀ x, ¬ (under C L [] s3).add it o1 D x := fun x h => S5.muC x h
      refine wpAny_bind (wpAny_bind (wpAny_mono (turn hn hv hP (fun b o h => .inl (.inl (.inl h))) hJ (relabel_eq hE ▸ hEc) upd_same S6
        (E := fun y s6 => ∀ E', wpAny c.M A (call (.builtin "list.append") [.ref D, y]) (fun _ s7 => ∃ m, m < r ∧ Ex5 fun i P' m' mu' ys => And5 (i + m = n) (P.le P') (J i P' mu' ys) (ys.length ≤ i) (St c P' (under C L [] s3) Lc m' ((it, φ i) :: (D, LstO ys) :: mu') s7)) E' s6)
        (N := fun s6 => ∃ m, m < r ∧ Ex5 fun i P' m' mu' ys => And5 (i + m = n) (P.le P') (J i P' mu' ys) (ys.length ≤ i) (St c P' (under C L [] s3) Lc m' ((it, φ i) :: (D, LstO ys) :: mu') s6)) ?_ ?_) (fun ok s6 h => wpAny_pure ?_) fun _ _ e => e))
      rotate_left
      · intro P'' m'' mu'' s'' hP'' hJ'' S''
        exact ⟨r - 1, by omega, i + 1, P'', m'', mu'', ys, by lia, hP.trans hP'', hJ'', by lia, (S''.unhide q2 hD1).unhide q1 hCit⟩
      · dsimp only
        rw [List.forIn_nil]
        refine wpAny_pure ?_
        cases ok with
        | true => exact wpAny_mono h (fun _ _ h2 => h2 _) fun _ _ e => e
        | false => exact h
      · intro y P'' m'' mu'' s'' hP'' hJ'' S'' E'
        refine app (S''.unhide q2 hD1) (fun s5 S8 => ?_) (by lia)
        exact ⟨r - 1, by omega, i + 1, P'', m'', mu'', ys ++ [y], by lia, hP.trans hP'', hJ'', by simp; omega, S8.unhide q1 hCit⟩
    · have : i = n := by lia
      subst this
      refine W.done hP hA S fun s' S' => ?_
      exact k hP hJ hlen (St.back1 S3' S' hP)
  exact codeAny_compStart_list (loop _ S4) (self (View.le.refl _) S4 (loop _ S4))
/-- y = [elt for x in iter if test] -/
theorem compAT {y : Str} {py spos : Pos} (hsw : swapsWith (.ListComp elt [⟨.Name x px, iter, [test], 0⟩] scope pos) (some (.Name y py)) spos.line env = pure true)
    (hE : EnvOk env sc L cl) (hy : sc.names.lookup y = some .local) (hclos : closureFor scope env = pure cl') (hnames : ∀ y ∈ scope.names, y.2 = .local → scope.names.lookup y.1 = some .local) (hcell : ∀ y ∈ scope.names, y.2 ≠ .cell) (hkind : scope.kind = .function)
    (hx : scope.names.lookup x = some .local) (hA : A.handled = none) {Q : Flow → Shared → Prop}
    (h : wpAny c.M A (eval iter env) (fun xv s₁ => wpAny c.M A (pyIter xv) (fun itv s₂ => Ex8 fun it P C m mu n φ val => Ex1 fun (J : Nat → View → Led → List Value → Prop) => And9 (itv = .ref it) (St c P C L m ((it, φ 0) :: mu) s₂) (Steps c P it n φ val) ((∀ {P' C L m mu s A Q E}, P.le P' → St c P' C L m ((it, φ 0) :: mu) s → Q (.ref it) s → wpAny c.M A (pyIter (.ref it)) Q E s)) (n ≤ 9000) ((∀ x, ¬ C it x)) (J 0 P mu []) ((∀ {i v P' mu' ys s' Lc m' C' cenv} {N : Shared → Prop} {E Eb}, i < n → val i v → P.le P' → C.le C' → J i P' mu' ys → EnvOk cenv (relabelS scope sc) Lc cl' → m' x = some v → St c P' C' Lc m' mu' s' →
        (∀ {y P'' m'' mu'' s''}, P'.le P'' → J (i + 1) P'' mu'' (ys ++ [y]) → St c P'' C' Lc m'' mu'' s'' → E y s'') →
        (∀ {P'' m'' mu'' s''}, P'.le P'' → J (i + 1) P'' mu'' ys → St c P'' C' Lc m'' mu'' s'' → N s'') →
        wpAny c.M A (isTrue test cenv (eval test cenv)) (fun ok s3 => if ok = true then wpAny c.M A (eval elt cenv) E Eb s3 else N s3) Eb s')) ((∀ {D P' mu' ys s'}, P.le P' → J n P' mu' ys → ys.length ≤ n → St c P' C L (upd m y (.ref D)) ((D, LstO ys) :: mu') s' → Q .next s'))) E s₁) E s)
    (hs : ∀ x, foldedSetIterable iter env x = pure x := by intro _; rfl) :
    wpAny c.M A (exec (.Assign [.Name y py] (.ListComp elt [⟨.Name x px, iter, [test], 0⟩] scope pos) spos) env) Q E s := by
  rw [exec_Assign_Name_used _ _ _ _ hsw]
  refine wpAny_bind (wpAny_standAt (wpAny_bind ?_))
  show wpAny _ A (do let _ ← comprehension (.ListComp elt [⟨.Name x px, iter, [test], 0⟩] scope pos) scope env _ (newList []) false (eval iter env) (some (assign (.Name y py) env))) _ _ s
  refine wpAny_bind (wpAny_mono (wpAny_comprehension_free (use := some (assign (.Name y py) env)) (Q := fun _ s' => Q .next s') rfl hs hclos hkind hnames
    (wpAny_mono h (fun xv s₁ h₁ => wpAny_mono h₁ (fun itv s₂ h₂ => ?_) fun _ _ e => e) fun _ _ e => e)) (fun _ s' hq => wpAny_pure (wpAny_pure hq)) fun _ _ e => e)
  obtain ⟨it, P, C, m, mu, n, φ, val, J, rfl, S, W, self, hz, hC, h0, turn, k⟩ := h₂
  refine compBlockT (RR := fun acc Lc => compPost c.M A E (some (assign (.Name y py) env)) (fun _ s' => Q .next s') acc Lc) S hE hA W self hz hC hcell hkind hx J h0 turn ?_
  intro D Lc P' mu' ys s' m' hP hJ hl S'
  show wpAny _ A (assign (.Name y py) env (.ref D)) _ _ _
  refine wpAny_assign_Name (sto S' hE hy fun s2 S2 => ?_)
  obtain ⟨o, ho, q⟩ := S2.mus _ (.head _)
  exact ⟨m', nsO_iff.mpr ⟨o, ho, q⟩, fun h' hs => k hP hJ hl (S2.sameDrop (tk := s2.toks) hs)⟩
end
/-! repr -/
theorem reprR {c : Cx} {P C : View} {L : Addr} {m : Loc} {mu : Led} {s : Shared} {A : Around} {E : Value → Shared → Prop} {Q : Value → Shared → Prop} {v : Value} {d : PyData} (S : St c P C L m mu s) (r : Rd P v d) (hv : (Ex2 fun i t => v = .int i t) ∨ ∃ a, v = .ref a) (hs : d.showable = true) (hnd : d.hasDict = false) (hg : A.guards = some []) (hu : A.units + (d.depth + 1) < cLine)
    (hsz : d.leavesShort 13 = true) (hb : d.bulk ≤ 2 ^ 20) (h : ∀ x u s', St c P C L m mu s' → Q (.str x u) s') : wpAny c.M A (call (.builtin "repr") [v]) Q E s := by
  rcases hv with ⟨i, t, rfl⟩ | ⟨a, rfl⟩
  · cases r
    simp only [PyData.showable, decide_eq_true_eq] at hs
    exact PySem.P.repr_of_int hs (h _ _ _ (S.toks _))
  · obtain ⟨_, r1⟩ := r.reads S.keep
    exact repr_of_reads' r1 hs (PyData.noDict_hsm hnd) hg hu (fun _ _ e => e) (fun h' u tk hk => h _ u _ (S.grow (tk := tk) hk)) (PyData.shown_fits_bulk (by decide) (by decide) hsz hb)
end TL1
section TG1
-- turned
noncomputable abbrev Tab := List (Str × Addr)
noncomputable def SymI (w : World) (P : View) (a : Addr) (n : Nat) (t : Str) : Prop := Ex2 fun k u => Inst w P a 62 [("number", .int n k), ("text", .str t u)]
theorem SymI.mono {w : World} {P P' : View} {a : Addr} {n : Nat} {t : Str} (h : SymI w P a n t) (k : P.le P') : SymI w P' a n t := let ⟨x, y, z⟩ := h; ⟨x, y, z.mono k⟩
mutual
/-- a value stands for a datum -/
inductive DV (w : World) (P : View) (T : Tab) : Value → Thing → Prop
  | int (i t) : DV w P T (.int i t) (.int i)
  | sym {a s n} : T[n]? = some (s, a) → SymI w P a n s → DV w P T (.ref a) (.sym s)
  | nil : DV w P T (.ref 44) .nil
  | vec {a l vs ts} : Inst w P a 167 [("things", .ref l)] → IsLst P l vs → DVs w P T vs ts → DV w P T (.ref a) (.vec ts)
  | pair {a x y tx ty} : Inst w P a 146 [("car", x), ("cdr", y)] → DV w P T x tx → DV w P T y ty → DV w P T (.ref a) (.pair tx ty)
inductive DVs (w : World) (P : View) (T : Tab) : List Value → List Thing → Prop
  | nil : DVs w P T [] []
  | cons {v vs t ts} : DV w P T v t → DVs w P T vs ts → DVs w P T (v :: vs) (t :: ts)
end
theorem DV.mono {w : World} {P P' : View} {T T' : Tab} (k : P.le P') (hT : T <+: T') {v : Value} {t : Thing} (h : DV w P T v t) : DV w P' T' v t :=
  DV.rec (motive_1 := fun v t _ => DV w P' T' v t) (motive_2 := fun v t _ => DVs w P' T' v t) .int (fun h a => .sym (by obtain ⟨r, rfl⟩ := hT; rw [List.getElem?_append_left (List.getElem?_eq_some_iff.mp h).1]; exact h) (a.mono k)) .nil
    (fun a b _ d => .vec (a.mono k) (b.mono k) d) (fun a _ _ b d => .pair (a.mono k) b d) .nil (fun _ _ a b => .cons a b) h
theorem DVs.ind {w : World} {P : View} {T : Tab} {motive : List Value → List Thing → Prop} (n : motive [] []) (k : ∀ {v vs t ts}, DV w P T v t → DVs w P T vs ts → motive vs ts → motive (v :: vs) (t :: ts)) {v : List Value} {t : List Thing} (r : DVs w P T v t) : motive v t :=
  DVs.rec (motive_1 := fun _ _ _ => True) (motive_2 := fun v t _ => motive v t) (fun _ _ => trivial) (fun _ _ => trivial) trivial (fun _ _ _ _ => trivial) (fun _ _ _ _ _ => trivial) n (fun a b _ e => k a b e) r
theorem DVs.mono {w : World} {P P' : View} {T T' : Tab} (k : P.le P') (hT : T <+: T') {v : List Value} {t : List Thing} (h : DVs w P T v t) : DVs w P' T' v t := DVs.ind (motive := fun v t => DVs w P' T' v t) .nil (fun a _ e => .cons (a.mono k hT) e) h
theorem DVs.length {w : World} {P : View} {T : Tab} {v : List Value} {t : List Thing} (h : DVs w P T v t) : v.length = t.length := DVs.ind (motive := fun v t => v.length = t.length) rfl (fun _ _ e => congrArg Nat.succ e) h
theorem DVs.get {w : World} {P : View} {T : Tab} {vs : List Value} {ts : List Thing} (h : DVs w P T vs ts) : ∀ {i : Nat} {v : Value}, vs[i]? = some v → Ex1 fun t => ts[i]? = some t ∧ DV w P T v t :=
  DVs.ind (motive := fun vs ts => ∀ {i : Nat} {v : Value}, vs[i]? = some v → Ex1 fun t => ts[i]? = some t ∧ DV w P T v t) (fun h => nomatch h) (fun {v vs d ds} a _ e {i w} h => by
    cases i with
    | zero => cases h; exact ⟨_, rfl, a⟩
    | succ i => exact e (i := i) h) h
theorem DVs.snoc {w : World} {P : View} {T : Tab} {vs : List Value} {ts : List Thing} {v : Value} {t : Thing} (h : DVs w P T vs ts) (r : DV w P T v t) : DVs w P T (vs ++ [v]) (ts ++ [t]) :=
  DVs.ind (motive := fun vs ts => DVs w P T (vs ++ [v]) (ts ++ [t])) (.cons r .nil) (fun a _ e => .cons a e) h
theorem DV.hi {w : World} {P : View} {T : Tab} {v : Value} {t : Thing} (h : DV w P T v t) : handedIn v = true := by cases h <;> rfl
theorem DV.shape {w : World} {P : View} {T : Tab} {v : Value} {t : Thing} (h : DV w P T v t) : (Ex2 fun i u => v = .int i u) ∨ ∃ a, v = .ref a := by
  cases h with
  | int i t => exact .inl ⟨_, _, rfl⟩
  | _ => exact .inr ⟨_, rfl⟩
/-- an instance, its fields unread -/
noncomputable def InstD (P : View) (x D : Addr) : Prop := Ex3 fun dx es n => P x (instObj D dx) ∧ P dx (dictOf es n)
theorem Inst.d {w : World} {P : View} {x D : Addr} {fs : Flds} (h : Inst w P x D fs) : InstD P x D := let ⟨dx, o, a, b, es, n, e, _⟩ := h; ⟨dx, es, n, a, e ▸ b⟩
theorem InstD.mono {P P' : View} {x D : Addr} (h : InstD P x D) (k : P.le P') : InstD P' x D := let ⟨dx, es, n, a, b⟩ := h; ⟨dx, es, n, k _ _ a, k _ _ b⟩
section
variable {c : Cx} {P C : View} {L x : Addr} {m : Loc} {mu : Led} {s : Shared} {A : Around} {E : Value → Shared → Prop} {Q : Value → Shared → Prop} {D C' : Addr}
theorem isiFD (S : St c P C L m mu s) (I : InstD P x D) (k : KinC c.K D) (e : kin_not c.K D C' = true) (h : Q (.bool false) (bump s)) : wpAny c.M A (call (.builtin "isinstance") [.ref x, .ref C']) Q E s := by
  obtain ⟨dx, es, n, h1, h2⟩ := I
  exact kin_callC S.K (instAt_of (S.keep _ _ h1) (S.keep _ _ h2)) e k.hg k.hd k.ha k.hn k.ht k.hm h
theorem St.empty (S : St c P C L m mu s) : InstD P 44 38 := by
  obtain ⟨es, n, h1, h2⟩ := c.fx.EMPTY
  exact ⟨43, es, n, S.P_of h1, S.P_of h2⟩
theorem isiEof {D' : Addr} (k : KinC c.K 38) (e : kin_not c.K 38 D' = true) : IsiF c P (.ref 44) (.ref D') := ⟨fun S h => isiFD S S.empty k e h⟩
/-- what a datum is not -/
theorem DV.notPair {T : Tab} {v : Value} {t : Thing} (h : DV c.w P T v t) (hn : ∀ a d, t ≠ .pair a d) : IsiF c P v (.ref 146) := by
  cases h with
  | int => exact isiIof c.fx.n_int_Pair
  | sym _ hI => obtain ⟨k, u, I⟩ := hI; exact isiFof I c.fx.kc_Symbol c.fx.no_Symbol_Pair
  | nil => exact isiEof c.fx.kc_SpecialD c.fx.no_SpecialD_Pair
  | vec I => exact isiFof I c.fx.kc_Vector c.fx.no_Vector_Pair
  | pair => exact (hn _ _ rfl).elim
theorem DV.notVec {T : Tab} {v : Value} {t : Thing} (h : DV c.w P T v t) (hn : ∀ ts, t ≠ .vec ts) : IsiF c P v (.ref 167) := by
  cases h with
  | int => exact isiIof c.fx.n_int_Vector
  | sym _ hI => obtain ⟨k, u, I⟩ := hI; exact isiFof I c.fx.kc_Symbol c.fx.no_Symbol_Vector
  | nil => exact isiEof c.fx.kc_SpecialD c.fx.no_SpecialD_Vector
  | vec I => exact (hn _ rfl).elim
  | pair I => exact isiFof I c.fx.kc_Pair c.fx.no_Pair_Vector
theorem DV.notSym {T : Tab} {v : Value} {t : Thing} (h : DV c.w P T v t) (hn : ∀ x, t ≠ .sym x) : IsiF c P v (.ref 62) := by
  cases h with
  | int => exact isiIof c.fx.n_int_Symbol
  | sym _ hI => exact (hn _ rfl).elim
  | nil => exact isiEof c.fx.kc_SpecialD c.fx.no_SpecialD_Symbol
  | vec I => exact isiFof I c.fx.kc_Vector c.fx.no_Vector_Symbol
  | pair I => exact isiFof I c.fx.kc_Pair c.fx.no_Pair_Symbol
theorem DV.notAlias {T : Tab} {v : Value} {t : Thing} (h : DV c.w P T v t) : IsiF c P v (.ref 242) := by
  cases h with
  | int => exact isiIof c.fx.n_int_Alias
  | sym _ hI => obtain ⟨k, u, I⟩ := hI; exact isiFof I c.fx.kc_Symbol c.fx.no_Symbol_Alias
  | nil => exact isiEof c.fx.kc_SpecialD c.fx.no_SpecialD_Alias
  | vec I => exact isiFof I c.fx.kc_Vector c.fx.no_Vector_Alias
  | pair I => exact isiFof I c.fx.kc_Pair c.fx.no_Pair_Alias
/-- a pair, or none -/
theorem DV.pairOr {T : Tab} {v : Value} {t : Thing} (h : DV c.w P T v t) : (Ex5 fun a x y tx ty => And5 (v = .ref a) (t = .pair tx ty) (Inst c.w P a 146 [("car", x), ("cdr", y)]) (DV c.w P T x tx) (DV c.w P T y ty)) ∨ (IsiF c P v (.ref 146) ∧ ∀ a d, t ≠ .pair a d) := by
  cases h with
  | pair I hx hy => exact .inl ⟨_, _, _, _, _, rfl, rfl, I, hx, hy⟩
  | int i u => exact .inr ⟨(DV.int (T := []) i u).notPair (fun _ _ e => nomatch e), fun _ _ e => nomatch e⟩
  | sym a b => exact .inr ⟨(DV.sym a b).notPair (fun _ _ e => nomatch e), fun _ _ e => nomatch e⟩
  | nil => exact .inr ⟨(DV.nil (T := [])).notPair (fun _ _ e => nomatch e), fun _ _ e => nomatch e⟩
  | vec a b d => exact .inr ⟨(DV.vec a b d).notPair (fun _ _ e => nomatch e), fun _ _ e => nomatch e⟩
theorem DV.symOr {T : Tab} {v : Value} {t : Thing} (h : DV c.w P T v t) : (Ex3 fun a x n => And4 (v = .ref a) (t = .sym x) (T[n]? = some (x, a)) (SymI c.w P a n x)) ∨ (IsiF c P v (.ref 62) ∧ ∀ x, t ≠ .sym x) := by
  cases h with
  | sym a b => exact .inl ⟨_, _, _, rfl, rfl, a, b⟩
  | int i u => exact .inr ⟨(DV.int (T := []) i u).notSym (fun _ e => nomatch e), fun _ e => nomatch e⟩
  | pair a b d => exact .inr ⟨(DV.pair a b d).notSym (fun _ e => nomatch e), fun _ e => nomatch e⟩
  | nil => exact .inr ⟨(DV.nil (T := [])).notSym (fun _ e => nomatch e), fun _ e => nomatch e⟩
  | vec a b d => exact .inr ⟨(DV.vec a b d).notSym (fun _ e => nomatch e), fun _ e => nomatch e⟩
theorem DV.vecOr {T : Tab} {v : Value} {t : Thing} (h : DV c.w P T v t) : (Ex4 fun a l vs ts => And5 (v = .ref a) (t = .vec ts) (Inst c.w P a 167 [("things", .ref l)]) (IsLst P l vs) (DVs c.w P T vs ts)) ∨ (IsiF c P v (.ref 167) ∧ ∀ ts, t ≠ .vec ts) := by
  cases h with
  | vec a b d => exact .inl ⟨_, _, _, _, rfl, rfl, a, b, d⟩
  | int i u => exact .inr ⟨(DV.int (T := []) i u).notVec (fun _ e => nomatch e), fun _ e => nomatch e⟩
  | pair a b d => exact .inr ⟨(DV.pair a b d).notVec (fun _ e => nomatch e), fun _ e => nomatch e⟩
  | nil => exact .inr ⟨(DV.nil (T := [])).notVec (fun _ e => nomatch e), fun _ e => nomatch e⟩
  | sym a b => exact .inr ⟨(DV.sym a b).notVec (fun _ e => nomatch e), fun _ e => nomatch e⟩
theorem DV.pairInv {T : Tab} {v : Value} {tx ty : Thing} (h : DV c.w P T v (.pair tx ty)) : Ex3 fun a x y => And4 (v = .ref a) (Inst c.w P a 146 [("car", x), ("cdr", y)]) (DV c.w P T x tx) (DV c.w P T y ty) := by
  cases h with
  | pair I hx hy => exact ⟨_, _, _, rfl, I, hx, hy⟩
/-- no other instance is EMPTY -/
theorem InstD.ne44 (S : St c P C L m mu s) (I : InstD P x D) (hD : D ≠ 38) : x ≠ 44 := by
  rintro rfl
  obtain ⟨dx, es, n, h1, h2⟩ := I
  obtain ⟨dx', es', n', k1, k2⟩ := S.empty
  have := (S.keep _ _ h1).symm.trans (S.keep _ _ k1)
  injection this with this
  have := congrArg Obj.cls this
  injection this with this
  exact hD this
theorem isEmptyS (h : Q (.bool true) s) : wpAny c.M A (compareOp .Is (.ref 44) (.ref 44)) Q E s := wpAny_is_ref_self h
theorem isEmptyN (h : Q (.bool false) s) : wpAny c.M A (compareOp .IsNot (.ref 44) (.ref 44)) Q E s := wpAny_isNot_ref_self h
theorem isEmptyF (S : St c P C L m mu s) (I : InstD P x D) (hD : D ≠ 38) (h : Q (.bool false) s) : wpAny c.M A (compareOp .Is (.ref x) (.ref 44)) Q E s := by
  have hne := I.ne44 S hD
  obtain ⟨dx, es, n, h1, h2⟩ := I
  obtain ⟨dx', es', n', k1, k2⟩ := S.empty
  exact wpAny_is_ref_other hne (S.keep _ _ h1) (S.keep _ _ k1) (by intro e; cases e) h
theorem isEmptyNF (S : St c P C L m mu s) (I : InstD P x D) (hD : D ≠ 38) (h : Q (.bool true) s) : wpAny c.M A (compareOp .IsNot (.ref x) (.ref 44)) Q E s := by
  have hne := I.ne44 S hD
  obtain ⟨dx, es, n, h1, h2⟩ := I
  obtain ⟨dx', es', n', k1, k2⟩ := S.empty
  exact wpAny_isNot_ref_other hne (S.keep _ _ h1) (S.keep _ _ k1) (by intro e; cases e) h
theorem isEmptyI {i : Int} {t : Tok} (h : Q (.bool false) s) : wpAny c.M A (compareOp .Is (.int i t) (.ref 44)) Q E s := wpAny_is_other rfl (by intro e; cases e) h
theorem isEmptyNI {i : Int} {t : Tok} (h : Q (.bool true) s) : wpAny c.M A (compareOp .IsNot (.int i t) (.ref 44)) Q E s := wpAny_isNot_other rfl (by intro e; cases e) h
/-- EMPTY, the name -/
theorem nEmpty {env : Env} {sc : PySem.Scope} {cl : List (Str × Addr)} {pos : Pos} (S : St c P C L m mu s) (hE : EnvOk env sc L cl) (hk : sc.names.lookup ("EMPTY" : Str) = some .globalImplicit) (h : Q (.ref 44) s) : wpAny c.M A (eval (.Name "EMPTY" pos) env) Q E s :=
  nm_glob S hE hk c.fx.g_EMPTY h
/-- a value is not EMPTY -/
structure NotE (c : Cx) (P : View) (v : Value) : Prop where
  is_ : ∀ {C L m mu s A} {Q E : Value → Shared → Prop}, St c P C L m mu s → Q (.bool false) s → wpAny c.M A (compareOp .Is v (.ref 44)) Q E s
  isn : ∀ {C L m mu s A} {Q E : Value → Shared → Prop}, St c P C L m mu s → Q (.bool true) s → wpAny c.M A (compareOp .IsNot v (.ref 44)) Q E s
theorem isEmptyX {v : Value} (S : St c P C L m mu s) (r : NotE c P v) (h : Q (.bool false) s) : wpAny c.M A (compareOp .Is v (.ref 44)) Q E s := r.is_ S h
theorem isEmptyNX {v : Value} (S : St c P C L m mu s) (r : NotE c P v) (h : Q (.bool true) s) : wpAny c.M A (compareOp .IsNot v (.ref 44)) Q E s := r.isn S h
theorem InstD.notE (I : InstD P x D) (hD : D ≠ 38) : NotE c P (.ref x) := ⟨fun S h => isEmptyF S I hD h, fun S h => isEmptyNF S I hD h⟩
theorem DV.nilOr {T : Tab} {v : Value} {t : Thing} (h : DV c.w P T v t) : (v = .ref 44 ∧ t = .nil) ∨ (NotE c P v ∧ t ≠ .nil) := by
  cases h with
  | nil => exact .inl ⟨rfl, rfl⟩
  | int i u => exact .inr ⟨⟨fun _ h => isEmptyI h, fun _ h => isEmptyNI h⟩, fun e => nomatch e⟩
  | sym _ b => obtain ⟨k, u, I⟩ := b; exact .inr ⟨I.d.notE (by decide), fun e => nomatch e⟩
  | vec I => exact .inr ⟨I.d.notE (by decide), fun e => nomatch e⟩
  | pair I => exact .inr ⟨I.d.notE (by decide), fun e => nomatch e⟩
theorem DV.symInv {T : Tab} {v : Value} {y : Str} (h : DV c.w P T v (.sym y)) : Ex2 fun a n => And3 (v = .ref a) (T[n]? = some (y, a)) (SymI c.w P a n y) := by
  cases h with
  | sym a b => exact ⟨_, _, rfl, a, b⟩
end
end TG1
local macro_rules | `(tactic| walk_at "z at") => exT "Facts.a_" "Symbol_number Symbol_text SymbolTable_rows SymbolTable_by_text Pair_car Pair_cdr Vector_things Alias_number Alias_base Alias_scope SpecialS_word LocalName_number LocalName_title GlobalName_symbol Scope_parent Scope_names Template_scope Template_world Names_table Names_last Names_titles Names_ops Names_root"
local macro_rules | `(tactic| walk_at "z set") => exT "Facts.s_" "Symbol_number Symbol_text SymbolTable_rows SymbolTable_by_text Pair_car Pair_cdr Vector_things Alias_number Alias_base Alias_scope SpecialS_word LocalName_number LocalName_title GlobalName_symbol Scope_parent Scope_names Template_scope Template_world Names_table Names_last Names_titles Names_ops Names_root"
local macro_rules | `(tactic| walk_at "z gl") => exT "Facts.g_" "list_of split_list is_identifier key_of root_symbol same_denotation same alias_of strip_take strip quasi law_deck law_draw law_row law_atom law_mark law_template law_datum law_back law_hole law_joined law_word law_means law_next law_vector law_done law_frozen law_world Pair Vector Symbol SymbolTable SyntaxTrouble Alias LocalName GlobalName Macro Scope Template Names SchemeError Special_scopes"
local macro_rules | `(tactic| walk_at "z me") => exT "Facts.m_" "SymbolTable_symbol Scope_bind Scope_bound Scope_find Template_word Template_marks Template_mark Template_quoted Template_consed Template_told Template_marked Template_vector Template_spots_of Template_spots Template_row Template_chained Names_fresh"
local macro_rules | `(tactic| walk_at "z isi") => exT "Facts.isi_" "Pair Vector Symbol Alias SpecialS LocalName GlobalName"
local macro_rules | `(tactic| walk_at "z kc") => exT "Facts.kc_" "Pair Vector Symbol Alias SpecialS LocalName GlobalName SpecialD"
local macro_rules | `(tactic| walk_at "z no") => exT "Facts.n" "o_Pair_Vector o_Pair_Symbol o_Pair_Alias o_Vector_Pair o_Vector_Symbol o_Vector_Alias o_Symbol_Pair o_Symbol_Vector o_Symbol_Alias o_SpecialD_Pair o_SpecialD_Vector o_SpecialD_Symbol o_SpecialD_Alias o_SpecialS_LocalName o_SpecialS_GlobalName o_SpecialS_Macro o_LocalName_SpecialS o_LocalName_GlobalName o_LocalName_Macro o_GlobalName_SpecialS o_GlobalName_LocalName o_GlobalName_Macro o_Alias_Symbol o_Alias_Pair o_Alias_Vector _int_Pair _int_Vector _int_Symbol _int_Alias"
local macro_rules | `(tactic| walk_at "as") => `(tactic| first | assumption | ((with_reducible apply St.bump); walk_at "as"))
local macro_rules | `(tactic| walk_at "om1") => `(tactic| first | exact Nat.le_refl _ | (refine Nat.le_succ_of_le ?_; walk_at "om1"))
local macro_rules | `(tactic| walk_at "om") => `(tactic| first | exact Nat.le_of_ble_eq_true rfl | walk_at "om1" | lia)
local macro_rules | `(tactic| walk_at "z lk") => `(tactic| first | exact upd_same | (refine upd_ne (by decide +kernel) ?_; walk_at "z lk") | assumption)
local macro_rules | `(tactic| walk_at "z fl") => `(tactic| first | with_reducible exact fl_same | (refine fl_ne (by decide +kernel) ?_; walk_at "z fl"))
local macro_rules | `(tactic| walk_at "evx") => `(tactic| fail)
local macro_rules | `(tactic| walk_at "ev") => do
  let a ← exT "" "evN/akl evS evI evNone evB" ""
  let b ← exT "" "evG/akM evG/aka" ""
  `(tactic| first
    | $a:tactic
    | ((with_reducible show Ev _ _ _ _ _ (Expr.Attribute _ _ _) _ _); with_reducible exact evA (by walk_at "ev") (by assumption) (by walk_at "z at") (by walk_at "z fl") (by first | (with_unfolding_all rfl) | assumption) (by with_unfolding_all rfl))
    | ((with_reducible show Ev _ _ _ _ _ (Expr.Subscript _ (Expr.Constant (Const.int _) _ _) _) _ _); with_reducible exact evSub (by walk_at "ev") (by assumption) (by decide) (by decide) (Nat.le_of_ble_eq_true (by with_unfolding_all rfl)) (by with_unfolding_all rfl) (by intro _; with_unfolding_all rfl))
    | walk_at "evx"
    | $b:tactic
    | exact evG (by assumption) (by decide +kernel) (GlobOk.at_ (by walk_at "z gl")))
local macro_rules | `(tactic| walk_at "isiT") => `(tactic| first | assumption | with_reducible exact isiTof (by assumption) (by walk_at "z isi"))
local macro_rules | `(tactic| walk_at "isiF") => do
  let a ← exT "" "isiIof/n isiFof/acn isiEof/cn" ""
  `(tactic| first | assumption | $a:tactic)
local macro_rules | `(tactic| walk_at "nil") => `(tactic| ((first | with_reducible refine whnF rfl ?_ | with_reducible refine wpAny_execs_nil ?_ | skip); (try dsimp only); (try with_reducible refine nxc ?_)))
local macro_rules | `(tactic| walk_at "ds") => `(tactic| ((try dsimp only); (try with_reducible refine nxc ?_)))
local macro_rules | `(tactic| walk_at "z") => do
  let a ← firstT [
    ← refsT "eval:1" "useEv/Av? nTuple/Aak? cB2/AakIB?u eval:1,Expr.Call:3,Expr.Attribute:2=eMeE/Av?u eMe/?u eAt/?u eval:1,Expr.Compare:3=eCmp/Avv?u eCmp1/?u BoolOp_and/? BoolOp_or/? BoolOp_one/? eIe/? eSu/? eBi/? UnaryOp_/? tup1/?u tup2/?u tup3/?u lst0/? lst1/?u lst2/?u lst3/?u sliceE/?",
    ← refsT "execs:1,List.cons:1" "execs:1,List.cons:1,Stmt.Return:1,some:1=rtE/Av? consRt/? execs:1,List.cons:1,Stmt.Assign:2,List.cons:1,Expr.Name:1=asE/Aakv?u= consAs/ak?u consIf/? consN/?",
    ← refsT "exec:1" "wpAny_Return_none/? plainObj_wpAny_Assign_Attribute/?u"]
  let b ← refT "eSpE/Av?u"
  let b' ← refT "eSp/?u spliced_none/?"
  let c ← firstT [
    ← refsT "isTrue:2" "tNot/? tAnd/? isTrue_and_nil/? tOr/? isTrue_or_nil/? isTrue:2,Expr.Call:3,Expr.Name:1,isinstance=tIsiT/AakvkgT?duu isTrue:2,Expr.Call:3,Expr.Name:1,isinstance=tIsiF/AakvkgF?duu isTrue:2,Expr.Call:3,Expr.Name:1,isinstance=tTup/Aakvka?uu isTrue:2,Expr.Call:3,Expr.Name:1,isinstance=tTupI/Aakvk?uu isTrue:2,Expr.Compare:3=tCmp/Avv?u tCmp1/?u tPl/?u",
    ← refsT "call:1" "isiFD/AEcn? isiT/Aai? isiF/Aacn? isiI/An? isiTup/Aa? isiTupI/? useIsiF/Aa?",
    ← refsT "compareOp:2" "isEmptyS/? isEmptyN/? isEmptyF/ADd? isEmptyNF/ADd? isEmptyI/? isEmptyNI/? eqSt/? eqSf/k? neSf/? neSt/k? isNoneR/? isNoneI/? isNoneN/? isNotNoneR/? isNotNoneN/? isEmptyX/Aa? isEmptyNX/Aa?"]
  let e ← refT "getF/Aatfx? wpAny_truthy_bool/? negI/? addI/? subI/? ifnT/r? ifnF/r? andT/r? andF/r? orT/r? orF/r? whnT/r? ieT/r? ieF/r?"
  let h ← refT "subT/Aaddbu?u"
  `(tactic| first
  | $a:tactic
  | ((with_reducible refine (?_ : wpAny _ _ (evalPart (some _) _) _ _ _)); (refine (?_ : wpAny _ _ (eval _ _) _ _ _)))
  | with_reducible refine partNone ?_
  | ((with_reducible refine (?_ : wpAny _ _ (spliced (backTo _ (starEach (_ :: _) _))) _ _ _)); $b:tactic)
  | $b':tactic
  | $c:tactic
  | ((with_reducible refine (?_ : wpAny _ _ (setAttr _ _ _) _ _ _)); refine setF_ (by walk_at "as") (by assumption) (by walk_at "z set") (Nat.le_of_ble_eq_true rfl) ?_; intro s' S')
  | $e:tactic
  | ((with_reducible show (if (_ : Bool) = true then _ else _)); first | (with_reducible refine ifT rfl ?_) | (with_reducible refine ifF rfl ?_))
  | $h:tactic
  | (with_reducible refine AsK.mk _ _ _ _ (by walk_at "as") ?_; intro s' S')
  | ((with_reducible show Ex4 (fun (P : View) (C : View) (m : Str → Option Value) (mu : Led) => St _ P C _ m mu _ ∧ _)); refine ⟨_, _, _, _, (by walk_at "as"), ?_⟩; intro s' S'; try dsimp only)
  | ((with_reducible show Ex5 (fun (P : View) (C : View) (L : Addr) (m : Str → Option Value) (mu : Led) => St _ P C L m mu _ ∧ _)); refine ⟨_, _, _, _, _, (by walk_at "as"), ?_⟩; intro sl s' P' hP' hsl' S'; try dsimp only))
local macro_rules | `(tactic| walk_at "zcf") => `(tactic| (refine cF (by walk_at "as") (by assumption) (by decide +kernel) (by walk_at "z gl") ?_))
local macro_rules | `(tactic| walk_at "z c1") => `(tactic| (walk_at "zcf"; refine cW1 (GlobOk.keep (by walk_at "z gl")) ?_))
local macro_rules | `(tactic| walk_at "z c2") => `(tactic| (walk_at "zcf"; refine cW2 (GlobOk.keep (by walk_at "z gl")) ?_))
local macro_rules | `(tactic| walk_at "z c3") => `(tactic| (walk_at "zcf"; refine cW3 (GlobOk.keep (by walk_at "z gl")) ?_))
local macro_rules | `(tactic| walk_at "z c4") => `(tactic| (walk_at "zcf"; refine cW4 (GlobOk.keep (by walk_at "z gl")) ?_))
section TD1
section
variable {c : Cx} {P C : View} {L x dx : Addr} {m : Loc} {mu rho : Led} {s : Shared} {A : Around} {a b d : Value} {n : Nat}
theorem init_Pair (hx : P x (instObj 146 dx)) : CallsC c (n + 1) 143 [.ref x, a, b] P [(dx, IsDictO c.w [])] (fun P' mu' v => P' = P ∧ mu' = [(dx, IsDictO c.w [("car", a), ("cdr", b)])] ∧ v = .none) := by
  refine intro c.fx.is_Pair_init [("self", .ref x), ("car", a), ("cdr", b)] (fun _ _ _ _ _ _ _ _ => BindsTo.of_eq rfl) (locs rfl) (by decide +kernel) ?_
  intro env A' L' C' s₁ Qb Eb hE hA' S' B
  dsimp only [f_Pair_init, fx_Pair_init, binds0] at *
  repeat walk_at "z"
  refine wpAny_execs_nil ?_
  exact B.nxt (View.le.refl _) ‹_› ⟨rfl, rfl, rfl⟩
theorem make_Pair : Makes c (n + 2) 146 [a, b] P [("car", a), ("cdr", b)] := makes c.fx.mk_Pair fun x dx P' hx => init_Pair hx

theorem init_Vector (hx : P x (instObj 167 dx)) : CallsC c (n + 1) 164 [.ref x, a] P [(dx, IsDictO c.w [])] (fun P' mu' v => P' = P ∧ mu' = [(dx, IsDictO c.w [("things", a)])] ∧ v = .none) := by
  refine intro c.fx.is_Vector_init [("self", .ref x), ("things", a)] (fun _ _ _ _ _ _ _ _ => BindsTo.of_eq rfl) (locs rfl) (by decide +kernel) ?_
  intro env A' L' C' s₁ Qb Eb hE hA' S' B
  dsimp only [f_Vector_init, fx_Vector_init, binds0] at *
  repeat walk_at "z"
  refine wpAny_execs_nil ?_
  exact B.nxt (View.le.refl _) ‹_› ⟨rfl, rfl, rfl⟩
theorem make_Vector : Makes c (n + 2) 167 [a] P [("things", a)] := makes c.fx.mk_Vector fun x dx P' hx => init_Vector hx

theorem init_Symbol (hx : P x (instObj 62 dx)) : CallsC c (n + 1) 59 [.ref x, a, b] P [(dx, IsDictO c.w [])] (fun P' mu' v => P' = P ∧ mu' = [(dx, IsDictO c.w [("number", a), ("text", b)])] ∧ v = .none) := by
  refine intro c.fx.is_Symbol_init [("self", .ref x), ("number", a), ("text", b)] (fun _ _ _ _ _ _ _ _ => BindsTo.of_eq rfl) (locs rfl) (by decide +kernel) ?_
  intro env A' L' C' s₁ Qb Eb hE hA' S' B
  dsimp only [f_Symbol_init, fx_Symbol_init, binds0] at *
  repeat walk_at "z"
  refine wpAny_execs_nil ?_
  exact B.nxt (View.le.refl _) ‹_› ⟨rfl, rfl, rfl⟩
theorem make_Symbol : Makes c (n + 2) 62 [a, b] P [("number", a), ("text", b)] := makes c.fx.mk_Symbol fun x dx P' hx => init_Symbol hx

theorem init_Alias (hx : P x (instObj 242 dx)) : CallsC c (n + 1) 239 [.ref x, a, b, d] P [(dx, IsDictO c.w [])] (fun P' mu' v => P' = P ∧ mu' = [(dx, IsDictO c.w [("number", a), ("base", b), ("scope", d)])] ∧ v = .none) := by
  refine intro c.fx.is_Alias_init [("self", .ref x), ("number", a), ("base", b), ("scope", d)] (fun _ _ _ _ _ _ _ _ => BindsTo.of_eq rfl) (locs rfl) (by decide +kernel) ?_
  intro env A' L' C' s₁ Qb Eb hE hA' S' B
  dsimp only [f_Alias_init, fx_Alias_init, binds0] at *
  repeat walk_at "z"
  refine wpAny_execs_nil ?_
  exact B.nxt (View.le.refl _) ‹_› ⟨rfl, rfl, rfl⟩
theorem make_Alias : Makes c (n + 2) 242 [a, b, d] P [("number", a), ("base", b), ("scope", d)] := makes c.fx.mk_Alias fun x dx P' hx => init_Alias hx

theorem init_SpecialS (hx : P x (instObj 263 dx)) : CallsC c (n + 1) 260 [.ref x, a] P [(dx, IsDictO c.w [])] (fun P' mu' v => P' = P ∧ mu' = [(dx, IsDictO c.w [("word", a)])] ∧ v = .none) := by
  refine intro c.fx.is_SpecialS_init [("self", .ref x), ("word", a)] (fun _ _ _ _ _ _ _ _ => BindsTo.of_eq rfl) (locs rfl) (by decide +kernel) ?_
  intro env A' L' C' s₁ Qb Eb hE hA' S' B
  dsimp only [f_SpecialS_init, fx_SpecialS_init, binds0] at *
  repeat walk_at "z"
  refine wpAny_execs_nil ?_
  exact B.nxt (View.le.refl _) ‹_› ⟨rfl, rfl, rfl⟩
theorem make_SpecialS : Makes c (n + 2) 263 [a] P [("word", a)] := makes c.fx.mk_SpecialS fun x dx P' hx => init_SpecialS hx

theorem init_LocalName (hx : P x (instObj 284 dx)) : CallsC c (n + 1) 281 [.ref x, a, b] P [(dx, IsDictO c.w [])] (fun P' mu' v => P' = P ∧ mu' = [(dx, IsDictO c.w [("number", a), ("title", b)])] ∧ v = .none) := by
  refine intro c.fx.is_LocalName_init [("self", .ref x), ("number", a), ("title", b)] (fun _ _ _ _ _ _ _ _ => BindsTo.of_eq rfl) (locs rfl) (by decide +kernel) ?_
  intro env A' L' C' s₁ Qb Eb hE hA' S' B
  dsimp only [f_LocalName_init, fx_LocalName_init, binds0] at *
  repeat walk_at "z"
  refine wpAny_execs_nil ?_
  exact B.nxt (View.le.refl _) ‹_› ⟨rfl, rfl, rfl⟩
theorem make_LocalName : Makes c (n + 2) 284 [a, b] P [("number", a), ("title", b)] := makes c.fx.mk_LocalName fun x dx P' hx => init_LocalName hx

theorem init_GlobalName (hx : P x (instObj 305 dx)) : CallsC c (n + 1) 302 [.ref x, a] P [(dx, IsDictO c.w [])] (fun P' mu' v => P' = P ∧ mu' = [(dx, IsDictO c.w [("symbol", a)])] ∧ v = .none) := by
  refine intro c.fx.is_GlobalName_init [("self", .ref x), ("symbol", a)] (fun _ _ _ _ _ _ _ _ => BindsTo.of_eq rfl) (locs rfl) (by decide +kernel) ?_
  intro env A' L' C' s₁ Qb Eb hE hA' S' B
  dsimp only [f_GlobalName_init, fx_GlobalName_init, binds0] at *
  repeat walk_at "z"
  refine wpAny_execs_nil ?_
  exact B.nxt (View.le.refl _) ‹_› ⟨rfl, rfl, rfl⟩
theorem make_GlobalName : Makes c (n + 2) 305 [a] P [("symbol", a)] := makes c.fx.mk_GlobalName fun x dx P' hx => init_GlobalName hx

theorem init_Template (hx : P x (instObj 550 dx)) : CallsC c (n + 1) 463 [.ref x, a, b] P [(dx, IsDictO c.w [])] (fun P' mu' v => P' = P ∧ mu' = [(dx, IsDictO c.w [("scope", a), ("world", b)])] ∧ v = .none) := by
  refine intro c.fx.is_Template_init [("self", .ref x), ("scope", a), ("world", b)] (fun _ _ _ _ _ _ _ _ => BindsTo.of_eq rfl) (locs rfl) (by decide +kernel) ?_
  intro env A' L' C' s₁ Qb Eb hE hA' S' B
  dsimp only [f_Template_init, fx_Template_init, binds0] at *
  repeat walk_at "z"
  refine wpAny_execs_nil ?_
  exact B.nxt (View.le.refl _) ‹_› ⟨rfl, rfl, rfl⟩
theorem make_Template : Makes c (n + 2) 550 [a, b] P [("scope", a), ("world", b)] := makes c.fx.mk_Template fun x dx P' hx => init_Template hx

end
end TD1
section TD2
/-- a thing is an int, or a tuple that opens with its kind -/
theorem enc_tag (t : Thing) : (∃ i, t = .int i) ∨ Ex2 fun w r => And3 (enc t = .tuple (.str w :: r)) (w = Str.ofString "pair" → ∃ x y, t = .pair x y) (w = Str.ofString "vec" → ∃ ts, t = .vec ts) := by
  cases t with
  | int i => exact .inl ⟨_, rfl⟩
  | sym _ => exact .inr ⟨_, _, rfl, fun e => absurd e (by decide +kernel), fun e => absurd e (by decide +kernel)⟩
  | nil => exact .inr ⟨_, _, rfl, fun e => absurd e (by decide +kernel), fun e => absurd e (by decide +kernel)⟩
  | vec _ => exact .inr ⟨_, _, rfl, fun e => absurd e (by decide +kernel), fun _ => ⟨_, rfl⟩⟩
  | pair _ _ => exact .inr ⟨_, _, rfl, fun _ => ⟨_, _, rfl⟩, fun e => absurd e (by decide +kernel)⟩
theorem encM_tag (m : Mean) : (∃ i, m = .int i) ∨ Ex2 fun w r => encM m = .tuple (.str w :: r) ∧ (w = Str.ofString "pair" → ∃ x y, m = .pair x y) := by
  cases m with
  | int i => exact .inl ⟨_, rfl⟩
  | pair _ _ => exact .inr ⟨_, _, rfl, fun _ => ⟨_, _, rfl⟩⟩
  | _ => exact .inr ⟨_, _, rfl, fun e => absurd e (by decide +kernel)⟩
theorem Rd.tagged {P : View} {v : Value} {w : Str} {r : List PyData} (h : Rd P v (.tuple (.str w :: r))) : Ex3 fun a u vs => v = .ref a ∧ IsTp P a (.str w u :: vs) := by
  obtain ⟨a, vs, rfl, ht, hr⟩ := h.tupleInv
  obtain ⟨v1, r, rfl, h1, -⟩ := hr.consInv
  obtain ⟨t, rfl⟩ := h1.strInv
  exact ⟨_, _, _, rfl, ht⟩
theorem TV.tagged {P : View} {v : Value} {t : Thing} (h : TV P v t) : (Ex2 fun i u => v = .int i u) ∨ Ex4 fun a w u r => And4 (v = .ref a) (IsTp P a (.str w u :: r)) (w = Str.ofString "pair" → ∃ x y, t = .pair x y) (w = Str.ofString "vec" → ∃ ts, t = .vec ts) := by
  unfold TV at h
  rcases enc_tag t with ⟨i, rfl⟩ | ⟨w, r, e, h1, h2⟩
  · rw [enc] at h
    obtain ⟨t, rfl⟩ := h.intInv
    exact .inl ⟨_, _, rfl⟩
  · rw [e] at h
    obtain ⟨a, u, vs, rfl, ht⟩ := h.tagged
    exact .inr ⟨_, _, _, _, rfl, ht, h1, h2⟩
theorem MV.tagged {P : View} {v : Value} {m : Mean} (h : MV P v m) : (Ex2 fun i u => v = .int i u) ∨ Ex4 fun a w u r => And3 (v = .ref a) (IsTp P a (.str w u :: r)) (w = Str.ofString "pair" → ∃ x y, m = .pair x y) := by
  unfold MV at h
  rcases encM_tag m with ⟨i, rfl⟩ | ⟨w, r, e, h1⟩
  · rw [encM] at h
    obtain ⟨t, rfl⟩ := h.intInv
    exact .inl ⟨_, _, rfl⟩
  · rw [e] at h
    obtain ⟨a, u, vs, rfl, ht⟩ := h.tagged
    exact .inr ⟨_, _, _, _, rfl, ht, h1⟩
-- turned
section
variable {c : Cx} {P C : View} {L x dx : Addr} {m : Loc} {mu rho : Led} {s : Shared} {A : Around} {a b d : Value} {n : Nat}
theorem rowD_snoc (a : PyData) : ∀ (ds : List PyData) (t : PyData), rowD (ds ++ [a]) t = rowD ds (.tuple [.str "pair", a, t])
  | [], _ => rfl
  | x :: r, t => by simp only [List.cons_append, rowD]; rw [rowD_snoc a r t]
theorem rowD_step (ds : List PyData) (t : PyData) {i : Nat} {d : PyData} (h : ds.reverse[i]? = some d) : rowD ((ds.reverse.take (i + 1)).reverse) t = .tuple [.str "pair", d, rowD ((ds.reverse.take i).reverse) t] := by
  rw [List.take_add_one, h]
  simp [rowD]
theorem law_row {l : Addr} {vs : List Value} {ds : List PyData} {tv : Value} {td : PyData} (hl : IsLst P l vs) (hr : RdAll P vs ds) (ht : Rd P tv td) (hz : vs.length ≤ 1000) :
    CallsC c (n + 1) 664 [.ref l, tv] P [] (fun P' mu' v => mu' = [] ∧ Rd P' v (rowD ds td)) := by
  refine intro c.fx.is_law_row [("items", .ref l), ("tail", tv)] (fun _ _ _ _ _ _ _ _ => BindsTo.of_eq rfl) (locs rfl) (by decide +kernel) ?_
  intro env A' L' C' s₁ Qb Eb hE hA' S' B
  dsimp only [f_law_row, fx_law_row, binds0] at *
  repeat walk_at "z"
  refine wpAny_For ?_
  repeat walk_at "z"
  rename_i sl s1 P1 hP1 hsl S1
  refine sliceT S1 (S1.lstP (hl.mono hP1)) hsl .none .none (.int _ _) (by decide) (krv_pick _) ?_ (Nat.le_trans hz (by decide))
  intro D s2 _ S2
  obtain ⟨P2, hP2, hD, S3⟩ := S2.freezeL
  have hP02 := hP1.trans hP2
  refine iterL S3 (xs := vs.reverse) hD ?_
  intro it s4 hC W S4
  refine forS S4 hE (by decide +kernel) hA'.handled hC W (fun i P' m' mu' => mu' = [] ∧ Ex1 fun fv => m' "found" = some fv ∧ Rd P' fv (rowD ((ds.reverse.take i).reverse) td)) ?_ ?_ ?_
  · refine ⟨rfl, tv, by walk_at "z lk", ?_⟩
    simp only [List.take_zero, List.reverse_nil, rowD]
    exact ht.mono hP02
  · intro i v P' m' mu' s5 C5 E E2 hi hv hP hC5 hJ S5 hnext hret herr
    obtain ⟨rfl, fv, hf, hfr⟩ := hJ
    repeat walk_at "z"
    with_reducible refine newTup (by walk_at "as") ?_ (by simp)
    intro a s6 P6 hP6 ha S6
    repeat walk_at "z"
    walk_at "nil"
    obtain ⟨d, hd, hvd⟩ := hr.reverse.get hv
    rename_i s7 S7
    refine hnext hP6 ⟨rfl, .ref a, by walk_at "z lk", ?_⟩ S7
    rw [rowD_step ds td hd]
    exact Rd.tup3 ha (.str _ _) (hvd.mono (hP02.trans (hP.trans hP6))) (hfr.mono hP6)
  · intro P' m' mu' s5 hP hJ S5
    obtain ⟨rfl, fv, hf, hfr⟩ := hJ
    walk_at "ds"
    repeat walk_at "z"
    refine B.ret (hP02.trans hP) S5 ⟨rfl, ?_⟩
    have : (ds.reverse.take vs.reverse.length).reverse = ds := by
      rw [List.length_reverse, hr.length, ← List.length_reverse, List.take_length, List.reverse_reverse]
    rwa [this] at hfr
end
end TD2
section TD3
-- turned
/-! sizes of meanings -/
noncomputable def msz : Mean → Nat
  | .int _ => 1
  | .sym _ => 1
  | .nil => 1
  | .vecOf m => 1 + msz m
  | .pair a d => 1 + msz a + msz d
  | .call t => 1 + sz t
  | .joined a d => 1 + msz a + msz d
theorem eqv_tag {a b : Str} {xs ys : List PyData} (h : PyData.eqv (.tuple (.str a :: xs)) (.tuple (.str b :: ys)) = true) : a = b ∧ PyData.eqvAll xs ys = true := by
  have h' : (PyData.eqv (.str a) (.str b) && PyData.eqvAll xs ys) = true := h
  rw [Bool.and_eq_true] at h'
  exact ⟨eq_of_beq (show (a == b) = true from h'.1), h'.2⟩
theorem eqv_two {x y x' y' : PyData} (h : PyData.eqvAll [x, y] [x', y'] = true) : PyData.eqv x x' = true ∧ PyData.eqv y y' = true := by
  have h' : (PyData.eqv x x' && (PyData.eqv y y' && true)) = true := h
  rw [Bool.and_eq_true, Bool.and_true] at h'
  exact h'
theorem eqv_one {x x' : PyData} (h : PyData.eqvAll [x] [x'] = true) : PyData.eqv x x' = true := by
  have h' : (PyData.eqv x x' && true) = true := h
  rwa [Bool.and_true] at h'
theorem eqv_nil_f {m : Mean} (h : m ≠ .nil) : PyData.eqv (encM m) (.tuple [.str "nil"]) = false := by
  cases m <;> first | exact absurd rfl h | simp [encM, PyData.eqv, PyData.eqvAll]
theorem tnil_eqv_f {m : Thing} (h : m ≠ .nil) : PyData.eqv (enc m) (.tuple [.str "nil"]) = false := by
  cases m <;> first | exact absurd rfl h | simp [enc, PyData.eqv, PyData.eqvAll]
theorem dnil : (PyData.tuple [PyData.str "nil"]).depth ≤ 2 := by decide
noncomputable abbrev MOk (t : Mean) : Prop := (encM t).canLay0 = true
theorem MOk.pair {a d : Mean} (h : MOk (.pair a d)) : MOk a ∧ MOk d := by
  unfold MOk at *; simp only [encM, PyData.canLay0, PyData.canLayAll0, Bool.and_eq_true] at h; exact ⟨h.2.1, h.2.2.1⟩
theorem MV.pairInv {P : View} {v : Value} {x y : Mean} (h : MV P v (.pair x y)) : Ex4 fun a t p q => And4 (v = .ref a) (IsTp P a [.str "pair" t, p, q]) (MV P p x) (MV P q y) := by
  unfold MV at h; rw [encM] at h
  exact Mine.pairInv h
theorem spine_len : ∀ m : Mean, (spine m).1.length ≤ msz m
  | .int _ => by simp [spine]
  | .sym _ => by simp [spine]
  | .nil => by simp [spine]
  | .vecOf m => by simp [spine]
  | .pair a d => by have := spine_len d; simp only [spine, msz, List.length_cons]; lia
  | .call t => by simp [spine]
  | .joined a d => by simp [spine]

section
variable {c : Cx} {P C : View} {L x dx : Addr} {m : Loc} {mu rho : Led} {s : Shared} {A : Around} {a b d : Value} {n : Nat}
theorem law_joined {v1 v2 : Value} {m1 m2 : Mean} (h1 : MV P v1 m1) (h2 : MV P v2 m2) (ok : MOk m1) (hz : msz m1 ≤ 900) :
    CallsC c (n + 3) 707 [v1, v2] P [] (fun P' mu' v => mu' = [] ∧ MV P' v (joined m1 m2)) := by
  refine intro c.fx.is_law_joined [("one", v1), ("other", v2)] (fun _ _ _ _ _ _ _ _ => BindsTo.of_eq rfl) (locs rfl) (by decide +kernel) ?_
  intro env A' L' C' s₁ Qb Eb hE hA' S' B
  dsimp only [f_law_joined, fx_law_joined, binds0] at *
  walk_at "z"
  refine unpack2S (by cases env with | mk a b c d e f g h i => have hsc := hE.scope; dsimp only at hsc; subst hsc; rfl) hE hA'.handled (by decide +kernel) (by decide +kernel) ?_
  repeat walk_at "z"
  with_reducible refine newLst S' (fun D s2 hD S2 => ?_) (by simp)
  walk_at "z"
  with_reducible refine newTup S2 (fun t s3 P3 hP3 ht S3 => ?_) (by simp)
  refine ⟨_, _, _, _, t, .ref D, v1, rfl, ht, S3, fun s4 S4 => ?_⟩
  walk_at "ds"
  repeat walk_at "z"
  refine whileS (fun k s => Ex4 fun P' pre mm at_ => And9 (P.le P') (msz mm = k) (m1 = m1) ((spine m1).1 = pre.2 ++ (spine mm).1) ((spine m1).2 = (spine mm).2) (MOk mm) (MV P' at_ mm) (RdAll P' pre.1 (pre.2.map encM)) (Ex1 fun m' => And5 (m' "one" = some v1) (m' "other" = some v2) (m' "items" = some (.ref D)) (m' "at" = some at_) (St c P' C' L' m' [(D, LstO pre.1)] s))) ?_ (msz m1)
    ⟨_, ([], []), m1, v1, hP3, rfl, rfl, rfl, rfl, ok, h1.mono hP3, .nil, _, by walk_at "z lk", by walk_at "z lk", by walk_at "z lk", by walk_at "z lk", S4⟩
  rintro K E2 k s5 ⟨P5, pre, mm, at_, hP5, hk, _, hs1, hs2, okm, hat, hpre, m5, e1, e2, e3, e4, S5⟩ hnx hrt
  obtain ⟨pv, pm⟩ := pre
  have hlen : pv.length ≤ 900 := by
    have := spine_len m1
    rw [hs1, List.length_append] at this
    have e := hpre.length
    rw [List.length_map] at e
    dsimp only at e this
    lia
  dsimp only at *
  -- what the loop's test says
  have after : ∀ s6 P6, P5.le P6 → (∀ a d, mm ≠ .pair a d) → St c P6 C' L' m5 [(D, LstO pv)] s6 → wpAny c.M A' (execs (f_law_joined.body.drop 2) env) Qb Eb s6 := by
    intro s6 P6 hP6 hnp S6
    dsimp only [f_law_joined, fx_law_joined, List.drop]
    repeat walk_at "z"
    repeat walk_at "z"
    with_reducible refine newTup (by walk_at "as") (fun t7 s7 P7 hP7 ht7 S7 => ?_) (by simp)
    refine eqR S7 (hat.mono (hP6.trans hP7)) (.tuple ht7 (.cons (.str _ _) .nil)) okm (by decide +kernel) (by have := hA'.u (k := 2) (by lia); have := dnil; lia) ?_
    walk_at "z"
    by_cases hn : mm = .nil
    · subst hn
      refine ifT (by decide +kernel) ?_
      obtain ⟨P8, hP8, ho8, S8⟩ := S7.freezeL
      refine cF S8 hE (by decide +kernel) (by walk_at "z gl") ?_
      refine cW2 (GlobOk.keep c.fx.g_law_row) ?_
      repeat walk_at "z"
      refine ⟨S8.K, ?_⟩
      have r0 := hP6.trans (hP7.trans hP8)
      have r1 := hP5.trans r0
      refine cc0 (law_row (n := n + 1) (vs := pv) (ds := pm.map encM) (td := encM m2) ho8 (hpre.mono r0) (h2.mono r1) (by lia)) (rho := []) S8 hA' ?_
      rintro v s9 P9 hP9 S9 hv
      refine B.ret (r1.trans hP9) S9 ⟨rfl, ?_⟩
      have : joined m1 m2 = mrow pm m2 := by
        unfold joined
        rw [hs2, hs1]; simp [spine]
      rw [this]; unfold MV; rw [encM_row]; exact hv
    · refine ifF (eqv_nil_f hn) ?_
      repeat walk_at "z"
      with_reducible refine newTup (by walk_at "as") (fun t8 s8 P8 hP8 ht8 S8 => ?_) (by simp)
      have r1 := hP5.trans (hP6.trans (hP7.trans hP8))
      refine B.ret r1 S8.drop ⟨rfl, ?_⟩
      have : joined m1 m2 = .joined m1 m2 := by
        unfold joined
        rw [hs2]
        cases mm <;> first | rfl | exact absurd rfl hn | exact absurd rfl (hnp _ _)
      rw [this]
      exact Rd.tup3 ht8 (.str _ _) (h1.mono r1) (h2.mono r1)
  by_cases hpm : ∃ x y, mm = .pair x y
  rotate_left
  · rcases MV.tagged hat with ⟨i, u, rfl⟩ | ⟨a, w, u, r, rfl, ht, hw⟩
    · repeat walk_at "z"
      walk_at "nil"
      exact after _ _ (View.le.refl _) (fun _ _ e => hpm ⟨_, _, e⟩) (by walk_at "as")
    · repeat walk_at "z"
      with_reducible refine eqSf (fun e => absurd (hw e) hpm) ?_
      repeat walk_at "z"
      walk_at "nil"
      exact after _ _ (View.le.refl _) (fun _ _ e => hpm ⟨_, _, e⟩) (by walk_at "as")
  obtain ⟨ma, md, rfl⟩ := hpm
  obtain ⟨a, u, p, q, rfl, ht, hp, hq⟩ := MV.pairInv hat
  repeat walk_at "z"
  refine stAppend hE ?_
  walk_at "z"
  refine ⟨D, rfl, ?_, ?_⟩
  · obtain ⟨n, hn⟩ := St.lstO (a := D) (xs := pv) (by walk_at "as") (.head _)
    exact ⟨_, n, hn⟩
  repeat walk_at "z"
  refine ⟨_, _, _, _, _, pv, by lia, by walk_at "as", fun s7 S7 => ?_⟩
  walk_at "ds"
  repeat walk_at "z"
  walk_at "nil"
  rename_i s8 S8
  refine hnx (msz md) _ ?_ ⟨P5, (pv ++ [p], pm ++ [ma]), md, q, hP5, rfl, rfl, ?_, ?_, okm.pair.2, hq, ?_, _, ?_, ?_, ?_, upd_same, S8⟩
  · rw [← hk, msz]; lia
  · rw [hs1]; simp [spine]
  · rw [hs2]; simp [spine]
  · simpa using hpre.snoc hp
  all_goals walk_at "z lk"
end
end TD3
section TD4
-- turned
section
variable {c : Cx} {P C : View} {L x dx : Addr} {m : Loc} {mu rho : Led} {s : Shared} {A : Around} {a b d : Value} {n : Nat}
theorem law_hole {v : Value} {t : Thing} (h : TV P v t) :
    CallsC c (n + 3) 700 [v] P [] (fun P' mu' r => mu' = [] ∧ MV P' r (hole t)) := by
  refine intro c.fx.is_law_hole [("thing", v)] (fun _ _ _ _ _ _ _ _ => BindsTo.of_eq rfl) (locs rfl) (by decide +kernel) ?_
  intro env A' L' C' s₁ Qb Eb hE hA' S' B
  dsimp only [f_law_hole, fx_law_hole, binds0] at *
  repeat walk_at "z"
  refine dict3 S' (fun d s1 hd S1 => ?_)
  repeat walk_at "z"
  walk_at "z c2"
  repeat walk_at "z"
  with_reducible refine newTup (by walk_at "as") (fun t2 s2 P2 hP2 ht2 S2 => ?_) (by simp)
  with_reducible refine newLst S2 (fun l3 s3 hl3 S3 => ?_) (by simp)
  repeat walk_at "z"
  with_reducible refine newTup (by walk_at "as") (fun t4 s4 P4 hP4 ht4 S4 => ?_) (by simp)
  obtain ⟨P5, hP5, hl5, S5⟩ := S4.freezeL
  refine ⟨S5.K, ?_⟩
  refine cc0 (law_row (n := n + 1) (ds := [.int 1, .tuple [.str "sym", .str "a"]]) (td := .tuple [.str "nil"]) hl5 (.cons (.int _ _) (.cons (.tuple (ht2.mono (hP4.trans hP5)) (.cons (.str _ _) (.cons (.str _ _) .nil))) .nil)) (.tuple (ht4.mono hP5) (.cons (.str _ _) .nil)) (by simp)) (rho := [_]) S5 hA' ?_
  rintro v6 s6 P6 hP6 S6 hv6
  repeat walk_at "z"
  with_reducible refine newTup (by walk_at "as") (fun t7 s7 P7 hP7 ht7 S7 => ?_) (by simp)
  refine ⟨_, _, _, rfl, rfl, rfl, _, _, _, _, _, S7, fun s7' S7' => ?_⟩
  have r0 : P.le P7 := hP2.trans (hP4.trans (hP5.trans (hP6.trans hP7)))
  have hq : MV P7 v6 (mrow [.int 1, .sym "a"] .nil) := by
    unfold MV; rw [encM_row]; exact hv6.mono hP7
  have hr : MV P7 (.ref t7) .nil := .tuple ht7 (.cons (.str _ _) .nil)
  walk_at "ds"
  have hne : d ≠ sysModules := hd
  walk_at "z"
  rename_i s8 S8
  have other : ∀ {a : Addr} {w : Str} {u : Tok} {r : List Value}, v = .ref a → IsTp P7 a (.str w u :: r) → w ≠ "sym" → hole t = .call t → _ := fun {a w u r} e ht hw hh => (show wpAny c.M A' (execs (f_law_hole.body.drop 1) env) Qb Eb s8 from by
    subst e
    dsimp only [f_law_hole, fx_law_hole, List.drop]
    repeat walk_at "z"
    repeat walk_at "z"
    with_reducible refine eqSf hw ?_
    repeat walk_at "z"
    walk_at "nil"
    repeat walk_at "z"
    with_reducible refine newTup (by walk_at "as") (fun t9 s9 P9 hP9 ht9 S9 => ?_) (by simp)
    refine B.ret (r0.trans hP9) S9.drop ⟨rfl, ?_⟩
    rw [hh]
    exact .tuple ht9 (.cons (.str _ _) (.cons (h.mono (r0.trans hP9)) .nil)))
  cases t with
  | int i =>
    obtain ⟨u, rfl⟩ := Rd.intInv h
    repeat walk_at "z"
    walk_at "nil"
    repeat walk_at "z"
    exact B.ret r0 (St.drop (by walk_at "as")) ⟨rfl, .int _ _⟩
  | sym x =>
    obtain ⟨a, u1, u2, rfl, ht⟩ := TV.symInv h
    have ht' := ht.mono r0
    repeat walk_at "z"
    refine dMeth (St.dct (by walk_at "as") (.head _)) ?_
    refine bW2 ?_
    repeat walk_at "z"
    with_reducible refine newTup (by walk_at "as") (fun t9 s9 P9 hP9 ht9 S9 => ?_) (by simp)
    refine dGet S9 (S9.dct (.head _)) hne isS (fun s10 S10 => ?_)
    refine B.ret (r0.trans hP9) S10.drop ⟨rfl, ?_⟩
    rw [look3]
    unfold hole
    walk_at "ds"
    by_cases h1 : x = Str.ofString "p"
    · rw [if_pos h1, if_pos h1]; exact .int _ _
    · rw [if_neg h1, if_neg h1]
      by_cases h2 : x = Str.ofString "q"
      · rw [if_pos h2, if_pos h2]; exact hq.mono hP9
      · rw [if_neg h2, if_neg h2]
        by_cases h3 : x = Str.ofString "r"
        · rw [if_pos h3, if_pos h3]; exact hr.mono hP9
        · rw [if_neg h3, if_neg h3]
          exact .tuple ht9 (.cons (.str _ _) (.cons (h.mono (r0.trans hP9)) .nil))
  | nil =>
    obtain ⟨a, u, rfl, ht⟩ := TV.nilInv h
    exact other rfl (ht.mono r0) (by decide +kernel) rfl
  | vec ts =>
    obtain ⟨a, u, l, vs, rfl, ht, _, _⟩ := TV.vecInv h
    exact other rfl (ht.mono r0) (by decide +kernel) rfl
  | pair x y =>
    obtain ⟨a, u, p, q, rfl, ht, _, _⟩ := TV.pairInv h
    exact other rfl (ht.mono r0) (by decide +kernel) rfl
end
end TD4
section TD5
-- turned
theorem eqv_sym (w : Str) (t : Thing) : PyData.eqv (.tuple [.str "sym", .str w]) (enc t) = true ↔ t = .sym w := by
  constructor
  · intro h
    cases t with
    | sym s =>
      have h' : (w == s) = true := eqv_one (eqv_tag (a := "sym") (b := "sym") h).2
      rw [eq_of_beq h']
    | int i => exact absurd (show false = true from h) (by decide)
    | nil => exact absurd (eqv_tag (a := "sym") (b := "nil") h).1 (by decide +kernel)
    | vec ts => exact absurd (eqv_tag (a := "sym") (b := "vec") h).1 (by decide +kernel)
    | pair a d => exact absurd (eqv_tag (a := "sym") (b := "pair") h).1 (by decide +kernel)
  · rintro rfl
    show ((Str.ofString "sym" == Str.ofString "sym") && ((w == w) && true)) = true
    simp
noncomputable def wordOf (M : List Str) (t : Thing) : Str := match markOf M t with
  | some (w, _) => w
  | none => ""
theorem wordOf_np {M : List Str} {t : Thing} (h : ¬ ∃ x y, t = .pair x y) : wordOf M t = "" := by
  cases t with
  | pair => exact absurd ⟨_, _, rfl⟩ h
  | _ => rfl
theorem wordOf_np2 {M : List Str} {x t : Thing} (h : ¬ ∃ x y, t = .pair x y) : wordOf M (.pair x t) = "" := by
  cases x with
  | sym w =>
    cases t with
    | pair => exact absurd ⟨_, _, rfl⟩ h
    | _ => rfl
  | _ => rfl
section
variable {c : Cx} {P C : View} {L x dx : Addr} {m : Loc} {mu rho : Led} {s : Shared} {A : Around} {a b d : Value} {n : Nat}
theorem law_word {v : Value} {t : Thing} {ml : Addr} {mv : List Value} {M : List Str} (h : TV P v t) (ok : TOk t) (hm : IsLst P ml mv) (hM : RdAll P mv (M.map .str)) (hz : M.length ≤ 100) (hMs : ∀ w ∈ M, PyData.strOk w = true) :
    CallsC c (n + 3) 712 [v, .ref ml] P [] (fun P' mu' r => mu' = [] ∧ ∃ u, r = .str (wordOf M t) u) := by
  refine intro c.fx.is_law_word [("thing", v), ("marks", .ref ml)] (fun _ _ _ _ _ _ _ _ => BindsTo.of_eq rfl) (locs rfl) (by decide +kernel) ?_
  intro env A' L' C' s₁ Qb Eb hE hA' S' B
  dsimp only [f_law_word, fx_law_word, binds0] at *
  by_cases hpt : ∃ x y, t = .pair x y
  rotate_left
  · rw [wordOf_np hpt] at B
    rcases TV.tagged h with ⟨i, u, rfl⟩ | ⟨a, w, u, r, rfl, ht, hw, -⟩
    · repeat walk_at "z"
      exact B.ret (View.le.refl _) (by walk_at "as") ⟨rfl, ⟨_, rfl⟩⟩
    · repeat walk_at "z"
      with_reducible refine neSt (fun e => absurd (hw e) hpt) ?_
      repeat walk_at "z"
      exact B.ret (View.le.refl _) (by walk_at "as") ⟨rfl, ⟨_, rfl⟩⟩
  obtain ⟨x, y, rfl⟩ := hpt
  obtain ⟨a, u, p, q, rfl, ht, hp, hq⟩ := TV.pairInv h
  repeat walk_at "z"
  have okp := ok.pair
  refine compE hE (by rfl) (by decide +kernel) (by decide +kernel) rfl (by decide +kernel) hA'.handled ?_
  repeat walk_at "z"
  refine iterL (by walk_at "as") hm ?_
  intro it s4 hC W S4
  have hlen : mv.length = M.length := by have := hM.length; rwa [List.length_map] at this
  refine ⟨it, _, _, _, _, _, _, _, fun i P' mu' ys => mu' = [] ∧ RdAll P' ys ((M.take i).map fun w => .tuple [.str "sym", .str w]), rfl, S4, W, self_list, by lia, hC, ⟨rfl, .nil⟩, ?_, ?_⟩
  · intro i v P' mu' ys s' Lc m' C5 cenv E5 Eb5 hi hv hP hJ hEc hm' S5 hnext
    obtain ⟨rfl, hys⟩ := hJ
    obtain ⟨d, hd, hvd⟩ := hM.get hv
    rw [List.getElem?_map] at hd
    obtain ⟨w5, hw5, rfl⟩ := Option.map_eq_some_iff.mp hd
    obtain ⟨u5, rfl⟩ := hvd.strInv
    repeat walk_at "z"
    with_reducible refine newTup (by walk_at "as") (fun t6 s6 P6 hP6 ht6 S6 => ?_) (by simp)
    refine hnext hP6 ⟨rfl, ?_⟩ S6
    rw [List.take_add_one, List.map_append, hw5]
    exact (hys.mono hP6).snoc (.tuple ht6 (.cons (.str _ _) (.cons (.str _ _) .nil)))
  · intro D P' mu' ys s' hP hJ hl' S5
    obtain ⟨rfl, hys⟩ := hJ
    rw [hlen, List.take_length] at hys
    obtain ⟨P7, hP7, hl7, S7⟩ := S5.freezeL
    have hlay : ∀ M : List Str, (∀ w ∈ M, PyData.strOk w = true) → PyData.canLayAll0 (M.map fun w => PyData.tuple [.str "sym", .str w]) = true := by
      intro M
      induction M with
      | nil => intro _; rfl
      | cons w r ih =>
        intro h
        have e : PyData.strOk "sym" = true := by decide +kernel
        simp [PyData.canLayAll0, PyData.canLay0, e, h w (.head _), ih fun w' hw' => h w' (.tail _ hw')]
    have hdep : ∀ M : List Str, PyData.depthAll (M.map fun w => PyData.tuple [.str "sym", .str w]) ≤ 2 := by
      intro M
      induction M with
      | nil => decide
      | cons w r ih => simp only [List.map, PyData.depthAll, PyData.depth] at ih ⊢; lia
    refine notInR S7 (.list hl7 (hys.mono hP7)) (hp.mono (hP.trans hP7)) (hlay M hMs) okp.1 (by have := hA'.u (k := 8) (by lia); have := hdep M; lia) ?_
    repeat walk_at "z"
    have hany : (M.map fun w => PyData.tuple [.str "sym", .str w]).any (fun y => PyData.eqv y (enc x)) = true ↔ ∃ w ∈ M, x = .sym w := by
      rw [List.any_map, List.any_eq_true]
      constructor
      · rintro ⟨w, hw, e⟩; exact ⟨w, hw, (eqv_sym w x).mp e⟩
      · rintro ⟨w, hw, e⟩; exact ⟨w, hw, (eqv_sym w x).mpr e⟩
    by_cases hin : ∃ w ∈ M, x = .sym w
    · rw [hany.mpr hin]
      obtain ⟨w, hw, rfl⟩ := hin
      obtain ⟨a1, u1, u2, rfl, ht1⟩ := TV.symInv hp
      have ht' := ht.mono (hP.trans hP7)
      have ht1' := ht1.mono (hP.trans hP7)
      have hq' := hq.mono (hP.trans hP7)
      repeat walk_at "z"
      walk_at "nil"
      by_cases hpy : ∃ y1 y2, y = .pair y1 y2
      rotate_left
      · rw [wordOf_np2 hpy] at B
        rcases TV.tagged hq' with ⟨i, u3, rfl⟩ | ⟨a3, w3, u3, r3, rfl, ht3, hw3, -⟩
        · repeat walk_at "z"
          exact B.ret (hP.trans hP7) (by walk_at "as") ⟨rfl, ⟨_, rfl⟩⟩
        · repeat walk_at "z"
          with_reducible refine eqSf (fun e => absurd (hw3 e) hpy) ?_
          repeat walk_at "z"
          exact B.ret (hP.trans hP7) (by walk_at "as") ⟨rfl, ⟨_, rfl⟩⟩
      obtain ⟨y1, y2, rfl⟩ := hpy
      obtain ⟨a3, u3, p3, q3, rfl, ht3, hp3, hq3⟩ := TV.pairInv hq'
      repeat walk_at "z"
      with_reducible refine newTup (by walk_at "as") (fun t8 s8 P8 hP8 ht8 S8 => ?_) (by simp)
      refine eqR S8 (hq3.mono hP8) (.tuple ht8 (.cons (.str _ _) .nil)) okp.2.pair.2 (by decide +kernel) (by have := hA'.u (k := 2) (by lia); have := dnil; omega) ?_
      by_cases hn : y2 = .nil
      · subst hn
        have et : PyData.eqv (enc .nil) (.tuple [.str "nil"]) = true := by decide +kernel
        rw [et]
        have ht'' := ht'.mono hP8
        have ht1'' := ht1'.mono hP8
        repeat walk_at "z"
        refine B.ret ((hP.trans hP7).trans hP8) (by walk_at "as") ⟨rfl, ?_⟩
        have : wordOf M (.pair (.sym w) (.pair y1 .nil)) = w := by
          unfold wordOf markOf; simp only; rw [if_pos hw]
        rw [this]
        exact ⟨_, rfl⟩
      · rw [tnil_eqv_f hn]
        repeat walk_at "z"
        refine B.ret ((hP.trans hP7).trans hP8) (by walk_at "as") ⟨rfl, ?_⟩
        have : wordOf M (.pair (.sym w) (.pair y1 y2)) = "" := by
          unfold wordOf markOf
          cases y2 <;> first | rfl | exact absurd rfl hn
        rw [this]
        exact ⟨_, rfl⟩
    · have e : (M.map fun w => PyData.tuple [.str "sym", .str w]).any (fun y => PyData.eqv y (enc x)) = false := by
        rw [Bool.eq_false_iff]; exact fun h => hin (hany.mp h)
      rw [e]
      repeat walk_at "z"
      refine B.ret (hP.trans hP7) (by walk_at "as") ⟨rfl, ?_⟩
      have : wordOf M (.pair x y) = "" := by
        unfold wordOf markOf
        cases x with
        | sym w =>
          cases y with
          | pair y1 y2 =>
            cases y2 with
            | nil => simp only; rw [if_neg (fun h => hin ⟨w, h, rfl⟩)]
            | _ => rfl
          | _ => rfl
        | _ => rfl
      rw [this]
      exact ⟨_, rfl⟩
end
end TD5
section TD6
-- turned
section
variable {c : Cx} {P C : View} {L x dx : Addr} {m : Loc} {mu rho : Led} {s : Shared} {A : Around} {a b d : Value}
theorem frozens_row : ∀ ts : List Thing, frozens ts = mrow (ts.map frozen) .nil
  | [] => rfl
  | t :: r => by simp only [frozens, List.map, mrow, frozens_row r]
theorem szs_len : ∀ ts : List Thing, ts.length ≤ szs ts
  | [] => by simp [szs]
  | t :: r => by have := szs_len r; simp only [szs, List.length_cons]; lia
theorem szs_mem : ∀ {ts : List Thing} {t : Thing}, t ∈ ts → sz t < szs ts
  | _ :: r, t, h => by
    simp only [szs]
    rcases List.mem_cons.mp h with rfl | h
    · lia
    · have := szs_mem h; lia
noncomputable def LawFrozen (c : Cx) (k : Nat) : Prop := ∀ {P : View} {v : Value} {t : Thing}, sz t ≤ k → k ≤ 500 → TV P v t → CallsC c (k + 2) 743 [v] P [] (fun P' mu' r => mu' = [] ∧ MV P' r (frozen t))
theorem law_frozen (k : Nat) : LawFrozen c k := by
  induction k with
  | zero => intro P v t hk _ h; have := sz_pos t; omega
  | succ k ih =>
  intro P v t hk hk5 h
  refine intro c.fx.is_law_frozen [("thing", v)] (fun _ _ _ _ _ _ _ _ => BindsTo.of_eq rfl) (locs rfl) (by decide +kernel) ?_
  intro env A' L' C' s₁ Qb Eb hE hA' S' B
  dsimp only [f_law_frozen, fx_law_frozen, binds0] at *
  cases t with
  | int i =>
    obtain ⟨u, rfl⟩ := Rd.intInv h
    repeat walk_at "z"
    exact B.ret (View.le.refl _) (by walk_at "as") ⟨rfl, .int _ _⟩
  | sym x =>
    obtain ⟨a, u1, u2, rfl, ht⟩ := TV.symInv h
    repeat walk_at "z"
    walk_at "nil"
    repeat walk_at "z"
    walk_at "nil"
    repeat walk_at "z"
    walk_at "nil"
    repeat walk_at "z"
    exact B.ret (View.le.refl _) (by walk_at "as") ⟨rfl, h⟩
  | nil =>
    obtain ⟨a, u1, rfl, ht⟩ := TV.nilInv h
    repeat walk_at "z"
    walk_at "nil"
    repeat walk_at "z"
    walk_at "nil"
    repeat walk_at "z"
    walk_at "nil"
    repeat walk_at "z"
    exact B.ret (View.le.refl _) (by walk_at "as") ⟨rfl, h⟩
  | vec ts =>
    obtain ⟨a, u, l, vs, rfl, ht, hl, hr⟩ := TV.vecInv h
    have hsz : szs ts ≤ k := by simp only [sz] at hk; lia
    have hlen : vs.length ≤ 500 := by have := hr.length; rw [encs_map, List.length_map] at this; have := szs_len ts; lia
    repeat walk_at "z"
    walk_at "nil"
    repeat walk_at "z"
    walk_at "z c2"
    refine compE hE (by rfl) (by decide +kernel) (by decide +kernel) rfl (by decide +kernel) hA'.handled ?_
    repeat walk_at "z"
    refine iterL (by walk_at "as") hl ?_
    intro it s4 hC W S4
    refine ⟨it, _, _, _, _, _, _, _, fun i P' mu' ys => mu' = [] ∧ RdAll P' ys (((ts.map frozen).take i).map encM), rfl, S4, W, self_list, by lia, hC, ⟨rfl, .nil⟩, ?_, ?_⟩
    · intro i v P' mu' ys s' Lc m' C5 cenv E5 Eb5 hi hv hP hJ hEc hm' S5 hnext
      obtain ⟨rfl, hys⟩ := hJ
      obtain ⟨d, hd, hvd⟩ := hr.get hv
      rw [encs_map, List.getElem?_map] at hd
      obtain ⟨t5, ht5, rfl⟩ := Option.map_eq_some_iff.mp hd
      have hmem : t5 ∈ ts := List.mem_of_getElem? ht5
      have := szs_mem hmem
      walk_at "z c1"
      repeat walk_at "z"
      rename_i s7 S7
      refine ⟨St.K (by walk_at "as"), ?_⟩
      refine ccMn (ih (t := t5) (by lia) (by lia) (hvd.mono hP)) (by walk_at "as") (hA'.le (by walk_at "om")) ?_
      rintro v6 s6 P6 hP6 S6 hv6
      refine hnext hP6 ⟨rfl, ?_⟩ S6
      rw [List.take_add_one, List.map_append, List.getElem?_map, ht5]
      exact (hys.mono hP6).snoc hv6
    · intro D P' mu' ys s' hP hJ hl' S5
      obtain ⟨rfl, hys⟩ := hJ
      walk_at "ds"
      repeat walk_at "z"
      with_reducible refine newTup (by walk_at "as") (fun t6 s6 P6 hP6 ht6 S6 => ?_) (by simp)
      obtain ⟨P7, hP7, hl7, S7⟩ := S6.freezeL
      refine ⟨S7.K, ?_⟩
      have hys' : RdAll P7 ys ((ts.map frozen).map encM) := by
        have e : (ts.map frozen).take vs.length = ts.map frozen := by
          rw [hr.length, encs_map, List.length_map, ← List.length_map (f := frozen), List.take_length]
        rw [e] at hys
        exact hys.mono (hP6.trans hP7)
      refine cc0 (law_row (n := k) (td := .tuple [.str "nil"]) hl7 hys' (.tuple (ht6.mono hP7) (.cons (.str _ _) .nil)) (by lia)) (rho := []) S7 (hA'.le (by walk_at "om")) ?_
      rintro v8 s8 P8 hP8 S8 hv8
      with_reducible refine newTup S8 (fun t9 s9 P9 hP9 ht9 S9 => ?_) (by simp)
      refine B.ret (hP.trans (hP6.trans (hP7.trans (hP8.trans hP9)))) S9 ⟨rfl, ?_⟩
      simp only [frozen]
      refine Rd.tup2 ht9 (.str _ _) ?_
      rw [frozens_row, encM_row]
      exact hv8.mono hP9
  | pair x y =>
    obtain ⟨a, u, p, q, rfl, ht, hp, hq⟩ := TV.pairInv h
    simp only [sz] at hk
    repeat walk_at "z"
    walk_at "nil"
    repeat walk_at "z"
    walk_at "nil"
    repeat walk_at "z"
    walk_at "z c1"
    repeat walk_at "z"
    refine ⟨St.K (by walk_at "as"), ?_⟩
    refine cc0 (ih (t := x) (by lia) (by lia) hp) (rho := []) (by walk_at "as") (hA'.le (by walk_at "om")) ?_
    rintro v6 s6 P6 hP6 S6 hv6
    have ht6 := ht.mono hP6
    walk_at "z c1"
    repeat walk_at "z"
    refine ⟨St.K (by walk_at "as"), ?_⟩
    refine cc0 (ih (t := y) (by lia) (by lia) (hq.mono hP6)) (rho := []) (by walk_at "as") (hA'.le (by walk_at "om")) ?_
    rintro v8 s8 P8 hP8 S8 hv8
    with_reducible refine newTup S8 (fun t9 s9 P9 hP9 ht9 S9 => ?_) (by simp)
    exact B.ret (hP6.trans (hP8.trans hP9)) S9 ⟨rfl, Rd.tup3 ht9 (.str _ _) (hv6.mono (hP8.trans hP9)) (hv8.mono hP9)⟩
end
end TD6
section TD7
-- turned
noncomputable def OMV (P : View) (v : Value) : Option Mean → Prop
  | none => v = .none
  | some m => MV P v m
theorem OMV.mono {P P' : View} {v : Value} {o : Option Mean} (h : OMV P v o) (k : P.le P') : OMV P' v o := by
  cases o with
  | none => exact h
  | some m => exact Rd.mono k h
structure MkV (P : View) (ml : Addr) (M : List Str) : Prop where
  at_ : Ex1 fun mv => IsLst P ml mv ∧ RdAll P mv (M.map .str)
  few : M.length ≤ 100
  ok : ∀ w ∈ M, PyData.strOk w = true
  marks : MarksOk M
theorem MkV.mono {P P' : View} {ml : Addr} {M : List Str} (h : MkV P ml M) (k : P.le P') : MkV P' ml M := let ⟨mv, a, b⟩ := h.at_; ⟨⟨mv, a.mono k, b.mono k⟩, h.few, h.ok, h.marks⟩
theorem law_word' {c : Cx} {P : View} {v : Value} {t : Thing} {ml : Addr} {M : List Str} {n : Nat} (h : TV P v t) (ok : TOk t) (hm : MkV P ml M) : CallsC c (n + 3) 712 [v, .ref ml] P [] (fun P' mu' r => mu' = [] ∧ ∃ u, r = .str (wordOf M t) u) :=
  let ⟨_, a, b⟩ := hm.at_; law_word h ok a b hm.few hm.ok
theorem wordOf_none {M : List Str} {t : Thing} (h : markOf M t = none) : wordOf M t = "" := by unfold wordOf; rw [h]
theorem wordOf_some {M : List Str} {t x : Thing} {w : Str} (h : markOf M t = some (w, x)) : wordOf M t = w := by unfold wordOf; rw [h]
/-- what the hole's meaning is worth -/
noncomputable def LMeans (c : Cx) (k : Nat) : Prop := ∀ {P : View} {v : Value} {t : Thing} {l : Nat} {u : Tok} {ml : Addr} {M : List Str}, sz t ≤ k → k ≤ 200 → TV P v t → TOk t → 1 ≤ l → MkV P ml M →
  CallsC c (3 * k + 6) 719 [v, .int l u, .ref ml] P [] (fun P' mu' r => mu' = [] ∧ OMV P' r (means M l t))
theorem msz_hole (x : Thing) : msz (hole x) ≤ 10 + sz x := by
  have := sz_pos x
  unfold hole
  split
  · simp only [msz]; lia
  · split
    · simp only [msz]; omega
    · split
      · simp only [msz, mrow]; lia
      · split <;> simp only [msz] <;> lia
  · simp only [msz]; lia
theorem MV.shape {P : View} {v : Value} {m : Mean} (h : MV P v m) : (Ex2 fun i u => v = .int i u) ∨ ∃ a, v = .ref a := by
  cases m with
  | int i => obtain ⟨u, rfl⟩ := Rd.intInv h; exact .inl ⟨_, _, rfl⟩
  | _ => obtain ⟨a, _, rfl, _⟩ := Rd.tupleInv h; exact .inr ⟨_, rfl⟩
theorem isNoneM {c : Cx} {P : View} {v : Value} {m : Mean} {A : Around} {E : Value → Shared → Prop} {Q : Value → Shared → Prop} {s : Shared} (hv : MV P v m) (h : Q (.bool false) s) : wpAny c.M A (compareOp .Is v .none) Q E s := by
  rcases hv.shape with ⟨i, u, rfl⟩ | ⟨a, rfl⟩
  · exact isNoneI h
  · exact isNoneR h
theorem MOk_hole {x : Thing} (h : TOk x) : MOk (hole x) := by
  unfold hole
  split
  · rfl
  · split
    · decide +kernel
    · split
      · decide +kernel
      · split
        · decide +kernel
        · unfold MOk TOk at *
          simp only [encM, PyData.canLay0, PyData.canLayAll0, Bool.and_eq_true, Bool.and_true]
          exact ⟨by decide +kernel, h⟩
  · unfold MOk TOk at *
    simp only [encM, PyData.canLay0, PyData.canLayAll0, Bool.and_eq_true, Bool.and_true]
    exact ⟨by decide +kernel, h⟩
section
variable {c : Cx} {P C : View} {L x dx : Addr} {m : Loc} {mu rho : Led} {s : Shared} {A : Around} {a b d : Value}
theorem law_next {k : Nat} (ih : LMeans c k) {P : View} {iv rv : Value} {t : Thing} {rm : Option Mean} {l : Nat} {u : Tok} {ml : Addr} {M : List Str} (hk : sz t ≤ k) (hk2 : k ≤ 200) (ht : TV P iv t) (ok : TOk t) (hr : OMV P rv rm) (hl : 1 ≤ l) (hm : MkV P ml M) :
    CallsC c (3 * k + 7) 726 [iv, rv, .int l u, .ref ml] P [] (fun P' mu' r => mu' = [] ∧ OMV P' r (nextM M l t rm)) := by
  refine intro c.fx.is_law_next [("item", iv), ("rest", rv), ("level", .int l u), ("marks", .ref ml)] (fun _ _ _ _ _ _ _ _ => BindsTo.of_eq rfl) (locs rfl) (by decide +kernel) ?_
  intro env A' L' C' s₁ Qb Eb hE hA' S' B
  dsimp only [f_law_next, fx_law_next, binds0] at *
  cases rm with
  | none =>
    obtain rfl : rv = .none := hr
    repeat walk_at "z"
    exact B.ret (View.le.refl _) S' ⟨rfl, rfl⟩
  | some rm =>
    replace hr : MV P rv rm := hr
    -- without a splice
    have plain : ∀ s2 P2 , P.le P2 → St c P2 C' L' (upd (upd (upd (upd noLoc "item" iv) "rest" rv) "level" (.int l u)) "marks" (.ref ml)) [] s2 → nextM M l t (some rm) = (means M l t).map (fun o => .pair o rm) →
        wpAny c.M A' (execs (f_law_next.body.drop 2) env) Qb Eb s2 := by
      intro s2 P2 hP2 S2 he
      dsimp only [f_law_next, fx_law_next, List.drop]
      repeat walk_at "z"
      walk_at "z c3"
      repeat walk_at "z"
      refine ⟨S2.K, ?_⟩
      refine cc0 (ih hk hk2 (ht.mono hP2) ok hl (hm.mono hP2)) (rho := []) S2 (hA'.le (by walk_at "om")) ?_
      rintro v6 s6 P6 hP6 S6 hv6
      repeat walk_at "z"
      cases hmm : means M l t with
      | none =>
        rw [hmm] at hv6 he
        obtain rfl : v6 = .none := hv6
        repeat walk_at "z"
        exact B.ret (hP2.trans hP6) (by walk_at "as") ⟨rfl, by rw [he]; rfl⟩
      | some mm =>
        rw [hmm] at hv6 he
        replace hv6 : MV P6 v6 mm := hv6
        with_reducible refine isNoneM hv6 ?_
        repeat walk_at "z"
        with_reducible refine newTup (by walk_at "as") (fun t9 s9 P9 hP9 ht9 S9 => ?_) (by simp)
        refine B.ret (hP2.trans (hP6.trans hP9)) S9 ⟨rfl, ?_⟩
        rw [he]
        exact Rd.tup3 ht9 (.str _ _) (hv6.mono hP9) (hr.mono (hP2.trans (hP6.trans hP9)))
    repeat walk_at "z"
    with_reducible refine isNoneM hr ?_
    repeat walk_at "z"
    walk_at "nil"
    repeat walk_at "z"
    with_reducible refine eqI ?_
    repeat walk_at "z"
    by_cases h1 : l = 1
    · have e : decide ((l : Int) = 1) = true := decide_eq_true (by lia)
      rw [e]
      repeat walk_at "z"
      walk_at "z c2"
      repeat walk_at "z"
      refine ⟨St.K (by walk_at "as"), ?_⟩
      refine cc0 (law_word' (n := 3 * k + 3) ht ok hm) (rho := []) (by walk_at "as") (hA'.le (by walk_at "om")) ?_
      rintro v6 s6 P6 hP6 S6 ⟨u6, rfl⟩
      repeat walk_at "z"
      with_reducible refine eqS ?_
      by_cases hw : wordOf M t = Str.ofString "unquote-splicing"
      · first | with_reducible refine boT (decide_eq_true hw) ?_ | with_reducible refine bnT (decide_eq_true hw) ?_ | rw [decide_eq_true hw]
        cases hmk : markOf M t with
        | none =>
          rw [wordOf_none hmk] at hw
          exact absurd hw (by decide +kernel)
        | some wx =>
          obtain ⟨w, y⟩ := wx
          rw [wordOf_some hmk] at hw
          obtain ⟨rfl, hwM⟩ := markOf_some hmk
          subst hw
          have hn : nextM M l (.pair (.sym (Str.ofString "unquote-splicing")) (.pair y .nil)) (some rm) = some (joined (hole y) rm) := by
            unfold nextM
            rw [if_pos h1, hmk]
            rfl
          obtain ⟨a1, u1, p1, q1, rfl, ht1, _, hq1⟩ := TV.pairInv (Rd.mono hP6 ht)
          obtain ⟨a2, u2, p2, q2, rfl, ht2, hp2, _⟩ := TV.pairInv hq1
          have hky : sz y ≤ 198 := by simp only [sz] at hk; lia
          repeat walk_at "z"
          walk_at "z c2"
          walk_at "z c1"
          repeat walk_at "z"
          refine ⟨St.K (by walk_at "as"), ?_⟩
          refine cc0 (law_hole (n := 3 * k + 3) hp2) (rho := []) (by walk_at "as") (hA'.le (by walk_at "om")) ?_
          rintro v8 s8 P8 hP8 S8 hv8
          repeat walk_at "z"
          refine ⟨S8.K, ?_⟩
          refine cc0 (law_joined (n := 3 * k + 3) hv8 (hr.mono (hP6.trans hP8)) (MOk_hole ok.pair.2.pair.1) (by have := msz_hole y; lia)) (rho := []) S8 (hA'.le (by walk_at "om")) ?_
          rintro v9 s9 P9 hP9 S9 hv9
          exact B.ret (hP6.trans (hP8.trans hP9)) S9 ⟨rfl, by rw [hn]; exact hv9⟩
      · first | with_reducible refine boF (decide_eq_false hw) ?_ | with_reducible refine bnF (decide_eq_false hw) ?_ | rw [decide_eq_false hw]
        repeat walk_at "z"
        walk_at "nil"
        refine plain _ _ hP6 (by walk_at "as") ?_
        unfold nextM
        rw [if_pos h1]
        cases hmk : markOf M t with
        | none => rfl
        | some wx =>
          obtain ⟨w, y⟩ := wx
          rw [wordOf_some hmk] at hw
          simp only
          rw [if_neg (show ¬ w = wS from hw)]
    · have e : decide ((l : Int) = 1) = false := decide_eq_false (by lia)
      rw [e]
      repeat walk_at "z"
      walk_at "nil"
      refine plain _ _ (View.le.refl _) (by walk_at "as") ?_
      unfold nextM
      rw [if_neg h1]
end
end TD7
section TD8
-- turned
section
variable {c : Cx} {P C : View} {L x dx : Addr} {m : Loc} {mu rho : Led} {s : Shared} {A : Around} {a b d : Value}
/-- the vector's row from its end on -/
noncomputable def vecM (M : List Str) (l : Nat) : List Thing → Option Mean
  | [] => some .nil
  | t :: r => vecM M l r |> nextM M l t
theorem vecM_eq (M : List Str) (l : Nat) : ∀ ts : List Thing, vecM M l ts = meansV M l ts
  | [] => by simp [vecM, meansV]
  | t :: r => by
    rw [vecM, vecM_eq M l r, meansV]
    unfold nextM
    cases meansV M l r with
    | none => rfl
    | some rm => rfl
theorem TOk.mem : ∀ {ts : List Thing} {t : Thing}, PyData.canLayAll0 (encs ts) = true → t ∈ ts → TOk t
  | _ :: r, t, h, hm => by
    simp only [encs, PyData.canLayAll0, Bool.and_eq_true] at h
    rcases List.mem_cons.mp hm with rfl | hm
    · exact h.1
    · exact TOk.mem h.2 hm
theorem vecM_step (M : List Str) (l : Nat) (ts : List Thing) {i : Nat} {t : Thing} (h : ts.reverse[i]? = some t) : vecM M l ((ts.reverse.take (i + 1)).reverse) = nextM M l t (vecM M l ((ts.reverse.take i).reverse)) := by
  rw [List.take_add_one, h]
  simp [vecM]
theorem law_vector {k : Nat} (ih : LMeans c k) {P : View} {al : Addr} {vs : List Value} {ts : List Thing} {l : Nat} {u : Tok} {ml : Addr} {M : List Str} (hk : ∀ t ∈ ts, sz t ≤ k) (hk2 : k ≤ 200) (hn : ts.length ≤ 500) (hal : IsLst P al vs) (hr : RdAll P vs (encs ts))
    (ok : PyData.canLayAll0 (encs ts) = true) (hl : 1 ≤ l) (hm : MkV P ml M) :
    CallsC c (3 * k + 8) 733 [.ref al, .int l u, .ref ml] P [] (fun P' mu' r => mu' = [] ∧ OMV P' r (meansV M l ts)) := by
  refine intro c.fx.is_law_vector [("items", .ref al), ("level", .int l u), ("marks", .ref ml)] (fun _ _ _ _ _ _ _ _ => BindsTo.of_eq rfl) (locs rfl) (by decide +kernel) ?_
  intro env A' L' C' s₁ Qb Eb hE hA' S' B
  dsimp only [f_law_vector, fx_law_vector, binds0] at *
  have hvl : vs.length = ts.length := by have := hr.length; rwa [encs_map, List.length_map] at this
  repeat walk_at "z"
  with_reducible refine newTup (by walk_at "as") (fun t2 s2 P2 hP2 ht2 S2 => ?_) (by simp)
  repeat walk_at "z"
  refine wpAny_For ?_
  repeat walk_at "z"
  rename_i sl s3 P3 hP3 hsl S3
  refine sliceT S3 (S3.lstP (hal.mono (hP2.trans hP3))) hsl .none .none (.int _ _) (by decide) (krv_pick _) ?_ (by lia)
  intro D s4 _ S4
  obtain ⟨P5, hP5, hD, S5⟩ := S4.freezeL
  have h05 := hP2.trans (hP3.trans hP5)
  refine iterL S5 (xs := vs.reverse) hD ?_
  intro it s6 hC W S6
  refine forS S6 hE (by decide +kernel) hA'.handled hC W (fun i P' m' mu' => mu' = [] ∧ m' "level" = some (.int l u) ∧ m' "marks" = some (.ref ml) ∧ Ex1 fun fv => m' "found" = some fv ∧ OMV P' fv (vecM M l ((ts.reverse.take i).reverse))) ?_ ?_ ?_
  · refine ⟨rfl, by walk_at "z lk", by walk_at "z lk", _, by walk_at "z lk", ?_⟩
    simp only [List.take_zero, List.reverse_nil, vecM]
    exact .tuple (ht2.mono (hP3.trans hP5)) (.cons (.str _ _) .nil)
  · intro i v P' m' mu' s7 C7 E E2 hi hv hP hC7 hJ S7 hnext hret herr
    obtain ⟨rfl, e1, e2, fv, hf, hfr⟩ := hJ
    obtain ⟨d, hd, hvd⟩ := hr.reverse.get hv
    rw [encs_map, ← List.map_reverse, List.getElem?_map] at hd
    obtain ⟨t, ht, rfl⟩ := Option.map_eq_some_iff.mp hd
    have hmem : t ∈ ts := List.mem_reverse.mp (List.mem_of_getElem? ht)
    have e0 : upd m' (Str.ofString "item") v (Str.ofString "item") = some v := upd_same
    repeat walk_at "z"
    walk_at "z c4"
    repeat walk_at "z"
    refine ⟨S7.K, ?_⟩
    refine cc0 (law_next ih (hk t hmem) hk2 (hvd.mono (h05.trans hP)) (TOk.mem ok hmem) hfr hl (hm.mono (h05.trans hP))) (rho := []) S7 (hA'.le (by walk_at "om")) ?_
    rintro v8 s8 P8 hP8 S8 hv8
    repeat walk_at "z"
    walk_at "nil"
    rename_i s9 S9
    refine hnext hP8 ⟨rfl, by walk_at "z lk", by walk_at "z lk", v8, by walk_at "z lk", ?_⟩ S9
    rw [vecM_step M l ts ht]
    exact hv8
  · intro P' m' mu' s7 hP hJ S7
    obtain ⟨rfl, _, _, fv, hf, hfr⟩ := hJ
    walk_at "ds"
    repeat walk_at "z"
    refine B.ret (h05.trans hP) S7 ⟨rfl, ?_⟩
    have e : (ts.reverse.take vs.reverse.length).reverse = ts := by
      rw [List.length_reverse, hvl, ← List.length_reverse (as := ts), List.take_length, List.reverse_reverse]
    rw [e, vecM_eq] at hfr
    exact hfr
end
end TD8
section TD9
-- turned
section
variable {c : Cx} {P C : View} {L x dx : Addr} {m : Loc} {mu rho : Led} {s : Shared} {A : Around} {a b d : Value}
theorem law_means (k : Nat) : LMeans c k := by
  induction k with
  | zero => intro P v t l u ml M hk; have := sz_pos t; omega
  | succ k ih =>
  intro P v t l u ml M hk hk2 h ok hl hm
  refine intro c.fx.is_law_means [("thing", v), ("level", .int l u), ("marks", .ref ml)] (fun _ _ _ _ _ _ _ _ => BindsTo.of_eq rfl) (locs rfl) (by decide +kernel) ?_
  intro env A' L' C' s₁ Qb Eb hE hA' S' B
  dsimp only [f_law_means, fx_law_means, binds0] at *
  cases t with
  | int i =>
    obtain ⟨u, rfl⟩ := Rd.intInv h
    repeat walk_at "z"
    walk_at "nil"
    repeat walk_at "z"
    exact B.ret (View.le.refl _) (by walk_at "as") ⟨rfl, by unfold means; exact h⟩
  | sym x =>
    obtain ⟨a, u1, u2, rfl, ht⟩ := TV.symInv h
    repeat walk_at "z"
    walk_at "nil"
    repeat walk_at "z"
    exact B.ret (View.le.refl _) (by walk_at "as") ⟨rfl, by unfold means; exact h⟩
  | nil =>
    obtain ⟨a, u, rfl, ht⟩ := TV.nilInv h
    repeat walk_at "z"
    walk_at "nil"
    repeat walk_at "z"
    exact B.ret (View.le.refl _) (by walk_at "as") ⟨rfl, by unfold means; exact h⟩
  | vec ts =>
    obtain ⟨a, u3, la, vs, rfl, ht, hla, hr⟩ := TV.vecInv h
    have hsz : szs ts ≤ k := by simp only [sz] at hk; lia
    repeat walk_at "z"
    walk_at "z c3"
    repeat walk_at "z"
    refine ⟨St.K (by walk_at "as"), ?_⟩
    refine cc0 (law_vector ih (fun t ht => by have := szs_mem ht; lia) (by lia) (by have := szs_len ts; lia) hla hr ok.vec hl hm) (rho := []) (by walk_at "as") (hA'.le (by walk_at "om")) ?_
    rintro v6 s6 P6 hP6 S6 hv6
    repeat walk_at "z"
    cases hmm : meansV M l ts with
    | none =>
      rw [hmm] at hv6
      obtain rfl : v6 = .none := hv6
      repeat walk_at "z"
      exact B.ret hP6 (by walk_at "as") ⟨rfl, by unfold means; rw [hmm]; rfl⟩
    | some mm =>
      rw [hmm] at hv6
      replace hv6 : MV P6 v6 mm := hv6
      with_reducible refine isNoneM hv6 ?_
      repeat walk_at "z"
      with_reducible refine newTup (by walk_at "as") (fun t9 s9 P9 hP9 ht9 S9 => ?_) (by simp)
      refine B.ret (hP6.trans hP9) S9 ⟨rfl, ?_⟩
      unfold means
      rw [hmm]
      exact Rd.tup2 ht9 (.str _ _) (hv6.mono hP9)
  | pair x y =>
    obtain ⟨a, u3, p, q, rfl, ht, hp, hq⟩ := TV.pairInv h
    have hkx : sz x ≤ k ∧ sz y ≤ k := by simp only [sz] at hk; lia
    repeat walk_at "z"
    walk_at "nil"
    repeat walk_at "z"
    walk_at "nil"
    repeat walk_at "z"
    walk_at "z c2"
    repeat walk_at "z"
    refine ⟨St.K (by walk_at "as"), ?_⟩
    refine cc0 (law_word' (n := 3 * k + 3) h ok hm) (rho := []) (by walk_at "as") (hA'.le (by walk_at "om")) ?_
    rintro v6 s6 P6 hP6 S6 ⟨u6, rfl⟩
    have ht6 := ht.mono hP6
    have hp6 := hp.mono hP6
    have hq6 := hq.mono hP6
    have hm6 := hm.mono hP6
    cases hmk : markOf M (.pair x y) with
    | none =>
      rw [wordOf_none hmk]
      repeat walk_at "z"
      walk_at "nil"
      repeat walk_at "z"
      walk_at "nil"
      repeat walk_at "z"
      walk_at "z c4"
      repeat walk_at "z"
      walk_at "z c3"
      repeat walk_at "z"
      refine ⟨St.K (by walk_at "as"), ?_⟩
      refine cc0 (ih hkx.2 (by lia) hq6 ok.pair.2 hl hm6) (rho := []) (by walk_at "as") (hA'.le (by walk_at "om")) ?_
      rintro v8 s8 P8 hP8 S8 hv8
      repeat walk_at "z"
      refine ⟨S8.K, ?_⟩
      refine cc0 (law_next ih hkx.1 (by lia) (hp6.mono hP8) ok.pair.1 hv8 hl (hm6.mono hP8)) (rho := []) S8 (hA'.le (by walk_at "om")) ?_
      rintro v9 s9 P9 hP9 S9 hv9
      refine B.ret (hP6.trans (hP8.trans hP9)) S9 ⟨rfl, ?_⟩
      have e : means M l (.pair x y) = nextM M l x (means M l y) := by
        rw [means, hmk]
        unfold nextM
        cases means M l y <;> rfl
      rw [e]
      exact hv9
    | some wx =>
      obtain ⟨w, z⟩ := wx
      rw [wordOf_some hmk]
      obtain ⟨e0, hwM⟩ := markOf_some hmk
      cases e0
      -- the second if
      have deep : ∀ s7 u7, St c P6 C' L' (upd (upd (upd (upd noLoc "thing" (.ref a)) "level" (.int l u)) "marks" (.ref ml)) "word" (.str w u7)) [] s7 → ¬ (l = 1 ∧ w ≠ wQ) → wpAny c.M A' (execs (f_law_means.body.drop 4) env) Qb Eb s7 := by
        intro s7 u7 S7 hlw
        have hw0 : w ≠ "" := by rcases hm.marks w hwM with rfl | rfl | rfl <;> decide +kernel
        dsimp only [f_law_means, fx_law_means, List.drop]
        repeat walk_at "z"
        with_reducible refine neSt hw0 ?_
        repeat walk_at "z"
        walk_at "z c3"
        walk_at "z"
        have e : means M l (.pair (.sym w) (.pair z .nil)) = (means M (up w l) (.pair z .nil)).map (.pair (.sym w)) := by
          rw [means, hmk]; simp only; rw [if_neg hlw]
        have hup1 : 1 ≤ up w l := by
          unfold up
          split
          · lia
          · rename_i hwq
            have : l ≠ 1 := fun h => hlw ⟨h, hwq⟩
            omega
        refine wpAny_mono (Q := fun v s' => Ex1 fun t => v = .int ((up w l : Nat) : Int) t ∧ St c P6 C' L' (upd (upd (upd (upd noLoc "thing" (.ref a)) "level" (.int l u)) "marks" (.ref ml)) "word" (.str w u7)) [] s') ?_ (fun v8 s8 h8 => ?_) (fun _ _ e => e)
        · refine eIe ?_
          repeat walk_at "z"
          with_reducible refine eqS ?_
          by_cases hwq : w = Str.ofString "quasiquote"
          · have hup : ((l : Int) + 1) = ((up w l : Nat) : Int) := by unfold up; rw [if_pos (show w = wQ from hwq)]; lia
            first | with_reducible refine boT (decide_eq_true hwq) ?_ | with_reducible refine bnT (decide_eq_true hwq) ?_ | rw [decide_eq_true hwq]
            repeat walk_at "z"
            exact ⟨_, by rw [hup], by walk_at "as"⟩
          · have hup : ((l : Int) - 1) = ((up w l : Nat) : Int) := by unfold up; rw [if_neg (show ¬ w = wQ from hwq)]; lia
            first | with_reducible refine boF (decide_eq_false hwq) ?_ | with_reducible refine bnF (decide_eq_false hwq) ?_ | rw [decide_eq_false hwq]
            repeat walk_at "z"
            exact ⟨_, by rw [hup], by walk_at "as"⟩
        obtain ⟨t8, rfl, S8⟩ := h8
        repeat walk_at "z"
        refine ⟨S8.K, ?_⟩
        refine cc0 (ih hkx.2 (by lia) hq6 ok.pair.2 hup1 hm6) (rho := []) S8 (hA'.le (by walk_at "om")) ?_
        rintro v9 s9 P9 hP9 S9 hv9
        have ht9 := ht6.mono hP9
        repeat walk_at "z"
        cases hmm : means M (up w l) (.pair z .nil) with
        | none =>
          rw [hmm] at hv9 e
          obtain rfl : v9 = .none := hv9
          repeat walk_at "z"
          exact B.ret (hP6.trans hP9) (by walk_at "as") ⟨rfl, by rw [e]; rfl⟩
        | some mm =>
          rw [hmm] at hv9 e
          replace hv9 : MV P9 v9 mm := hv9
          with_reducible refine isNoneM hv9 ?_
          repeat walk_at "z"
          with_reducible refine newTup (by walk_at "as") (fun t10 s10 P10 hP10 ht10 S10 => ?_) (by simp)
          refine B.ret (hP6.trans (hP9.trans hP10)) S10 ⟨rfl, ?_⟩
          rw [e]
          exact Rd.tup3 ht10 (.str _ _) (hp.mono (hP6.trans (hP9.trans hP10))) (hv9.mono hP10)
      have hw0 : w ≠ "" := by rcases hm.marks w hwM with rfl | rfl | rfl <;> decide +kernel
      repeat walk_at "z"
      with_reducible refine neSt hw0 ?_
      repeat walk_at "z"
      with_reducible refine eqI ?_
      by_cases h1 : l = 1
      · have e : decide ((l : Int) = 1) = true := decide_eq_true (by lia)
        rw [e]
        repeat walk_at "z"
        with_reducible refine neS ?_
        by_cases hwq : w = Str.ofString "quasiquote"
        · first | with_reducible refine boT (decide_eq_true hwq) ?_ | with_reducible refine bnT (decide_eq_true hwq) ?_ | rw [decide_eq_true hwq]
          repeat walk_at "z"
          walk_at "nil"
          exact deep _ _ (by walk_at "as") (fun h => h.2 hwq)
        · first | with_reducible refine boF (decide_eq_false hwq) ?_ | with_reducible refine bnF (decide_eq_false hwq) ?_ | rw [decide_eq_false hwq]
          repeat walk_at "z"
          with_reducible refine eqS ?_
          have e2 : means M l (.pair (.sym w) (.pair z .nil)) = if w = wU then some (hole z) else none := by
            rw [means, hmk]; simp only; rw [if_pos ⟨h1, hwq⟩]
          by_cases hwu : w = Str.ofString "unquote"
          · first | with_reducible refine boT (decide_eq_true hwu) ?_ | with_reducible refine bnT (decide_eq_true hwu) ?_ | rw [decide_eq_true hwu]
            rw [if_pos (show w = wU from hwu)] at e2
            obtain ⟨a2, u2, p2, q2, rfl, ht2, hp2, _⟩ := TV.pairInv hq6
            repeat walk_at "z"
            walk_at "z c1"
            repeat walk_at "z"
            refine ⟨St.K (by walk_at "as"), ?_⟩
            refine cc0 (law_hole (n := 3 * k + 3) hp2) (rho := []) (by walk_at "as") (hA'.le (by walk_at "om")) ?_
            rintro v8 s8 P8 hP8 S8 hv8
            exact B.ret (hP6.trans hP8) S8 ⟨rfl, by rw [e2]; exact hv8⟩
          · first | with_reducible refine boF (decide_eq_false hwu) ?_ | with_reducible refine bnF (decide_eq_false hwu) ?_ | rw [decide_eq_false hwu]
            rw [if_neg (show ¬ w = wU from hwu)] at e2
            repeat walk_at "z"
            exact B.ret hP6 (by walk_at "as") ⟨rfl, by rw [e2]; rfl⟩
      · have e : decide ((l : Int) = 1) = false := decide_eq_false (by lia)
        rw [e]
        repeat walk_at "z"
        walk_at "nil"
        exact deep _ _ (by walk_at "as") (fun h => h1 h.1)
end
end TD9
section TG2
-- turned
theorem size_down (n : Nat) : Builtin.Range.rangeSize ((n : Int) - 1) (-1) (-1) = n := by
  unfold Builtin.Range.rangeSize
  rw [if_neg (by decide), show (-(-1) : Int) = 1 from rfl, Int.ediv_one]
  split <;> lia
theorem small_down {n : Int} (h0 : -1 ≤ n) (hz : n ≤ 10000) : Builtin.Range.small n (-1) (-1) = true := by
  have e : Builtin.Range.rangeSize n (-1) (-1) = n + 1 := by
    unfold Builtin.Range.rangeSize
    rw [if_neg (by decide), show (-(-1) : Int) = 1 from rfl, Int.ediv_one]
    split <;> lia
  unfold Builtin.Range.small
  rw [e]
  have f : ∀ k : Int, -100000 ≤ k → k ≤ 100000 → Builtin.Range.rangeFitsLong k = true := fun k h1 h2 => by
    unfold Builtin.Range.rangeFitsLong
    simp; lia
  rw [f n (by lia) (by omega), f (-1) (by lia) (by lia), f (n + 1) (by lia) (by lia)]
  simp
  right
  exact f _ (by lia) (by lia)
/-- pairs laid on one another -/
inductive RowV (w : World) (P : View) : Value → List Value → Value → Prop
  | nil (v) : RowV w P v [] v
  | cons {a x r vs t} : Inst w P a 146 [("car", x), ("cdr", r)] → RowV w P r vs t → RowV w P (.ref a) (x :: vs) t
theorem RowV.consInv {w : World} {P : View} {v x t : Value} {vs : List Value} (h : RowV w P v (x :: vs) t) : Ex2 fun a r => And3 (v = .ref a) (Inst w P a 146 [("car", x), ("cdr", r)]) (RowV w P r vs t) := by
  cases h with
  | cons I r => exact ⟨_, _, rfl, I, r⟩
theorem RowV.mono {w : World} {P P' : View} (k : P.le P') {v t : Value} {vs : List Value} (h : RowV w P v vs t) : RowV w P' v vs t := by
  induction h with
  | nil v => exact .nil v
  | cons a _ ih => exact .cons (a.mono k) ih
section
variable {c : Cx} {P C : View} {L x dx : Addr} {m : Loc} {mu rho : Led} {s : Shared} {A : Around} {a b d : Value} {n : Nat}
theorem list_of_any {l : Addr} {vs : List Value} {tv : Value} {args : List Value} (hb : ∀ s, c.K.In s.heap → ∀ a b e f g h i, BindsTo s (f_list_of.data a b e f g h i) ⟨args, []⟩ [("things", .ref l), ("tail", tv)]) (hl : IsLst P l vs) (hz : vs.length ≤ 1000) :
    CallsC c (n + 3) 179 args P [] (fun P' mu' v => mu' = [] ∧ RowV c.w P' v vs tv) := by
  refine introK c.fx.is_list_of [("things", .ref l), ("tail", tv)] hb (locs rfl) (by decide +kernel) ?_
  intro env A' L' C' s₁ Qb Eb hE hA' S' B
  dsimp only [f_list_of, fx_list_of, binds0] at *
  repeat walk_at "z"
  refine wpAny_For ?_
  refine cRange (by walk_at "as") hE (by decide +kernel) ?_
  refine tW3 ?_
  repeat walk_at "z"
  refine cB1 (by walk_at "as") hE (by decide +kernel) c.fx.b_len boot_len ?_
  repeat walk_at "z"
  refine lenL (by walk_at "as") (St.lstP (by walk_at "as") hl) (by lia) (fun t2 s2 S2 => ?_)
  repeat walk_at "z"
  refine rangeD (by lia) (by lia) (by walk_at "as") (fun r s3 S3 => ?_)
  refine iterR (n := vs.length) S3 (View.add_self _ _ _) ?_ ?_ ?_
  · exact small_down (by lia) (by lia)
  · exact size_down _
  intro it s4 hC W S4
  refine forS S4 hE (by decide +kernel) hA'.handled hC W (fun i P' m' mu' => mu' = [] ∧ m' "things" = some (.ref l) ∧ Ex1 fun fv => m' "found" = some fv ∧ RowV c.w P' fv (vs.drop (vs.length - i)) tv) ?_ ?_ ?_
  · exact ⟨rfl, by walk_at "z lk", tv, by walk_at "z lk", by rw [Nat.sub_zero, List.drop_length]; exact .nil _⟩
  · intro i v P' m' mu' s5 C5 E E2 hi hv hP hC5 hJ S5 hnext hret herr
    obtain ⟨rfl, e1, fv, hf, hfr⟩ := hJ
    obtain ⟨t5, rfl⟩ := hv
    have hl5 := hl.mono ((View.le_add _ _ _).trans hP)
    have hidx : ((vs.length : Int) - 1 + (i : Int) * -1) = ((vs.length - 1 - i : Nat) : Int) := by omega
    obtain ⟨x5, hx5⟩ : ∃ x, vs[vs.length - 1 - i]? = some x := ⟨_, List.getElem?_eq_getElem (by lia)⟩
    repeat walk_at "z"
    walk_at "z c2"
    repeat walk_at "z"
    refine subL (x := x5) (St.lstP (by walk_at "as") hl5) (by lia) (by lia) (by rw [hidx]; exact hx5) ?_
    repeat walk_at "z"
    refine ⟨St.K (by walk_at "as"), ?_⟩
    refine make_Pair (n := n) (by walk_at "as") hA' (fun x7 s7 P7 hP7 S7 I7 => ?_)
    repeat walk_at "z"
    walk_at "nil"
    rename_i s8 S8
    refine hnext hP7 ⟨rfl, by walk_at "z lk", _, by walk_at "z lk", ?_⟩ S8
    have e : vs.drop (vs.length - (i + 1)) = x5 :: vs.drop (vs.length - i) := by
      have h1 : vs.length - (i + 1) < vs.length := by lia
      rw [List.drop_eq_getElem_cons h1]
      have h2 : vs.length - (i + 1) + 1 = vs.length - i := by lia
      rw [h2]
      congr 1
      have h3 : vs.length - (i + 1) = vs.length - 1 - i := by lia
      rw [List.getElem?_eq_getElem (by lia)] at hx5
      cases hx5
      congr 1
    rw [e]
    exact .cons I7 (hfr.mono hP7)
  · intro P' m' mu' s5 hP hJ S5
    obtain ⟨rfl, _, fv, hf, hfr⟩ := hJ
    walk_at "ds"
    repeat walk_at "z"
    refine B.ret ((View.le_add _ _ _).trans hP) S5 ⟨rfl, ?_⟩
    rw [Nat.sub_self, List.drop_zero] at hfr
    exact hfr
theorem list_of2 {l : Addr} {vs : List Value} {tv : Value} (hl : IsLst P l vs) (hz : vs.length ≤ 1000) : CallsC c (n + 3) 179 [.ref l, tv] P [] (fun P' mu' v => mu' = [] ∧ RowV c.w P' v vs tv) :=
  list_of_any (fun s X _ _ _ _ _ _ _ => binds_K X rfl c.fx.nones rfl rfl rfl) hl hz
theorem list_of1 {l : Addr} {vs : List Value} (hl : IsLst P l vs) (hz : vs.length ≤ 1000) : CallsC c (n + 3) 179 [.ref l] P [] (fun P' mu' v => mu' = [] ∧ RowV c.w P' v vs (.ref 44)) :=
  list_of_any (fun s X _ _ _ _ _ _ _ => binds_K X rfl c.fx.nones rfl rfl rfl) hl hz
end
end TG2
section TG3
-- turned
section
variable {c : Cx} {P C : View} {L x dx : Addr} {m : Loc} {mu rho : Led} {s : Shared} {A : Around} {a b d : Value} {n : Nat}
noncomputable def LawBack (c : Cx) (k : Nat) : Prop := ∀ {P : View} {T : Tab} {v : Value} {t : Thing}, sz t ≤ k → k ≤ 500 → DV c.w P T v t → CallsC c (k + 2) 693 [v] P [] (fun P' mu' r => mu' = [] ∧ TV P' r t)
theorem law_back (k : Nat) : LawBack c k := by
  induction k with
  | zero => intro P T v t hk; have := sz_pos t; lia
  | succ k ih =>
  intro P T v t hk hk5 h
  refine intro c.fx.is_law_back [("datum", v)] (fun _ _ _ _ _ _ _ _ => BindsTo.of_eq rfl) (locs rfl) (by decide +kernel) ?_
  intro env A' L' C' s₁ Qb Eb hE hA' S' B
  dsimp only [f_law_back, fx_law_back, binds0] at *
  cases h with
  | int i u =>
    repeat walk_at "z"
    walk_at "nil"
    repeat walk_at "z"
    walk_at "nil"
    repeat walk_at "z"
    walk_at "nil"
    repeat walk_at "z"
    walk_at "nil"
    repeat walk_at "z"
    exact B.ret (View.le.refl _) (by walk_at "as") ⟨rfl, .int _ _⟩
  | @sym a x n hT hI =>
    obtain ⟨k1, u1, I⟩ := hI
    repeat walk_at "z"
    walk_at "nil"
    repeat walk_at "z"
    walk_at "nil"
    repeat walk_at "z"
    walk_at "nil"
    repeat walk_at "z"
    with_reducible refine newTup (by walk_at "as") (fun t9 s9 P9 hP9 ht9 S9 => ?_) (by simp)
    exact B.ret hP9 S9 ⟨rfl, Rd.tup2 ht9 (.str _ _) (.str _ _)⟩
  | nil =>
    repeat walk_at "z"
    walk_at "nil"
    repeat walk_at "z"
    walk_at "nil"
    repeat walk_at "z"
    with_reducible refine newTup (by walk_at "as") (fun t9 s9 P9 hP9 ht9 S9 => ?_) (by simp)
    exact B.ret hP9 S9 ⟨rfl, .tuple ht9 (.cons (.str _ _) .nil)⟩
  | @vec a l vs ts I hl hr =>
    have hsz : szs ts ≤ k := by simp only [sz] at hk; lia
    have hlen : vs.length ≤ 500 := by have := hr.length; have := szs_len ts; lia
    repeat walk_at "z"
    walk_at "nil"
    repeat walk_at "z"
    refine compE hE (by rfl) (by decide +kernel) (by decide +kernel) rfl (by decide +kernel) hA'.handled ?_
    repeat walk_at "z"
    refine iterL (by walk_at "as") hl ?_
    intro it s4 hC W S4
    refine ⟨it, _, _, _, _, _, _, _, fun i P' mu' ys => mu' = [] ∧ RdAll P' ys ((ts.take i).map enc), rfl, S4, W, self_list, by lia, hC, ⟨rfl, .nil⟩, ?_, ?_⟩
    · intro i v P' mu' ys s' Lc m' C5 cenv E5 Eb5 hi hv hP hJ hEc hm' S5 hnext
      obtain ⟨rfl, hys⟩ := hJ
      obtain ⟨t5, ht5, hvd⟩ := hr.get hv
      have hmem : t5 ∈ ts := List.mem_of_getElem? ht5
      have := szs_mem hmem
      walk_at "z c1"
      repeat walk_at "z"
      refine ⟨St.K (by walk_at "as"), ?_⟩
      refine ccMn (ih (t := t5) (by lia) (by lia) (hvd.mono hP (List.prefix_refl _))) (by walk_at "as") (hA'.le (by walk_at "om")) ?_
      rintro v6 s6 P6 hP6 S6 hv6
      refine hnext hP6 ⟨rfl, ?_⟩ S6
      rw [List.take_add_one, List.map_append, ht5]
      exact (hys.mono hP6).snoc hv6
    · intro D P' mu' ys s' hP hJ hl' S5
      obtain ⟨rfl, hys⟩ := hJ
      obtain ⟨P7, hP7, hl7, S7⟩ := S5.freezeL
      with_reducible refine newTup S7 (fun t9 s9 P9 hP9 ht9 S9 => ?_) (by simp)
      rw [hr.length, List.take_length] at hys
      refine B.ret (hP.trans (hP7.trans hP9)) S9 ⟨rfl, ?_⟩
      unfold TV; rw [enc, encs_map]
      exact Rd.tup2 ht9 (.str _ _) (.list (hl7.mono hP9) (hys.mono (hP7.trans hP9)))
  | @pair a x y tx ty I hx hy =>
    simp only [sz] at hk
    have hxi := hx.hi
    have hyi := hy.hi
    repeat walk_at "z"
    walk_at "z c1"
    repeat walk_at "z"
    refine ⟨St.K (by walk_at "as"), ?_⟩
    refine cc0 (ih (t := tx) (by lia) (by omega) hx) (rho := []) (by walk_at "as") (hA'.le (by walk_at "om")) ?_
    rintro v6 s6 P6 hP6 S6 hv6
    have I6 := I.mono hP6
    walk_at "z c1"
    repeat walk_at "z"
    refine ⟨St.K (by walk_at "as"), ?_⟩
    refine cc0 (ih (t := ty) (by lia) (by omega) (hy.mono hP6 (List.prefix_refl _))) (rho := []) (by walk_at "as") (hA'.le (by walk_at "om")) ?_
    rintro v8 s8 P8 hP8 S8 hv8
    with_reducible refine newTup S8 (fun t9 s9 P9 hP9 ht9 S9 => ?_) (by simp)
    exact B.ret (hP6.trans (hP8.trans hP9)) S9 ⟨rfl, Rd.tup3 ht9 (.str _ _) (hv6.mono (hP8.trans hP9)) (hv8.mono hP9)⟩
end
end TG3
section TG4
-- turned
theorem mulI2 {c : Cx} {P C : View} {L : Addr} {m : Loc} {mu : Led} {s : Shared} {A : Around} {E : Value → Shared → Prop} {Q : Value → Shared → Prop} {y : Int} {t u : Tok} (S : St c P C L m mu s) (h : ∀ k s', St c P C L m mu s' → Q (.int (2 * y) k) s') :
    wpAny c.M A (binaryOp .Mult (.int 2 t) (.int y u)) Q E s := PySem.P.mul_int (h _ _ (S.toks _)) (IntMulOk.of_left (by decide +kernel))
structure Wld where
  wx : Addr
  wdx : Addr
  tx : Addr
  rows : Addr
  byt : Addr
  rx : Addr
  rn : Addr
  qs : Addr
  sx : Addr
  sn : Addr
  v1 : Value
  v2 : Value
/-- all the texts that are ever asked for -/
noncomputable def Univ : List Str := ["quote", "%cons", "%append", "%list->vector", "unquote", "unquote-splicing", "quasiquote", "p", "q", "r", "a", "f"]
theorem nodup_len {α : Type} [DecidableEq α] : ∀ {l k : List α}, l.Nodup → (∀ x ∈ l, x ∈ k) → l.length ≤ k.length
  | [], _, _, _ => Nat.zero_le _
  | a :: r, k, nd, h => by
    obtain ⟨h1, h2⟩ := List.nodup_cons.mp nd
    have := nodup_len (l := r) (k := k.erase a) h2 fun x hx => (List.mem_erase_of_ne (by rintro rfl; exact h1 hx)).mpr (h x (.tail _ hx))
    rw [List.length_erase_of_mem (h a (.head _))] at this
    have : 0 < k.length := List.length_pos_of_mem (h a (.head _))
    rw [List.length_cons]; omega
/-- the world's objects that stand for good -/
structure WK (c : Cx) (P : View) (W : Wld) (T : Tab) (bound : List Str) : Prop where
  w : P W.wx (instObj 641 W.wdx)
  t : Inst c.w P W.tx 125 [("rows", .ref W.rows), ("by_text", .ref W.byt)]
  byt : W.byt ≠ sysModules
  r : Inst c.w P W.rx 410 [("parent", .none), ("names", .ref W.rn)]
  rD : Ex1 fun o => P W.rn o ∧ o.IsDictOf (intKind c.prog c.w) [((0 : Int), Value.ref W.qs)]
  rS : W.rn ≠ sysModules
  q : ∃ u, Inst c.w P W.qs 263 [("word", .str "quote" u)]
  s : Inst c.w P W.sx 410 [("parent", .ref W.rx), ("names", .ref W.sn)]
  sS : W.sn ≠ sysModules
  sD : Ex2 fun kvs o => And7 (P W.sn o) (o.IsDictOf (intKind c.prog c.w) kvs) ((∀ (n : Nat) (t : Str) (a : Addr), T[n]? = some (t, a) → t ∈ bound → Ex2 fun x fs => valueAt kvs (2 * (n : Int)) = some (.ref x) ∧ Inst c.w P x 284 fs)) ((∀ (n : Nat) (t : Str) (a : Addr), T[n]? = some (t, a) → t ∉ bound → valueAt kvs (2 * (n : Int)) = none)) ((∀ n : Nat, T.length ≤ n → valueAt kvs (2 * (n : Int)) = none)) ((∀ j : Int, valueAt kvs (2 * j + 1) = none)) (∀ k v, valueAt kvs k = some v → ∃ x, v = .ref x)
  T0 : ∃ a : Addr, T[0]? = some (("quote" : Str), a)
  nd : (T.map (·.1)).Nodup
  syms : ∀ (n : Nat) (t : Str) (a : Addr), T[n]? = some (t, a) → SymI c.w P a n t
  bnd : ∀ t ∈ bound, ∃ a, (t, a) ∈ T
  fin : ∀ p ∈ T, p.1 ∈ Univ
theorem WK.len {c : Cx} {P : View} {W : Wld} {T : Tab} {bound : List Str} (h : WK c P W T bound) : T.length ≤ 900 := by
  have := nodup_len (k := Univ) h.nd (fun x hx => by obtain ⟨p, hp, rfl⟩ := List.mem_map.mp hx; exact h.fin p hp)
  rw [List.length_map] at this
  exact Nat.le_trans this (by decide)
theorem WK.hb {c : Cx} {P : View} {W : Wld} {T : Tab} {bound : List Str} (h : WK c P W T bound) {t : Str} (ht : t ∈ bound) : t ∈ T.map (·.1) := let ⟨a, ha⟩ := h.bnd t ht; List.mem_map.mpr ⟨(t, a), ha, rfl⟩
theorem WK.mono {c : Cx} {P P' : View} {W : Wld} {T : Tab} {bound : List Str} (h : WK c P W T bound) (k : P.le P') : WK c P' W T bound where
  w := k _ _ h.w
  t := h.t.mono k
  byt := h.byt
  r := h.r.mono k
  rD := let ⟨o, a, b⟩ := h.rD; ⟨o, k _ _ a, b⟩
  rS := h.rS
  q := let ⟨u, a⟩ := h.q; ⟨u, a.mono k⟩
  s := h.s.mono k
  sS := h.sS
  sD := let ⟨kvs, o, a, b, d, e, e1, e2, e3⟩ := h.sD; ⟨kvs, o, k _ _ a, b, fun n t a h1 h2 => let ⟨x, fs, y, z⟩ := d n t a h1 h2; ⟨x, fs, y, z.mono k⟩, e, e1, e2, e3⟩
  T0 := h.T0
  nd := h.nd
  syms := fun n t a e => (h.syms n t a e).mono k
  bnd := h.bnd
  fin := h.fin
/-- the world's objects that turn -/
noncomputable def WL (c : Cx) (W : Wld) (T : Tab) (last : Int) (u : Tok) : Led :=
  [(W.byt, fun o => o.IsDictOf (strKind c.prog c.w) (T.map fun p => (p.1, Value.ref p.2))), (W.rows, LstO (T.map fun p => .ref p.2)), (W.wdx, IsDictO c.w [("table", .ref W.tx), ("last", .int last u), ("titles", W.v1), ("ops", W.v2), ("root", .ref W.rx)])]
section
variable {c : Cx} {P C : View} {L x dx : Addr} {m : Loc} {mu rho : Led} {s : Shared} {A : Around} {a b d : Value} {n : Nat}
theorem rot3 {p q r : Addr × (Obj → Prop)} (S : St c P C L m (p :: q :: r :: mu) s) : St c P C L m (r :: p :: q :: mu) s := S.perm ((List.Perm.cons p (.swap r q mu)).trans (.swap r p (q :: mu)))
theorem rot3' {p q r : Addr × (Obj → Prop)} (S : St c P C L m (r :: p :: q :: mu) s) : St c P C L m (p :: q :: r :: mu) s := S.perm ((List.Perm.swap p r (q :: mu)).trans (.cons p (.swap q r mu)))
theorem swp {p q : Addr × (Obj → Prop)} (S : St c P C L m (p :: q :: mu) s) : St c P C L m (q :: p :: mu) s := S.perm (.swap q p mu)

/-- what can be asked for a name: a symbol, an alias -/
noncomputable def IdV (w : World) (P : View) (v : Value) (key : Int) : Prop := Ex1 fun a => v = .ref a ∧ ((Ex2 fun n u => SymI w P a n u ∧ key = 2 * (n : Int)) ∨ Ex4 fun j u b sc => Inst w P a 242 [("number", .int j u), ("base", b), ("scope", sc)] ∧ key = 2 * j + 1)
theorem key_of {v : Value} {key : Int} (h : IdV c.w P v key) : CallsC c (n + 1) 344 [v] P [] (fun P' mu' r => P' = P ∧ mu' = [] ∧ ∃ u, r = .int key u) := by
  refine intro c.fx.is_key_of [("identifier", v)] (fun _ _ _ _ _ _ _ _ => BindsTo.of_eq rfl) (locs rfl) (by decide +kernel) ?_
  intro env A' L' C' s₁ Qb Eb hE hA' S' B
  dsimp only [f_key_of, fx_key_of, binds0] at *
  obtain ⟨a, rfl, ⟨n1, u1, ⟨k2, u2, I⟩, rfl⟩ | ⟨j, u1, b1, sc1, I, rfl⟩⟩ := h
  · repeat walk_at "z"
    refine mulI2 (by walk_at "as") (fun t2 s2 S2 => ?_)
    exact B.ret (View.le.refl _) S2 ⟨rfl, rfl, _, rfl⟩
  · repeat walk_at "z"
    walk_at "nil"
    repeat walk_at "z"
    refine mulI2 (by walk_at "as") (fun t2 s2 S2 => ?_)
    repeat walk_at "z"
    exact B.ret (View.le.refl _) (by walk_at "as") ⟨rfl, rfl, _, rfl⟩
end
end TG4
section TG5
-- turned
theorem valueAt_tab (T : Tab) (t : Str) (h : t ∉ T.map (·.1)) : valueAt (T.map fun p => (p.1, Value.ref p.2)) t = none := by
  unfold valueAt
  rw [Option.map_eq_none_iff, List.find?_eq_none]
  intro x hx
  obtain ⟨p, hp, rfl⟩ := List.mem_map.mp hx
  simp only [decide_eq_true_eq]
  rintro rfl
  exact h (List.mem_map.mpr ⟨p, hp, rfl⟩)
theorem valueAt_tab_some : ∀ (T : Tab) {t : Str} {a : Addr}, (T.map (·.1)).Nodup → (t, a) ∈ T → valueAt (T.map fun p => (p.1, Value.ref p.2)) t = some (.ref a)
  | [], _, _, _, h => nomatch h
  | p :: T, t, a, nd, h => by
    unfold valueAt
    rw [List.map_cons, List.find?_cons]
    rw [List.map_cons, List.nodup_cons] at nd
    rcases List.mem_cons.mp h with rfl | h
    · simp
    · have : p.1 ≠ t := fun e => nd.1 (List.mem_map.mpr ⟨(t, a), h, e.symm⟩)
      simp only [decide_eq_false this]
      exact valueAt_tab_some T nd.2 h
theorem stored_tab (T : Tab) (t : Str) (a : Addr) (h : t ∉ T.map (·.1)) : stored (T.map fun p => (p.1, Value.ref p.2)) t (.ref a) = ((T ++ [(t, a)]).map fun p => (p.1, Value.ref p.2)) := by
  unfold stored
  rw [if_neg, List.map_append]; · rfl
  rw [List.any_eq_true]
  rintro ⟨x, hx, e⟩
  obtain ⟨p, hp, rfl⟩ := List.mem_map.mp hx
  simp only [decide_eq_true_eq] at e
  exact h (List.mem_map.mpr ⟨p, hp, e⟩)
section
variable {c : Cx} {P C : View} {L x dx : Addr} {m : Loc} {mu rho : Led} {s : Shared} {A : Around} {a b d : Value} {n : Nat} {W : Wld} {T : Tab} {bound : List Str} {last : Int} {u : Tok}
theorem CallsC.frame {f : Addr} {args : List Value} {ext : Led} {Post Post' : View → Led → Value → Prop} (h : CallsC c n f args P mu Post) (hp : ∀ P' mu' v, P.le P' → Post P' mu' v → Post' P' (mu' ++ ext) v) : CallsC c n f args P (mu ++ ext) Post' := by
  intro A C L m rho s R S hA k
  refine h (rho := ext ++ rho) (by rw [← List.append_assoc]; exact S) hA fun v s' P' mu' hP S' hq => k v s' P' (mu' ++ ext) hP (by rw [List.append_assoc]; exact S') (hp _ _ _ hP hq)
/-- the table alone -/
structure WT (c : Cx) (P : View) (W : Wld) (T : Tab) : Prop where
  t : Inst c.w P W.tx 125 [("rows", .ref W.rows), ("by_text", .ref W.byt)]
  byt : W.byt ≠ sysModules
  nd : (T.map (·.1)).Nodup
  syms : ∀ (n : Nat) (t : Str) (a : Addr), T[n]? = some (t, a) → SymI c.w P a n t
  fin : ∀ p ∈ T, p.1 ∈ Univ
theorem WT.len {c : Cx} {P : View} {W : Wld} {T : Tab} (h : WT c P W T) : T.length ≤ 900 := by
  have := nodup_len (k := Univ) h.nd (fun x hx => by obtain ⟨p, hp, rfl⟩ := List.mem_map.mp hx; exact h.fin p hp)
  rw [List.length_map] at this
  exact Nat.le_trans this (by decide)
theorem WT.mono {c : Cx} {P P' : View} {W : Wld} {T : Tab} (h : WT c P W T) (k : P.le P') : WT c P' W T := ⟨h.t.mono k, h.byt, h.nd, fun n t a e => (h.syms n t a e).mono k, h.fin⟩
theorem WK.wt {c : Cx} {P : View} {W : Wld} {T : Tab} {bound : List Str} (h : WK c P W T bound) : WT c P W T := ⟨h.t, h.byt, h.nd, h.syms, h.fin⟩
noncomputable def WTL (c : Cx) (W : Wld) (T : Tab) : Led := [(W.byt, fun o => o.IsDictOf (strKind c.prog c.w) (T.map fun p => (p.1, Value.ref p.2))), (W.rows, LstO (T.map fun p => .ref p.2))]
theorem old_tab {T : Tab} {t : Str} {x : Addr} : ∀ (n : Nat) (t' : Str) (a : Addr), (T ++ [(t, x)])[n]? = some (t', a) → T[n]? = some (t', a) ∨ (n = T.length ∧ t' = t ∧ a = x) := by
  intro n t' a e
  by_cases hn : n < T.length
  · rw [List.getElem?_append_left hn] at e; exact .inl e
  · rw [List.getElem?_append_right (by omega)] at e
    have : n - T.length = 0 := by
      have := (List.getElem?_eq_some_iff.mp e).1
      simp at this; omega
    rw [this] at e
    simp at e
    exact .inr ⟨by lia, e.1.symm, e.2.symm⟩
/-- a text's symbol -/
theorem tbl_core (t : Str) (t0 : Tok) (hW : WT c P W T) (hu : t ∈ Univ) :
    CallsC c (n + 4) 87 [.ref W.tx, .str t t0] P (WTL c W T) (fun P' mu' r => Ex2 fun T' a => And5 ((T' = T ∨ (t ∉ T.map (·.1) ∧ T' = T ++ [(t, a)]))) (WT c P' W T') (mu' = WTL c W T') (r = .ref a) ((t, a) ∈ T')) := by
  refine intro c.fx.is_SymbolTable_symbol [("self", .ref W.tx), ("text", .str t t0)] (fun _ _ _ _ _ _ _ _ => BindsTo.of_eq rfl) (locs rfl) (by decide +kernel) ?_
  intro env A' L' C' s₁ Qb Eb hE hA' S' B
  dsimp only [f_SymbolTable_symbol, fx_SymbolTable_symbol, binds0] at *
  have I := hW.t
  have hz := hW.len
  unfold WTL at S'
  repeat walk_at "z"
  refine dMeth (knd := strKind c.prog c.w) (St.dct (by walk_at "as") (.head _)) ?_
  refine bW2 ?_
  repeat walk_at "z"
  refine dGet (by walk_at "as") (St.dct (by walk_at "as") (.head _)) hW.byt isS (fun s2 S2 => ?_)
  by_cases hin : t ∈ T.map (·.1)
  · obtain ⟨p, hp, rfl⟩ := List.mem_map.mp hin
    obtain ⟨t, a⟩ := p
    rw [valueAt_tab_some T hW.nd hp]
    dsimp only [Option.getD]
    repeat walk_at "z"
    walk_at "nil"
    repeat walk_at "z"
    exact B.ret (View.le.refl _) (by walk_at "as") ⟨T, a, .inl rfl, hW, rfl, rfl, hp⟩
  · rw [valueAt_tab T t hin]
    dsimp only [Option.getD]
    repeat walk_at "z"
    walk_at "z c2"
    refine cB1 (by walk_at "as") hE (by decide +kernel) c.fx.b_len boot_len ?_
    repeat walk_at "z"
    refine lenL (xs := T.map fun p => .ref p.2) (by walk_at "as") (St.lst (by walk_at "as") (.tail _ (.head _))) (by rw [List.length_map]; lia) (fun t3 s3 S3 => ?_)
    repeat walk_at "z"
    refine ⟨St.K (by walk_at "as"), ?_⟩
    refine make_Symbol (n := n + 1) (by walk_at "as") hA' (fun x4 s4 P4 hP4 S4 I4 => ?_)
    repeat walk_at "z"
    have I5 := I.mono hP4
    have S6 := swp (by walk_at "as")
    refine stAppend hE ?_
    repeat walk_at "z"
    refine ⟨W.rows, rfl, ?_, ?_⟩
    · obtain ⟨n5, hn5⟩ := St.lstO (a := W.rows) (xs := T.map fun p => .ref p.2) (by walk_at "as") (.head _)
      exact ⟨_, n5, hn5⟩
    repeat walk_at "z"
    refine ⟨_, _, _, _, _, T.map fun p => .ref p.2, by rw [List.length_map]; lia, by walk_at "as", fun s7 S7 => ?_⟩
    walk_at "ds"
    repeat walk_at "z"
    refine wpAny_Assign_Subscript ?_
    repeat walk_at "z"
    refine dSet (swp (by walk_at "as")) isS (by rw [List.length_map]; lia) (fun s9 S9 => ?_)
    repeat walk_at "z"
    walk_at "nil"
    repeat walk_at "z"
    rw [stored_tab T t x4 hin] at S9
    have W4 := hW.mono hP4
    refine B.ret hP4 S9 ⟨T ++ [(t, x4)], x4, .inr ⟨hin, rfl⟩, ⟨W4.t, W4.byt, ?_, ?_, ?_⟩, ?_, rfl, by simp⟩
    · rw [List.map_append, List.nodup_append]
      refine ⟨W4.nd, by simp, ?_⟩
      intro x hx y hy e
      simp at hy
      subst hy e
      exact hin hx
    · exact fun n t' a e => (old_tab n t' a e).elim (fun h => W4.syms n t' a h) (fun h => by
        obtain ⟨rfl, rfl, rfl⟩ := h
        exact ⟨_, _, by simpa using I4⟩)
    · exact fun p hp => (List.mem_append.mp hp).elim (fun h => W4.fin p h) (fun h => by simp at h; subst h; exact hu)
    · unfold WTL
      rw [List.map_append, List.map_append]
      rfl
theorem tbl_symbol (t : Str) (t0 : Tok) (hW : WK c P W T bound) (hu : t ∈ Univ) :
    CallsC c (n + 4) 87 [.ref W.tx, .str t t0] P (WL c W T last u) (fun P' mu' r => Ex2 fun T' a => And5 (T <+: T') (WK c P' W T' bound) (mu' = WL c W T' last u) (r = .ref a) ((t, a) ∈ T')) := by
  refine CallsC.frame (mu := WTL c W T) (tbl_core (n := n) t t0 hW.wt hu) ?_
  rintro P' mu' v hP ⟨T', a, hT, W', rfl, rfl, hin⟩
  have W4 := hW.mono hP
  rcases hT with rfl | ⟨hn, rfl⟩
  · exact ⟨T', a, List.prefix_refl _, W4, rfl, rfl, hin⟩
  · refine ⟨_, a, List.prefix_append _ _, ?_, rfl, rfl, hin⟩
    have hb' : t ∉ bound := fun h => hn (hW.hb h)
    obtain ⟨kvs, o, k1, k2, k3, k4, k5, k6, k7⟩ := W4.sD
    exact { w := W4.w, t := W4.t, byt := W4.byt, r := W4.r, rD := W4.rD, rS := W4.rS, q := W4.q, s := W4.s, sS := W4.sS
            sD := ⟨kvs, o, k1, k2, fun n t' a e hb2 => (old_tab n t' a e).elim (fun h => k3 n t' a h hb2) (fun h => absurd (h.2.1 ▸ hb2) hb'),
              fun n t' a e hb2 => (old_tab n t' a e).elim (fun h => k4 n t' a h hb2) (fun h => h.1 ▸ k5 _ (Nat.le_refl _)), fun n hn => k5 n (by simp at hn; lia), k6, k7⟩
            T0 := by
              obtain ⟨a, ha⟩ := W4.T0
              exact ⟨a, by rw [List.getElem?_append_left (List.getElem?_eq_some_iff.mp ha).1]; exact ha⟩
            nd := W'.nd
            syms := W'.syms
            bnd := fun t' ht' => let ⟨a, ha⟩ := W4.bnd t' ht'; ⟨a, List.mem_append_left _ ha⟩
            fin := W'.fin }
end
end TG5
section TG6
-- turned
/-- scopes, each over the next -/
inductive ChV (c : Cx) (P : View) : Value → List (List (Int × Value)) → Prop
  | nil : ChV c P .none []
  | cons {a p d o kvs r} : Inst c.w P a 410 [("parent", p), ("names", .ref d)] → P d o → o.IsDictOf (intKind c.prog c.w) kvs → d ≠ sysModules → (∀ k v, valueAt kvs k = some v → ∃ x, v = .ref x) → ChV c P p r → ChV c P (.ref a) (kvs :: r)
theorem ChV.mono {c : Cx} {P P' : View} (k : P.le P') {v : Value} {r : List (List (Int × Value))} (h : ChV c P v r) : ChV c P' v r := by
  induction h with
  | nil => exact .nil
  | cons a b d e f _ ih => exact .cons (a.mono k) (k _ _ b) d e f ih
theorem ChV.hi {c : Cx} {P : View} {v : Value} {r : List (List (Int × Value))} (h : ChV c P v r) : handedIn v = true := by cases h <;> rfl
noncomputable def lookCh (key : Int) : List (List (Int × Value)) → Value
  | [] => .none
  | kvs :: r => match valueAt kvs key with
    | some v => v
    | none => lookCh key r
theorem isI {prog : Program} {w : World} {a : Int} {t : Tok} : (PySem.intKind prog w).is a (.int a t) = true := by
  show Value.isInt a (.int a t) = true
  simp [Value.isInt]
section
variable {c : Cx} {P C : View} {L x dx : Addr} {m : Loc} {mu rho : Led} {s : Shared} {A : Around} {a b d : Value} {n : Nat} {W : Wld} {T : Tab} {bound : List Str} {last : Int} {u : Tok}
theorem scope_bound {v iv : Value} {r : List (List (Int × Value))} {key : Int} (h : ChV c P v r) (hi : IdV c.w P iv key) (hv : r ≠ []) :
    CallsC c (n + 2) 386 [v, iv] P [] (fun P' mu' res => mu' = [] ∧ res = lookCh key r) := by
  refine intro c.fx.is_Scope_bound [("self", v), ("identifier", iv)] (fun _ _ _ _ _ _ _ _ => BindsTo.of_eq rfl) (locs rfl) (by decide +kernel) ?_
  intro env A' L' C' s₁ Qb Eb hE hA' S' B
  dsimp only [f_Scope_bound, fx_Scope_bound, binds0] at *
  repeat walk_at "z"
  walk_at "z c1"
  repeat walk_at "z"
  refine ⟨S'.K, ?_⟩
  refine ccn (key_of (n := n) hi) S' (hA'.le (by walk_at "om")) ?_
  rintro v2 s2 P2 mu2 hP2 S2 ⟨rfl, rfl, u2, rfl⟩
  try simp only [List.nil_append] at S2
  repeat walk_at "z"
  rename_i sW SW
  refine whileS (fun k s => Ex2 fun av rr => And4 (rr.length = k) (ChV c P2 av rr) (lookCh key r = lookCh key rr) (Ex1 fun m' => And3 (m' "key" = some (.int key u2)) (m' "at" = some av) (St c P2 C' L' m' [] s))) ?_ r.length
    ⟨v, r, rfl, h, rfl, _, by walk_at "z lk", by walk_at "z lk", SW⟩
  rintro K E2 k s4 ⟨av, rr, hk, hch, hlk, m4, e1, e2, S4⟩ hnx hrt
  cases hch with
  | nil =>
    repeat walk_at "z"
    walk_at "nil"
    repeat walk_at "z"
    exact B.ret hP2 (by walk_at "as") ⟨rfl, by rw [hlk]; rfl⟩
  | @cons a p d o kvs rest I hd ho hs hrf hrest =>
    have hpi := hrest.hi
    repeat walk_at "z"
    refine dMeth (knd := intKind c.prog c.w) (St.dctP (by walk_at "as") hd ho) ?_
    refine bW2 ?_
    repeat walk_at "z"
    refine dGet (by walk_at "as") (St.dctP (by walk_at "as") hd ho) hs isI (fun s5 S5 => ?_)
    cases hva : valueAt kvs key with
    | none =>
      dsimp only [Option.getD]
      repeat walk_at "z"
      walk_at "nil"
      repeat walk_at "z"
      walk_at "nil"
      rename_i s6 S6
      exact hnx (rest.length) _ (by rw [← hk]; simp) ⟨p, rest, rfl, hrest, by rw [hlk]; simp [lookCh, hva], _, by walk_at "z lk", by walk_at "z lk", S6⟩
    | some x =>
      obtain ⟨x, rfl⟩ := hrf _ _ hva
      dsimp only [Option.getD]
      repeat walk_at "z"
      exact hrt _ _ (B.ret hP2 (by walk_at "as") ⟨rfl, by rw [hlk]; simp [lookCh, hva]⟩)
theorem names_fresh (hW : WK c P W T bound) : CallsC c (n + 1) 582 [.ref W.wx] P (WL c W T last u) (fun P' mu' r => P' = P ∧ Ex1 fun u' => r = .int (last + 1) u' ∧ mu' = WL c W T (last + 1) u') := by
  refine intro c.fx.is_Names_fresh [("self", .ref W.wx)] (fun _ _ _ _ _ _ _ _ => BindsTo.of_eq rfl) (locs rfl) (by decide +kernel) ?_
  intro env A' L' C' s₁ Qb Eb hE hA' S' B
  dsimp only [f_Names_fresh, fx_Names_fresh, binds0] at *
  have hw := hW.w
  unfold WL at S'
  have S2 := rot3 S'
  repeat walk_at "z"
  refine getFmu S2 hw c.fx.a_Names_last (by walk_at "z fl") rfl (fun s3 S3 => ?_)
  repeat walk_at "z"
  rename_i s4 S4
  obtain ⟨t4, S4'⟩ : ∃ t4, St c P C' L' _ ((W.wdx, IsDictO c.w [("table", .ref W.tx), ("last", .int (last + 1) t4), ("titles", W.v1), ("ops", W.v2), ("root", .ref W.rx)]) :: _) s4 := ⟨_, S4⟩
  refine getFmu S4' hw c.fx.a_Names_last (by walk_at "z fl") rfl (fun s5 S5 => ?_)
  exact B.ret (View.le.refl _) (rot3' S5) ⟨rfl, t4, rfl, rfl⟩
/-- an alias that stands for good -/
noncomputable def AlV (w : World) (P : View) (v base scope : Value) : Prop := Ex3 fun a j u => v = .ref a ∧ Inst w P a 242 [("number", .int j u), ("base", base), ("scope", scope)]
theorem AlV.mono {w : World} {P P' : View} {v b s : Value} (h : AlV w P v b s) (k : P.le P') : AlV w P' v b s := let ⟨a, j, u, e, I⟩ := h; ⟨a, j, u, e, I.mono k⟩
theorem alias_of_ (hW : WK c P W T bound) : CallsC c (n + 4) 435 [a, b, .ref W.wx] P (WL c W T last u) (fun P' mu' r => AlV c.w P' r a b ∧ ∃ u', mu' = WL c W T (last + 1) u') := by
  refine intro c.fx.is_alias_of [("base", a), ("scope", b), ("world", .ref W.wx)] (fun _ _ _ _ _ _ _ _ => BindsTo.of_eq rfl) (locs rfl) (by decide +kernel) ?_
  intro env A' L' C' s₁ Qb Eb hE hA' S' B
  dsimp only [f_alias_of, fx_alias_of, binds0] at *
  have hw := hW.w
  repeat walk_at "z"
  walk_at "z c3"
  repeat walk_at "z"
  unfold WL at S'
  have S2 := rot3 S'
  refine methFmu S2 hw c.fx.m_Names_fresh (by rfl) ?_
  refine cW0 S'.K c.fx.m_Names_fresh.keep ?_
  refine ccn (names_fresh (n := n) hW) S' (hA'.le (by walk_at "om")) ?_
  rintro v3 s3 P3 mu3 hP3 S3 ⟨rfl, u3, rfl, rfl⟩
  repeat walk_at "z"
  refine ⟨S3.K, ?_⟩
  refine make_Alias (n := n + 1) S3 hA' (fun x4 s4 P4 hP4 S4 I4 => ?_)
  exact B.ret hP4 S4 ⟨⟨_, _, _, rfl, I4⟩, _, rfl⟩
end
end TG6
section TG7
-- turned
/-- what a scope says of a name whose symbol is b -/
noncomputable def FoundV (w : World) (P : View) (v0 r b : Value) : Prop := (v0 = .none ∧ Ex1 fun g => r = .ref g ∧ Inst w P g 305 [("symbol", b)]) ∨ (v0 ≠ .none ∧ r = v0)
theorem ChV.look {c : Cx} {P : View} {v : Value} {r : List (List (Int × Value))} (h : ChV c P v r) (key : Int) : lookCh key r = .none ∨ ∃ x, lookCh key r = .ref x := by
  induction h with
  | nil => exact .inl rfl
  | @cons a p d o kvs r _ _ _ _ hr _ ih =>
    unfold lookCh
    cases hv : valueAt kvs key with
    | none => exact ih
    | some x => obtain ⟨y, rfl⟩ := hr _ _ hv; exact .inr ⟨y, rfl⟩
section
variable {c : Cx} {P C : View} {L x dx : Addr} {m : Loc} {mu rho : Led} {s : Shared} {A : Around} {a b d : Value} {n : Nat} {W : Wld} {T : Tab} {bound : List Str} {last : Int} {u : Tok}
theorem scope_find {sa ia ba sb : Addr} {ch ch2 : List (List (Int × Value))} {k1 : Nat} {tx : Str} {v0 : Value} (hch : ChV c P (.ref sa) ch) (hb : SymI c.w P ba k1 tx)
    (h : (ia = ba ∧ v0 = lookCh (2 * (k1 : Int)) ch) ∨ Ex2 fun j u => And4 (Inst c.w P ia 242 [("number", .int j u), ("base", .ref ba), ("scope", .ref sb)]) (lookCh (2 * j + 1) ch = .none) (ChV c P (.ref sb) ch2) (v0 = lookCh (2 * (k1 : Int)) ch2)) :
    CallsC c (n + 5) 393 [.ref sa, .ref ia] P [] (fun P' mu' r => mu' = [] ∧ FoundV c.w P' v0 r (.ref ba)) := by
  refine intro c.fx.is_Scope_find [("self", .ref sa), ("identifier", .ref ia)] (fun _ _ _ _ _ _ _ _ => BindsTo.of_eq rfl) (locs rfl) (by decide +kernel) ?_
  intro env A' L' C' s₁ Qb Eb hE hA' S' B
  dsimp only [f_Scope_find, fx_Scope_find, binds0] at *
  have hv0 : v0 = .none ∨ ∃ x, v0 = .ref x := by
    rcases h with ⟨_, rfl⟩ | ⟨j, u, _, _, h2, rfl⟩
    · exact hch.look _
    · exact h2.look _
  -- behind the loop
  have after : ∀ s2 P2 m2, P.le P2 → m2 (Str.ofString "found") = some v0 → m2 (Str.ofString "at") = some (.ref ba) → St c P2 C' L' m2 [] s2 → wpAny c.M A' (execs (f_Scope_find.body.drop 4) env) Qb Eb s2 := by
    intro s2 P2 m2 hP2 e1 e2 S2
    dsimp only [f_Scope_find, fx_Scope_find, List.drop]
    rcases hv0 with rfl | ⟨y, rfl⟩
    · repeat walk_at "z"
      walk_at "z c1"
      repeat walk_at "z"
      refine ⟨S2.K, ?_⟩
      refine make_GlobalName (n := n + 2) S2 hA' (fun x4 s4 P4 hP4 S4 I4 => ?_)
      exact B.ret (hP2.trans hP4) S4 ⟨rfl, .inl ⟨rfl, _, rfl, I4⟩⟩
    · repeat walk_at "z"
      walk_at "nil"
      repeat walk_at "z"
      exact B.ret hP2 (by walk_at "as") ⟨rfl, .inr ⟨(by intro e; cases e), rfl⟩⟩
  -- scope.bound(at)
  have call_ : ∀ {m2 : Loc} {s2 : Shared} {P2 : View} {xa ya : Addr} {cc : List (List (Int × Value))} {key : Int} {Q2 : Value → Shared → Prop} {E2 : Value → Shared → Prop} {p3 p4 : Pos} {pl : Sem Bool}, P.le P2 → m2 (Str.ofString "scope") = some (.ref xa) → m2 (Str.ofString "at") = some (.ref ya) → ChV c P2 (.ref xa) cc → IdV c.w P2 (.ref ya) key →
      St c P2 C' L' m2 [] s2 → (∀ s3 P3, P2.le P3 → St c P3 C' L' m2 [] s3 → Q2 (lookCh key cc) s3) →
      wpAny c.M A' (getMethod (.ref xa) "bound" pl) (fun fx s₂ => wpAny c.M A' (callWith p4 fx.1 fx.2 (backTo p4 (starEach [.Name "at" p3] env)) (backToKw p4 (keywordEach [] env))) Q2 E2 s₂) E2 s2 := by
    intro m2 s2 P2 xa ya cc key Q2 E2 p3 p4 pl hP2 e1 e2 hc hid S2 k
    have hcc : cc ≠ [] := by cases hc; simp
    obtain ⟨p, d, o, kvs, r, I⟩ : Ex5 fun p d o kvs r => And3 (Inst c.w P2 xa 410 [("parent", p), ("names", .ref d)]) (cc = kvs :: r) (P2 d o) := by
      cases hc with
      | cons I hd _ _ _ _ => exact ⟨_, _, _, _, _, I, rfl, hd⟩
    refine methF S2 I.1 c.fx.m_Scope_bound (by rfl) ?_
    refine cW1 c.fx.m_Scope_bound.keep ?_
    repeat walk_at "z"
    refine ⟨S2.K, ?_⟩
    refine Mine.cc (scope_bound (n := n + 2) hc hid hcc) (rho := []) S2 (hA'.le (by walk_at "om")) ?_
    rintro v3 s3 P3 mu3 hP3 S3 ⟨rfl, rfl⟩
    try simp only [List.nil_append] at S3
    exact k _ _ hP3 S3
  obtain ⟨bk, bu, Ib⟩ := hb
  have idb : ∀ {P2 : View}, P.le P2 → IdV c.w P2 (.ref ba) (2 * (k1 : Int)) := fun hP2 => ⟨ba, rfl, .inl ⟨k1, tx, ⟨bk, bu, Ib.mono hP2⟩, rfl⟩⟩
  repeat walk_at "z"
  rcases h with ⟨rfl, rfl⟩ | ⟨j, ju, Ia, hnone, hch2, rfl⟩
  · rename_i sq Sq
    refine call_ (View.le.refl _) (by walk_at "z lk") (by walk_at "z lk") hch (idb (View.le.refl _)) Sq (fun s3 P3 hP3 S3 => ?_)
    repeat walk_at "z"
    rename_i sW SW
    refine whileS (fun k s => Ex1 fun m' => And3 (m' (Str.ofString "found") = some (lookCh (2 * (k1 : Int)) ch)) (m' (Str.ofString "at") = some (.ref ia)) (St c P3 C' L' m' [] s)) ?_ 0 ⟨_, by walk_at "z lk", by walk_at "z lk", SW⟩
    rintro K E2 k s5 ⟨m5, e1, e2, S5⟩ hnx hrt
    have Ib3 := Ib.mono hP3
    rcases hch.look (2 * (k1 : Int)) with hl | ⟨y, hl⟩
    · rw [hl] at e1
      repeat walk_at "z"
      walk_at "nil"
      exact after _ _ _ hP3 (by rw [hl]; exact e1) e2 (by walk_at "as")
    · rw [hl] at e1
      repeat walk_at "z"
      walk_at "nil"
      exact after _ _ _ hP3 (by rw [hl]; exact e1) e2 (by walk_at "as")
  · rename_i sq Sq
    refine call_ (View.le.refl _) (by walk_at "z lk") (by walk_at "z lk") hch ⟨ia, rfl, .inr ⟨j, ju, _, _, Ia, rfl⟩⟩ Sq (fun s3 P3 hP3 S3 => ?_)
    rw [hnone]
    repeat walk_at "z"
    rename_i sW SW
    refine whileS (fun k s => Ex2 fun P5 m' => And3 (P.le P5) (St c P5 C' L' m' [] s) (((k = 1 ∧ m' (Str.ofString "found") = some .none ∧ m' (Str.ofString "at") = some (.ref ia)) ∨ (m' (Str.ofString "found") = some (lookCh (2 * (k1 : Int)) ch2) ∧ m' (Str.ofString "at") = some (.ref ba))))) ?_ 1
      ⟨P3, _, hP3, SW, .inl ⟨rfl, by walk_at "z lk", by walk_at "z lk"⟩⟩
    rintro K E2 k s5 ⟨P5, m5, hP5, S5, ⟨rfl, e1, e2⟩ | ⟨e1, e2⟩⟩ hnx hrt
    · have Ia5 := Ia.mono hP5
      repeat walk_at "z"
      rename_i s6' S6'
      refine call_ hP5 (by walk_at "z lk") (by walk_at "z lk") (hch2.mono hP5) (idb hP5) S6' (fun s6 P6 hP6 S6 => ?_)
      repeat walk_at "z"
      walk_at "nil"
      rename_i s7 S7
      exact hnx (0) _ (by lia) ⟨P6, _, hP5.trans hP6, S7, .inr ⟨by walk_at "z lk", by walk_at "z lk"⟩⟩
    · have Ib3 := Ib.mono hP5
      rcases hch2.look (2 * (k1 : Int)) with hl | ⟨y, hl⟩
      · rw [hl] at e1
        repeat walk_at "z"
        walk_at "nil"
        exact after _ _ _ hP5 (by rw [hl]; exact e1) e2 (by walk_at "as")
      · rw [hl] at e1
        repeat walk_at "z"
        walk_at "nil"
        exact after _ _ _ hP5 (by rw [hl]; exact e1) e2 (by walk_at "as")
end
end TG7
section TG8
-- turned
noncomputable def isSym : Thing → Bool
  | .sym _ => true
  | _ => false
theorem isSym_f {t : Thing} (h : ∀ x, t ≠ .sym x) : isSym t = false := by
  cases t <;> first | rfl | exact absurd rfl (h _)
section
variable {c : Cx} {P C : View} {L x dx : Addr} {m : Loc} {mu rho : Led} {s : Shared} {A : Around} {a b d : Value} {n : Nat} {W : Wld} {T : Tab} {bound : List Str} {last : Int} {u : Tok}
theorem is_identifier_ {v : Value} {t : Thing} (h : DV c.w P T v t) : CallsC c (n + 1) 337 [v] P [] (fun P' mu' r => P' = P ∧ mu' = [] ∧ r = .bool (isSym t)) := by
  refine intro c.fx.is_is_identifier [("datum", v)] (fun _ _ _ _ _ _ _ _ => BindsTo.of_eq rfl) (locs rfl) (by decide +kernel) ?_
  intro env A' L' C' s₁ Qb Eb hE hA' S' B
  dsimp only [f_is_identifier, fx_is_identifier, binds0] at *
  rcases h.symOr with ⟨a, x, n, rfl, rfl, hT, k1, u1, I⟩ | ⟨nS, hs⟩
  · repeat walk_at "z"
    exact B.ret (View.le.refl _) (by walk_at "as") ⟨rfl, rfl, rfl⟩
  · have nA := h.notAlias
    rw [isSym_f hs] at B
    repeat walk_at "z"
    exact B.ret (View.le.refl _) (by walk_at "as") ⟨rfl, rfl, rfl⟩
/-- two meanings, the second a global name -/
theorem same_den {g1 g2 b2 : Addr} {n2 : Nat} {t2 : Str} (I2 : Inst c.w P g2 305 [("symbol", .ref b2)]) (hb2 : SymI c.w P b2 n2 t2) {r : Bool}
    (h : (Ex1 fun fs => Inst c.w P g1 263 fs ∧ r = false) ∨ (Ex1 fun fs => Inst c.w P g1 284 fs ∧ r = false) ∨ Ex3 fun b1 n1 t1 => And3 (Inst c.w P g1 305 [("symbol", .ref b1)]) (SymI c.w P b1 n1 t1) (r = decide (n1 = n2))) :
    CallsC c (n + 1) 421 [.ref g1, .ref g2] P [] (fun P' mu' v => P' = P ∧ mu' = [] ∧ v = .bool r) := by
  refine intro c.fx.is_same_denotation [("one", .ref g1), ("other", .ref g2)] (fun _ _ _ _ _ _ _ _ => BindsTo.of_eq rfl) (locs rfl) (by decide +kernel) ?_
  intro env A' L' C' s₁ Qb Eb hE hA' S' B
  dsimp only [f_same_denotation, fx_same_denotation, binds0] at *
  obtain ⟨k2, u2, Ib2⟩ := hb2
  rcases h with ⟨fs, I1, rfl⟩ | ⟨fs, I1, rfl⟩ | ⟨b1, n1, t1, I1, ⟨k1, u1, Ib1⟩, rfl⟩
  · repeat walk_at "z"
    walk_at "nil"
    repeat walk_at "z"
    walk_at "nil"
    repeat walk_at "z"
    walk_at "nil"
    repeat walk_at "z"
    walk_at "nil"
    repeat walk_at "z"
    exact B.ret (View.le.refl _) (by walk_at "as") ⟨rfl, rfl, rfl⟩
  · repeat walk_at "z"
    walk_at "nil"
    repeat walk_at "z"
    walk_at "nil"
    repeat walk_at "z"
    walk_at "nil"
    repeat walk_at "z"
    walk_at "nil"
    repeat walk_at "z"
    exact B.ret (View.le.refl _) (by walk_at "as") ⟨rfl, rfl, rfl⟩
  · repeat walk_at "z"
    walk_at "nil"
    repeat walk_at "z"
    walk_at "nil"
    repeat walk_at "z"
    refine eqI ?_
    refine B.ret (View.le.refl _) (by walk_at "as") ⟨rfl, rfl, ?_⟩
    congr 1
    by_cases e : n1 = n2
    · subst e; simp
    · rw [decide_eq_false e, decide_eq_false (by lia)]
end
theorem WK.chR {c : Cx} {P : View} {W : Wld} {T : Tab} {bound : List Str} (h : WK c P W T bound) : ChV c P (.ref W.rx) [[((0 : Int), Value.ref W.qs)]] := by
  obtain ⟨o, a, b⟩ := h.rD
  refine .cons h.r a b h.rS (fun k v e => ?_) .nil
  unfold valueAt at e
  rw [List.find?_cons] at e
  split at e
  · cases e; exact ⟨_, rfl⟩
  · cases e
theorem lookR {q : Value} {k : Int} : lookCh k [[((0 : Int), q)]] = if k = 0 then q else .none := by
  unfold lookCh lookCh valueAt
  by_cases h : k = 0
  · subst h; simp
  · rw [if_neg h]; simp [Ne.symm h]
theorem WK.num {c : Cx} {P : View} {W : Wld} {T : Tab} {bound : List Str} (h : WK c P W T bound) {i j : Nat} {t : Str} {a b : Addr} (h1 : T[i]? = some (t, a)) (h2 : T[j]? = some (t, b)) : i = j := by
  have nd := h.nd
  obtain ⟨l1, e1⟩ := List.getElem?_eq_some_iff.mp h1
  obtain ⟨l2, e2⟩ := List.getElem?_eq_some_iff.mp h2
  refine (List.getElem_inj (xs := T.map (·.1)) (h₀ := by simpa using l1) (h₁ := by simpa using l2) nd).mp ?_
  simp [e1, e2]
end TG8
section TG9
-- turned
section
variable {c : Cx} {P C : View} {L x dx : Addr} {m : Loc} {mu rho : Led} {s : Shared} {A : Around} {a b d : Value} {n : Nat} {W : Wld} {T : Tab} {bound : List Str} {last : Int} {u : Tok}
theorem WK.chS (h : WK c P W T bound) : Ex1 fun kvs => And4 (ChV c P (.ref W.sx) [kvs, [((0 : Int), Value.ref W.qs)]]) ((∀ (n : Nat) (t : Str) (a : Addr), T[n]? = some (t, a) → t ∈ bound → Ex2 fun x fs => valueAt kvs (2 * (n : Int)) = some (.ref x) ∧ Inst c.w P x 284 fs)) ((∀ (n : Nat) (t : Str) (a : Addr), T[n]? = some (t, a) → t ∉ bound → valueAt kvs (2 * (n : Int)) = none)) (∀ j : Int, valueAt kvs (2 * j + 1) = none) := by
  obtain ⟨kvs, o, k1, k2, k3, k4, k5, k6, k7⟩ := h.sD
  exact ⟨kvs, .cons h.s k1 k2 h.sS k7 h.chR, k3, k4, k6⟩
theorem same_ {ia ib : Addr} {n1 n2 : Nat} {t1 t2 : Str} (hW : WK c P W T bound) (h1 : T[n1]? = some (t1, ia)) (h2 : T[n2]? = some (t2, ib)) (hq : t2 ≠ "quote") :
    CallsC c (n + 7) 428 [.ref ia, .ref W.sx, .ref ib, .ref W.rx] P [] (fun P' mu' v => mu' = [] ∧ v = .bool (decide (t1 = t2 ∧ t1 ∉ bound))) := by
  refine intro c.fx.is_same [("one", .ref ia), ("scope", .ref W.sx), ("other", .ref ib), ("other_scope", .ref W.rx)] (fun _ _ _ _ _ _ _ _ => BindsTo.of_eq rfl) (locs rfl) (by decide +kernel) ?_
  intro env A' L' C' s₁ Qb Eb hE hA' S' B
  dsimp only [f_same, fx_same, binds0] at *
  obtain ⟨kvs, hch, k3, k4, _⟩ := hW.chS
  have hs1 := hW.syms _ _ _ h1
  have hs2 := hW.syms _ _ _ h2
  have hn2 : (2 * (n2 : Int)) ≠ 0 := by
    intro e
    have : n2 = 0 := by lia
    subst this
    obtain ⟨a, ha⟩ := hW.T0
    rw [ha] at h2
    cases h2
    exact hq rfl
  repeat walk_at "z"
  walk_at "z c2"
  repeat walk_at "z"
  refine methF S' hW.s c.fx.m_Scope_find (by rfl) ?_
  refine cW1 c.fx.m_Scope_find.keep ?_
  repeat walk_at "z"
  refine ⟨S'.K, ?_⟩
  refine cc0 (scope_find (n := n + 1) (sb := 0) (ch2 := []) hch hs1 (.inl ⟨rfl, rfl⟩)) (rho := []) S' (hA'.le (by walk_at "om")) ?_
  rintro v3 s3 P3 hP3 S3 hf
  have W3 := hW.mono hP3
  repeat walk_at "z"
  refine methF S3 W3.r c.fx.m_Scope_find (by rfl) ?_
  refine cW1 c.fx.m_Scope_find.keep ?_
  repeat walk_at "z"
  refine ⟨S3.K, ?_⟩
  refine cc0 (scope_find (n := n + 1) (sb := 0) (ch2 := []) W3.chR (hs2.mono hP3) (.inl ⟨rfl, rfl⟩)) (rho := []) S3 (hA'.le (by walk_at "om")) ?_
  rintro v4 s4 P4 hP4 S4 hg
  rw [lookR, if_neg hn2] at hg
  obtain ⟨g2, rfl, I2⟩ : Ex1 fun g => v4 = .ref g ∧ Inst c.w P4 g 305 [("symbol", .ref ib)] := by
    rcases hg with ⟨_, h⟩ | ⟨h, _⟩
    · exact h
    · exact absurd rfl h
  have P34 := hP3.trans hP4
  have key : Ex2 fun g1 r => And3 (v3 = .ref g1) (r = decide (t1 = t2 ∧ t1 ∉ bound)) (((Ex1 fun fs => Inst c.w P4 g1 263 fs ∧ r = false) ∨ (Ex1 fun fs => Inst c.w P4 g1 284 fs ∧ r = false) ∨ Ex3 fun b1 n1 t1 => And3 (Inst c.w P4 g1 305 [("symbol", .ref b1)]) (SymI c.w P4 b1 n1 t1) (r = decide (n1 = n2)))) := by
    by_cases hb : t1 ∈ bound
    · obtain ⟨x, fs, e, I⟩ := k3 _ _ _ h1 hb
      rcases hf with ⟨h, _⟩ | ⟨_, h⟩
      · unfold lookCh at h; rw [e] at h; cases h
      · unfold lookCh at h; rw [e] at h
        subst h
        exact ⟨x, false, rfl, (decide_eq_false (fun h => h.2 hb)).symm, .inr (.inl ⟨fs, I.mono P34, rfl⟩)⟩
    · have e := k4 _ _ _ h1 hb
      have e2 : lookCh (2 * (n1 : Int)) [kvs, [((0 : Int), Value.ref W.qs)]] = if (2 * (n1 : Int)) = 0 then .ref W.qs else .none := by
        rw [← lookR]; conv => lhs; unfold lookCh
        rw [e]
      rw [e2] at hf
      by_cases h0 : (2 * (n1 : Int)) = 0
      · rw [if_pos h0] at hf
        rcases hf with ⟨h, _⟩ | ⟨_, h⟩
        · cases h
        · subst h
          have hn1 : n1 = 0 := by lia
          subst hn1
          obtain ⟨a, ha⟩ := hW.T0
          rw [ha] at h1
          cases h1
          obtain ⟨u, Iq⟩ := hW.q
          exact ⟨W.qs, false, rfl, (decide_eq_false (fun h => hq h.1.symm)).symm, .inl ⟨_, Iq.mono P34, rfl⟩⟩
      · rw [if_neg h0] at hf
        rcases hf with ⟨_, g, rfl, I⟩ | ⟨h, _⟩
        · refine ⟨g, decide (n1 = n2), rfl, ?_, .inr (.inr ⟨ia, n1, t1, I.mono hP4, hs1.mono P34, rfl⟩)⟩
          by_cases et : t1 = t2
          · subst et
            rw [decide_eq_true (hW.num h1 h2), decide_eq_true ⟨rfl, hb⟩]
          · refine (decide_eq_false ?_).trans (decide_eq_false (fun h => et h.1)).symm
            rintro rfl
            rw [h1] at h2
            cases h2
            exact et rfl
        · exact absurd rfl h
  obtain ⟨g1, r, rfl, hr, hcase⟩ := key
  refine ⟨S4.K, ?_⟩
  refine ccn (same_den (n := n) I2 (hs2.mono P34) hcase) S4 (hA'.le (by walk_at "om")) ?_
  rintro v5 s5 P5 mu5 hP5 S5 ⟨rfl, rfl, rfl⟩
  exact B.ret P34 S5 ⟨rfl, by rw [hr]⟩
end
end TG9
section TG10
-- turned
noncomputable def isMk (bound : List Str) (tx : Str) : Thing → Bool
  | .pair (.sym w) (.pair _ .nil) => decide (w = tx ∧ w ∉ bound)
  | _ => false
theorem isMk_f {bound : List Str} {tx : Str} {t : Thing} (h : ∀ w z, t ≠ .pair (.sym w) (.pair z .nil)) : isMk bound tx t = false := by
  unfold isMk
  split
  · exact absurd rfl (h _ _)
  · rfl
/-- the template's own object -/
noncomputable abbrev TmV (c : Cx) (P : View) (W : Wld) (tp : Addr) : Prop := Inst c.w P tp 550 [("scope", .ref W.sx), ("world", .ref W.wx)]
section
variable {c : Cx} {P C : View} {L x dx tp : Addr} {m : Loc} {mu rho : Led} {s : Shared} {A : Around} {a b d : Value} {n : Nat} {W : Wld} {T : Tab} {bound : List Str} {last : Int} {u : Tok}
/-- a field of the world -/
theorem getW {expr : Bool} {name : Str} {v : Value} {E : Value → Shared → Prop} {Q : Value → Shared → Prop} (S : St c P C L m (WL c W T last u ++ mu) s) (hW : WK c P W T bound) (ha : AttrOk c.K 641 name)
    (hf : List.lookup name [("table", .ref W.tx), ("last", .int last u), ("titles", W.v1), ("ops", W.v2), ("root", Value.ref W.rx)] = some v) (hv : handedIn v = true) (h : ∀ s', St c P C L m (WL c W T last u ++ mu) s' → Q v s') :
    wpAny c.M A (getAttr (.ref W.wx) name expr) Q E s :=
  getFmu (rot3 S) hW.w ha hf hv fun s' S' => h s' (rot3' S')
theorem getWn {expr : Bool} {name : Str} {v : Value} {E : Value → Shared → Prop} {Q : Value → Shared → Prop} (S : St c P C L m (WL c W T last u) s) (hW : WK c P W T bound) (ha : AttrOk c.K 641 name)
    (hf : List.lookup name [("table", .ref W.tx), ("last", .int last u), ("titles", W.v1), ("ops", W.v2), ("root", Value.ref W.rx)] = some v) (hv : handedIn v = true) (h : ∀ s', St c P C L m (WL c W T last u) s' → Q v s') :
    wpAny c.M A (getAttr (.ref W.wx) name expr) Q E s :=
  getW (mu := []) (by rw [List.append_nil]; exact S) hW ha hf hv fun s' S' => h s' (by rw [List.append_nil] at S'; exact S')
theorem tm_marks {v : Value} {t : Thing} {tx : Str} {t0 : Tok} (hT : TmV c P W tp) (hW : WK c P W T bound) (h : DV c.w P T v t) (hu : tx ∈ Univ) (hq : tx ≠ "quote") :
    CallsC c (n + 9) 477 [.ref tp, v, .str tx t0] P (WL c W T last u) (fun P' mu' r => Ex1 fun T' => And4 (T <+: T') (WK c P' W T' bound) (mu' = WL c W T' last u) (r = .bool (isMk bound tx t))) := by
  refine intro c.fx.is_Template_marks [("self", .ref tp), ("datum", v), ("text", .str tx t0)] (fun _ _ _ _ _ _ _ _ => BindsTo.of_eq rfl) (locs rfl) (by decide +kernel) ?_
  intro env A' L' C' s₁ Qb Eb hE hA' S' B
  dsimp only [f_Template_marks, fx_Template_marks, binds0] at *
  have no : ∀ s2 P2, P.le P2 → St c P2 C' L' (upd (upd (upd noLoc "self" (.ref tp)) "datum" v) "text" (.str tx t0)) (WL c W T last u) s2 → isMk bound tx t = false → Qb (.ret (.bool false)) s2 :=
    fun s2 P2 hP2 S2 e => B.ret hP2 S2 ⟨T, List.prefix_refl _, hW.mono hP2, rfl, by rw [e]⟩
  rcases h.pairOr with ⟨a, x, y, tx1, ty, rfl, rfl, I, hx, hy⟩ | ⟨nP, hn⟩
  rotate_left
  · repeat walk_at "z"
    exact no _ _ (View.le.refl _) (by walk_at "as") (isMk_f fun _ _ e => hn _ _ e)
  have hxi := hx.hi
  have hyi := hy.hi
  repeat walk_at "z"
  walk_at "z c1"
  repeat walk_at "z"
  refine ⟨St.K (by walk_at "as"), ?_⟩
  refine cc (is_identifier_ (n := n) hx) (rho := WL c W T last u) (by walk_at "as") (hA'.le (by walk_at "om")) ?_
  rintro v3 s3 P3 mu3 hP3 S3 ⟨rfl, rfl, rfl⟩
  try simp only [List.nil_append] at S3
  cases hs : isSym tx1 with
  | false =>
    repeat walk_at "z"
    exact no _ _ (View.le.refl _) (by walk_at "as") (isMk_f fun w z e => by injection e with e1 e2; rw [e1] at hs; cases hs)
  | true =>
    obtain ⟨w, rfl⟩ : ∃ w, tx1 = .sym w := by cases tx1 <;> first | exact ⟨_, rfl⟩ | cases hs
    repeat walk_at "z"
    walk_at "nil"
    rcases hy.pairOr with ⟨a2, x2, y2, tx2, ty2, rfl, rfl, I2, hx2, hy2⟩ | ⟨nP2, hn2⟩
    rotate_left
    · repeat walk_at "z"
      exact no _ _ (View.le.refl _) (by walk_at "as") (isMk_f fun _ z e => by injection e with _ e2; exact hn2 _ _ e2)
    have hyi2 := hy2.hi
    rcases hy2.nilOr with ⟨rfl, rfl⟩ | ⟨nE, hn3⟩
    rotate_left
    · repeat walk_at "z"
      exact no _ _ (View.le.refl _) (by walk_at "as") (isMk_f fun _ _ e => by injection e with _ e2; injection e2 with _ e3; exact hn3 e3)
    repeat walk_at "z"
    walk_at "nil"
    obtain ⟨ia, n1, rfl, hT1, hI1⟩ := hx.symInv
    repeat walk_at "z"
    walk_at "z c4"
    repeat walk_at "z"
    refine getW (mu := []) (by walk_at "as") hW c.fx.a_Names_table (by walk_at "z fl") rfl (fun s5 S5 => ?_)
    refine methF S5 hW.t c.fx.m_SymbolTable_symbol (by rfl) ?_
    refine cW1 c.fx.m_SymbolTable_symbol.keep ?_
    repeat walk_at "z"
    refine ⟨S5.K, ?_⟩
    refine ccn (tbl_symbol (n := n) tx t0 hW hu) S5 (hA'.le (by walk_at "om")) ?_
    rintro v6 s6 P6 mu6 hP6 S6 ⟨T6, ib, hT6, W6, rfl, rfl, hib⟩
    have hTm := Inst.mono hT hP6
    repeat walk_at "z"
    refine getW (mu := []) (by walk_at "as") W6 c.fx.a_Names_root (by walk_at "z fl") rfl (fun s8 S8 => ?_)
    refine ⟨S8.K, ?_⟩
    obtain ⟨n2, hn2⟩ := List.mem_iff_getElem?.mp hib
    have hT1' : T6[n1]? = some (w, ia) := by
      obtain ⟨r, rfl⟩ := hT6
      rw [List.getElem?_append_left (List.getElem?_eq_some_iff.mp hT1).1]; exact hT1
    refine cc0 (same_ (n := n + 1) W6 hT1' hn2 hq) (rho := WL c W T6 last u) S8 (hA'.le (by walk_at "om")) ?_
    rintro v9 s9 P9 hP9 S9 rfl
    exact B.ret (hP6.trans hP9) S9 ⟨T6, hT6, W6.mono hP9, rfl, rfl⟩
/-- which mark a datum is -/
noncomputable def mkM (bound : List Str) : List Str := [wU, wS, wQ].filter fun w => decide (w ∉ bound)
theorem isMk_word {bound : List Str} {t : Thing} : (if isMk bound wU t then wU else if isMk bound wS t then wS else if isMk bound wQ t then wQ else "") = (match markOf (mkM bound) t with
    | some (w, _) => w
    | none => "") := by
  have nUS : ¬ (wU = wS) := by decide +kernel
  have nUQ : ¬ (wU = wQ) := by decide +kernel
  have nSQ : ¬ (wS = wQ) := by decide +kernel
  cases t with
  | pair a d =>
    cases a with
    | sym w =>
      cases d with
      | pair x y =>
        cases y with
        | nil =>
          have hmem : (w ∈ mkM bound) ↔ ((w = wU ∨ w = wS ∨ w = wQ) ∧ w ∉ bound) := by unfold mkM; simp [List.mem_filter]
          unfold isMk markOf
          walk_at "ds"
          by_cases hb : w ∈ bound
          · have h0 : w ∉ mkM bound := fun h => (hmem.mp h).2 hb
            rw [if_neg h0]
            simp [hb]
          · by_cases h1 : w = wU
            · subst h1
              rw [if_pos (hmem.mpr ⟨.inl rfl, hb⟩)]; simp [hb]
            · by_cases h2 : w = wS
              · subst h2
                rw [if_pos (hmem.mpr ⟨.inr (.inl rfl), hb⟩)]; simp [hb, Ne.symm nUS]
              · by_cases h3 : w = wQ
                · subst h3
                  rw [if_pos (hmem.mpr ⟨.inr (.inr rfl), hb⟩)]; simp [hb, Ne.symm nUQ, Ne.symm nSQ]
                · have h0 : w ∉ mkM bound := fun h => by
                    rcases (hmem.mp h).1 with h | h | h
                    · exact h1 h
                    · exact h2 h
                    · exact h3 h
                  rw [if_neg h0]
                  simp [h1, h2, h3]
        | _ => rfl
      | _ => rfl
    | _ => rfl
  | _ => rfl
end
end TG10
section TG11
-- turned
theorem isMk_wordOf {bound : List Str} {t : Thing} : (if isMk bound wU t then wU else if isMk bound wS t then wS else if isMk bound wQ t then wQ else "") = wordOf (mkM bound) t := by
  unfold wordOf; exact isMk_word
section
variable {c : Cx} {P C : View} {L x dx tp : Addr} {m : Loc} {mu rho : Led} {s : Shared} {A : Around} {a b d : Value} {n : Nat} {W : Wld} {T : Tab} {bound : List Str} {last : Int} {u : Tok}
theorem tm_mark {v : Value} {t : Thing} (hT : TmV c P W tp) (hW : WK c P W T bound) (h : DV c.w P T v t) :
    CallsC c (n + 10) 484 [.ref tp, v] P (WL c W T last u) (fun P' mu' r => Ex1 fun T' => And4 (T <+: T') (WK c P' W T' bound) (mu' = WL c W T' last u) (∃ u', r = .str (wordOf (mkM bound) t) u')) := by
  refine intro c.fx.is_Template_mark [("self", .ref tp), ("datum", v)] (fun _ _ _ _ _ _ _ _ => BindsTo.of_eq rfl) (locs rfl) (by decide +kernel) ?_
  intro env A' L' C' s₁ Qb Eb hE hA' S' B
  dsimp only [f_Template_mark, fx_Template_mark, binds0] at *
  obtain ⟨tU, gU⟩ := c.fx.g_UNQUOTE
  obtain ⟨tS, gS⟩ := c.fx.g_SPLICE
  obtain ⟨tQ, gQ⟩ := c.fx.g_QUASIQUOTE
  repeat walk_at "z"
  refine wpAny_For ?_
  walk_at "z"
  refine nm_glob (by walk_at "as") hE (by decide +kernel) gU ?_
  refine nm_glob (by walk_at "as") hE (by decide +kernel) gS ?_
  refine nm_glob (by walk_at "as") hE (by decide +kernel) gQ ?_
  refine newTup (by walk_at "as") (fun t2 s2 P2 hP2 ht2 S2 => ?_) (by simp)
  refine iterT S2 ht2 ?_
  intro it s4 hC X S4
  have hdi := h.hi
  refine forS S4 hE (by decide +kernel) hA'.handled hC X (fun i P' m' mu' => m' "self" = some (.ref tp) ∧ m' "datum" = some v ∧ (Ex1 fun T' => And3 (T <+: T') (WK c P' W T' bound) (mu' = WL c W T' last u)) ∧ ∀ w ∈ [wU, wS, wQ].take i, isMk bound w t = false) ?_ ?_ ?_
  · exact ⟨by walk_at "z lk", by walk_at "z lk", ⟨T, List.prefix_refl _, hW.mono hP2, rfl⟩, fun w hw => nomatch hw⟩
  · intro i v5 P' m' mu' s5 C5 E E2 hi hv hP hC5 hJ S5 hnext hret herr
    obtain ⟨e1, e2, ⟨T5, hT5, W5, rfl⟩, hno⟩ := hJ
    obtain ⟨w, tk, rfl, hw⟩ : Ex2 fun w tk => v5 = .str w tk ∧ [wU, wS, wQ][i]? = some w := by
      rcases i with _ | _ | _ | i
      · cases hv; exact ⟨_, _, rfl, rfl⟩
      · cases hv; exact ⟨_, _, rfl, rfl⟩
      · cases hv; exact ⟨_, _, rfl, rfl⟩
      · simp at hv
    have hwm := List.mem_of_getElem? hw
    have hu : w ∈ Univ := by
      simp only [List.mem_cons, List.not_mem_nil, or_false] at hwm
      rcases hwm with rfl | rfl | rfl <;> decide +kernel
    have hq : w ≠ "quote" := by
      simp only [List.mem_cons, List.not_mem_nil, or_false] at hwm
      rcases hwm with rfl | rfl | rfl <;> decide +kernel
    have hTm := Inst.mono hT (hP2.trans hP)
    have h5 := h.mono (hP2.trans hP) hT5
    repeat walk_at "z"
    refine methF S5 hTm c.fx.m_Template_marks (by rfl) ?_
    refine cW2 c.fx.m_Template_marks.keep ?_
    repeat walk_at "z"
    refine ⟨S5.K, ?_⟩
    refine ccn (tm_marks (n := n) (t0 := tk) hTm W5 h5 hu hq) S5 (hA'.le (by walk_at "om")) ?_
    rintro v6 s6 P6 mu6 hP6 S6 ⟨T6, hT6, W6, rfl, rfl⟩
    cases hmk : isMk bound w t with
    | true =>
      repeat walk_at "z"
      refine hret hP6 (by walk_at "as") (fun s7 S7 => ?_)
      refine B.ret (hP2.trans (hP.trans hP6)) S7 ⟨T6, hT5.trans hT6, W6, rfl, tk, ?_⟩
      rw [← isMk_wordOf]
      congr 1
      rcases i with _ | _ | _ | i
      · cases hw; rw [if_pos hmk]
      · cases hw; rw [if_neg (by rw [hno wU (.head _)]; decide), if_pos hmk]
      · cases hw; rw [if_neg (by rw [hno wU (.head _)]; decide), if_neg (by rw [hno wS (.tail _ (.head _))]; decide), if_pos hmk]
      · simp at hw
    | false =>
      repeat walk_at "z"
      walk_at "nil"
      repeat walk_at "z"
      walk_at "nil"
      refine hnext hP6 ⟨by walk_at "z lk", by walk_at "z lk", ⟨T6, hT5.trans hT6, W6, rfl⟩, fun w' hw' => ?_⟩ S6
      rw [List.take_add_one, hw] at hw'
      rcases List.mem_append.mp hw' with h | h
      · exact hno w' h
      · simp at h; subst h; exact hmk
  · intro P' m' mu' s5 hP hJ S5
    obtain ⟨e1, e2, ⟨T5, hT5, W5, rfl⟩, hno⟩ := hJ
    walk_at "ds"
    repeat walk_at "z"
    have hn : ∀ w ∈ [wU, wS, wQ], isMk bound w t = false := fun w hw => hno w hw
    have e : wordOf (mkM bound) t = "" := by
      rw [← isMk_wordOf, hn wU (by simp), hn wS (by simp), hn wQ (by simp)]
      rfl
    rw [← e]
    exact B.ret (hP2.trans hP) (by walk_at "as") ⟨T5, hT5, W5, rfl, _, rfl⟩
end
end TG11
section TG12
-- turned
/-- a form's head: an alias of a word at the root -/
noncomputable def WdV (c : Cx) (P : View) (W : Wld) (T : Tab) (v : Value) (w : Str) : Prop := Ex2 fun b n => And3 (T[n]? = some (w, b)) (SymI c.w P b n w) (AlV c.w P v (.ref b) (.ref W.rx))
theorem WdV.mono {c : Cx} {P P' : View} {W : Wld} {T T' : Tab} {v : Value} {w : Str} (h : WdV c P W T v w) (k : P.le P') (hT : T <+: T') : WdV c P' W T' v w := by
  obtain ⟨b, n, h1, h2, h3⟩ := h
  refine ⟨b, n, ?_, h2.mono k, h3.mono k⟩
  obtain ⟨r, rfl⟩ := hT
  rw [List.getElem?_append_left (List.getElem?_eq_some_iff.mp h1).1]; exact h1
mutual
/-- a value stands for a form -/
inductive FV (c : Cx) (P : View) (W : Wld) (T : Tab) : Value → Form → Prop
  | hole {v t} : DV c.w P T v t → FV c P W T v (.hole t)
  | quote {v a d t} : WdV c P W T a "quote" → RowV c.w P v [a, d] (.ref 44) → DV c.w P T d t → FV c P W T v (.quote t)
  | cons {v a x y f g} : WdV c P W T a "%cons" → RowV c.w P v [a, x, y] (.ref 44) → FV c P W T x f → FV c P W T y g → FV c P W T v (.cons f g)
  | append {v a x y t g} : WdV c P W T a "%append" → RowV c.w P v [a, x, y] (.ref 44) → DV c.w P T x t → FV c P W T y g → FV c P W T v (.append t g)
  | l2v {v a x f} : WdV c P W T a "%list->vector" → RowV c.w P v [a, x] (.ref 44) → FV c P W T x f → FV c P W T v (.l2v f)
end
theorem FV.mono {c : Cx} {P P' : View} {W : Wld} {T T' : Tab} (k : P.le P') (hT : T <+: T') {v : Value} {f : Form} (h : FV c P W T v f) : FV c P' W T' v f := by
  induction h with
  | hole d => exact .hole (d.mono k hT)
  | quote a b d => exact .quote (a.mono k hT) (b.mono k) (d.mono k hT)
  | cons a b _ _ i1 i2 => exact .cons (a.mono k hT) (b.mono k) i1 i2
  | append a b d _ i2 => exact .append (a.mono k hT) (b.mono k) (d.mono k hT) i2
  | l2v a b _ i => exact .l2v (a.mono k hT) (b.mono k) i
/-- the quoting of this very datum -/
noncomputable def QV (c : Cx) (P : View) (W : Wld) (T : Tab) (v d : Value) : Prop := Ex1 fun a => WdV c P W T a "quote" ∧ RowV c.w P v [a, d] (.ref 44)
section
variable {c : Cx} {P C : View} {L x dx tp : Addr} {m : Loc} {mu rho : Led} {s : Shared} {A : Around} {a b d : Value} {n : Nat} {W : Wld} {T : Tab} {bound : List Str} {last : Int} {u : Tok}
theorem tm_word {w : Str} {t0 : Tok} (hT : TmV c P W tp) (hW : WK c P W T bound) (hu : w ∈ Univ) :
    CallsC c (n + 6) 470 [.ref tp, .str w t0] P (WL c W T last u) (fun P' mu' r => Ex3 fun T' l' u' => And4 (T <+: T') (WK c P' W T' bound) (mu' = WL c W T' l' u') (WdV c P' W T' r w)) := by
  refine intro c.fx.is_Template_word [("self", .ref tp), ("text", .str w t0)] (fun _ _ _ _ _ _ _ _ => BindsTo.of_eq rfl) (locs rfl) (by decide +kernel) ?_
  intro env A' L' C' s₁ Qb Eb hE hA' S' B
  dsimp only [f_Template_word, fx_Template_word, binds0] at *
  repeat walk_at "z"
  walk_at "z c3"
  repeat walk_at "z"
  refine getWn (by walk_at "as") hW c.fx.a_Names_table (by walk_at "z fl") rfl (fun s5 S5 => ?_)
  refine methF S5 hW.t c.fx.m_SymbolTable_symbol (by rfl) ?_
  refine cW1 c.fx.m_SymbolTable_symbol.keep ?_
  repeat walk_at "z"
  refine ⟨S5.K, ?_⟩
  refine ccn (tbl_symbol (n := n) w t0 hW hu) S5 (hA'.le (by walk_at "om")) ?_
  rintro v6 s6 P6 mu6 hP6 S6 ⟨T6, ib, hT6, W6, rfl, rfl, hib⟩
  have hTm := Inst.mono hT hP6
  repeat walk_at "z"
  refine getWn (by walk_at "as") W6 c.fx.a_Names_root (by walk_at "z fl") rfl (fun s8 S8 => ?_)
  repeat walk_at "z"
  refine ⟨St.K (by walk_at "as"), ?_⟩
  obtain ⟨n2, hn2⟩ := List.mem_iff_getElem?.mp hib
  refine ccn (alias_of_ (n := n + 1) W6) (by walk_at "as") (hA'.le (by walk_at "om")) ?_
  rintro v9 s9 P9 mu9 hP9 S9 ⟨hal, u9, rfl⟩
  exact B.ret (hP6.trans hP9) S9 ⟨T6, _, _, hT6, W6.mono hP9, rfl, ib, n2, hn2, (W6.syms _ _ _ hn2).mono hP9, hal⟩
end
end TG12
section TG13
-- turned
section
variable {c : Cx} {P C : View} {L x dx tp : Addr} {m : Loc} {mu rho : Led} {s : Shared} {A : Around} {a b d : Value} {n : Nat} {W : Wld} {T : Tab} {bound : List Str} {last : Int} {u : Tok}
theorem tm_quoted {v : Value} (hT : TmV c P W tp) (hW : WK c P W T bound) :
    CallsC c (n + 7) 491 [.ref tp, v] P (WL c W T last u) (fun P' mu' r => Ex3 fun T' l' u' => And4 (T <+: T') (WK c P' W T' bound) (mu' = WL c W T' l' u') (QV c P' W T' r v)) := by
  refine intro c.fx.is_Template_quoted [("self", .ref tp), ("datum", v)] (fun _ _ _ _ _ _ _ _ => BindsTo.of_eq rfl) (locs rfl) (by decide +kernel) ?_
  intro env A' L' C' s₁ Qb Eb hE hA' S' B
  dsimp only [f_Template_quoted, fx_Template_quoted, binds0] at *
  repeat walk_at "z"
  walk_at "z c1"
  repeat walk_at "z"
  refine methF S' hT c.fx.m_Template_word (by rfl) ?_
  refine cW1 c.fx.m_Template_word.keep ?_
  walk_at "z"
  refine ⟨St.K (by walk_at "as"), ?_⟩
  refine ccn (tm_word (n := n) hT hW (by decide +kernel)) (by walk_at "as") (hA'.le (by walk_at "om")) ?_
  rintro v3 s3 P3 mu3 hP3 S3 ⟨T3, l3, u3, hT3, W3, rfl, hw3⟩
  repeat walk_at "z"
  refine newLst S3 (fun l4 s4 _ S4 => ?_) (by simp)
  obtain ⟨P5, hP5, hl5, S5⟩ := S4.freezeL
  refine ⟨S5.K, ?_⟩
  refine cc0 (list_of1 (n := n + 3) hl5 (by simp)) (rho := WL c W T3 l3 u3) S5 (hA'.le (by walk_at "om")) ?_
  rintro v6 s6 P6 hP6 S6 hr6
  exact B.ret (hP3.trans (hP5.trans hP6)) S6 ⟨T3, l3, u3, hT3, W3.mono (hP5.trans hP6), rfl, v3, hw3.mono (hP5.trans hP6) (List.prefix_refl _), hr6⟩
theorem tm_consed {v w : Value} (hT : TmV c P W tp) (hW : WK c P W T bound) :
    CallsC c (n + 7) 498 [.ref tp, v, w] P (WL c W T last u) (fun P' mu' r => Ex4 fun T' l' u' a => And5 (T <+: T') (WK c P' W T' bound) (mu' = WL c W T' l' u') (WdV c P' W T' a "%cons") (RowV c.w P' r [a, v, w] (.ref 44))) := by
  refine intro c.fx.is_Template_consed [("self", .ref tp), ("one", v), ("other", w)] (fun _ _ _ _ _ _ _ _ => BindsTo.of_eq rfl) (locs rfl) (by decide +kernel) ?_
  intro env A' L' C' s₁ Qb Eb hE hA' S' B
  dsimp only [f_Template_consed, fx_Template_consed, binds0] at *
  repeat walk_at "z"
  walk_at "z c1"
  repeat walk_at "z"
  refine methF S' hT c.fx.m_Template_word (by rfl) ?_
  refine cW1 c.fx.m_Template_word.keep ?_
  walk_at "z"
  refine ⟨St.K (by walk_at "as"), ?_⟩
  refine ccn (tm_word (n := n) hT hW (by decide +kernel)) (by walk_at "as") (hA'.le (by walk_at "om")) ?_
  rintro v3 s3 P3 mu3 hP3 S3 ⟨T3, l3, u3, hT3, W3, rfl, hw3⟩
  repeat walk_at "z"
  refine newLst S3 (fun l4 s4 _ S4 => ?_) (by simp)
  obtain ⟨P5, hP5, hl5, S5⟩ := S4.freezeL
  refine ⟨S5.K, ?_⟩
  refine cc0 (list_of1 (n := n + 3) hl5 (by simp)) (rho := WL c W T3 l3 u3) S5 (hA'.le (by walk_at "om")) ?_
  rintro v6 s6 P6 hP6 S6 hr6
  exact B.ret (hP3.trans (hP5.trans hP6)) S6 ⟨T3, l3, u3, v3, hT3, W3.mono (hP5.trans hP6), rfl, hw3.mono (hP5.trans hP6) (List.prefix_refl _), hr6⟩
end
end TG13
section TG14
-- turned
section
variable {c : Cx} {P C : View} {L x dx tp : Addr} {m : Loc} {mu rho : Led} {s : Shared} {A : Around} {a b d : Value} {n : Nat} {W : Wld} {T : Tab} {bound : List Str} {last : Int} {u : Tok}
/-- an alias of a symbol: the symbol -/
theorem root_symbol_ {v : Value} {ba : Addr} {k1 : Nat} {tx : Str} {sc : Value} (h : AlV c.w P v (.ref ba) sc) (hb : SymI c.w P ba k1 tx) : CallsC c (n + 1) 351 [v] P [] (fun P' mu' r => P' = P ∧ mu' = [] ∧ r = .ref ba) := by
  obtain ⟨ia, j, ju, rfl, Ia⟩ := h
  obtain ⟨k2, u2, Ib⟩ := hb
  refine intro c.fx.is_root_symbol [("identifier", .ref ia)] (fun _ _ _ _ _ _ _ _ => BindsTo.of_eq rfl) (locs rfl) (by decide +kernel) ?_
  intro env A' L' C' s₁ Qb Eb hE hA' S' B
  dsimp only [f_root_symbol, fx_root_symbol, binds0] at *
  repeat walk_at "z"
  rename_i sW SW
  refine whileS (fun k s => Ex1 fun m' => St c P C' L' m' [] s ∧ ((k = 1 ∧ m' (Str.ofString "at") = some (.ref ia)) ∨ m' (Str.ofString "at") = some (.ref ba))) ?_ 1 ⟨_, SW, .inl ⟨rfl, by walk_at "z lk"⟩⟩
  rintro K E2 k s3 ⟨m3, S3, ⟨rfl, e1⟩ | e1⟩ hnx hrt
  · repeat walk_at "z"
    walk_at "nil"
    rename_i s4 S4
    exact hnx (0) _ (by lia) ⟨_, S4, .inr (by walk_at "z lk")⟩
  · repeat walk_at "z"
    walk_at "nil"
    repeat walk_at "z"
    exact B.ret (View.le.refl _) (by walk_at "as") ⟨rfl, rfl, rfl⟩
/-- pairs, each with its datum -/
inductive SpV (w : World) (P : View) (T : Tab) : List Value → Value → Value → List Thing → Thing → Thing → Prop
  | nil {v t} : DV w P T v t → SpV w P T [] v v [] t t
  | cons {a x r vs e tx ty ts te} : Inst w P a 146 [("car", x), ("cdr", r)] → DV w P T x tx → SpV w P T vs r e ts ty te → SpV w P T (.ref a :: vs) (.ref a) e (.pair tx ty :: ts) (.pair tx ty) te
theorem SpV.dv {w : World} {P : View} {T : Tab} {vs : List Value} {v e : Value} {ts : List Thing} {t te : Thing} (h : SpV w P T vs v e ts t te) : DV w P T v t := by
  induction h with
  | nil d => exact d
  | cons I d _ ih => exact .pair I d ih
/-- the pairs that list_of makes of a vector's things -/
theorem RowV.dvs {w : World} {P : View} {T : Tab} {vs : List Value} {v e : Value} (h : RowV w P v vs e) (he : e = .ref 44) : ∀ {ts : List Thing}, DVs w P T vs ts → DV w P T v (row ts .nil) := by
  induction h with
  | nil v => intro ts d; subst he; cases d; exact .nil
  | cons I _ ih =>
    intro ts d
    cases d with
    | cons d ds => exact .pair I d (ih he ds)
theorem RowV.dv {w : World} {P : View} {T : Tab} {vs : List Value} {ts : List Thing} {v : Value} (h : RowV w P v vs (.ref 44)) (d : DVs w P T vs ts) : DV w P T v (row ts .nil) := h.dvs rfl d
end
end TG14
section TG15
-- turned
theorem SpV.mono {w : World} {P P' : View} {T T' : Tab} (k : P.le P') (hT : T <+: T') {vs : List Value} {v e : Value} {ts : List Thing} {t te : Thing} (h : SpV w P T vs v e ts t te) : SpV w P' T' vs v e ts t te := by
  induction h with
  | nil d => exact .nil (d.mono k hT)
  | cons I d _ ih => exact .cons (I.mono k) (d.mono k hT) ih
section
variable {c : Cx} {P C : View} {L x dx tp : Addr} {m : Loc} {mu rho : Led} {s : Shared} {A : Around} {a b d : Value} {n : Nat} {W : Wld} {T : Tab} {bound : List Str} {last : Int} {u : Tok}
theorem tm_spots_of {l : Addr} {vs : List Value} {ts : List Thing} (hl : IsLst P l vs) (hd : DVs c.w P T vs ts) (hz : vs.length ≤ 900) :
    CallsC c (n + 4) 526 [.ref tp, .ref l] P [] (fun P' mu' r => mu' = [] ∧ Ex4 fun k ss v ths => And5 (r = .ref k) (IsLst P' k ss) (SpV c.w P' T ss v (.ref 44) ths (row ts .nil) .nil) (ths.length = ts.length) (ss.length = ts.length)) := by
  refine intro c.fx.is_Template_spots_of [("self", .ref tp), ("things", .ref l)] (fun _ _ _ _ _ _ _ _ => BindsTo.of_eq rfl) (locs rfl) (by decide +kernel) ?_
  intro env A' L' C' s₁ Qb Eb hE hA' S' B
  dsimp only [f_Template_spots_of, fx_Template_spots_of, binds0] at *
  repeat walk_at "z"
  with_reducible refine newLst (by walk_at "as") (fun k2 s2 _ S2 => ?_) (by simp)
  repeat walk_at "z"
  walk_at "z c1"
  repeat walk_at "z"
  refine ⟨St.K (by walk_at "as"), ?_⟩
  refine cc0 (list_of1 (n := n) hl (by lia)) (rho := [_]) (by walk_at "as") (hA'.le (by walk_at "om")) ?_
  rintro v3 s3 P3 hP3 S3 hr3
  repeat walk_at "z"
  have hd3 := hd.mono hP3 (List.prefix_refl T)
  rename_i sW SW
  refine whileS (fun k s => Ex6 fun at_ ss1 ths1 vs' ts' m' => And9 (vs'.length = k) (RowV c.w P3 at_ vs' (.ref 44)) (DVs c.w P3 T vs' ts') (ss1.length + ts'.length = ts.length) (ths1.length = ss1.length) ((∀ ss2 ths2, SpV c.w P3 T ss2 at_ (.ref 44) ths2 (row ts' .nil) .nil → SpV c.w P3 T (ss1 ++ ss2) v3 (.ref 44) (ths1 ++ ths2) (row ts .nil) .nil)) (m' (Str.ofString "found") = some (.ref k2)) (m' (Str.ofString "at") = some at_) (St c P3 C' L' m' [(k2, LstO ss1)] s)) ?_ vs.length
    ⟨v3, [], [], vs, ts, _, rfl, hr3, hd3, by simp, rfl, fun _ _ h => h, by walk_at "z lk", by walk_at "z lk", SW⟩
  rintro K E2 k s5 ⟨at_, ss1, ths1, vs', ts', m5, hk, hrow, hdv, hlen, hlen2, hcl, e1, e2, S5⟩ hnx hrt
  have hsl : ss1.length ≤ 900 := by have := hd.length; lia
  cases hrow with
  | nil =>
    cases hdv
    repeat walk_at "z"
    walk_at "nil"
    repeat walk_at "z"
    obtain ⟨P7, hP7, hl7, S7⟩ := (St.freezeL (by walk_at "as"))
    refine B.ret (hP3.trans hP7) (by walk_at "as") ⟨rfl, k2, ss1, v3, ths1, rfl, hl7, ?_, ?_, ?_⟩
    · have := hcl [] [] (.nil .nil)
      rw [List.append_nil, List.append_nil] at this
      exact this.mono hP7 (List.prefix_refl _)
    · simp at hlen; lia
    · simpa using hlen
  | @cons a x r vs'' t I hrest =>
    cases hdv with
    | @cons _ _ tx ts'' hx hxs =>
      have hri : handedIn r = true := by cases hrest <;> rfl
      repeat walk_at "z"
      refine stAppend hE ?_
      repeat walk_at "z"
      refine ⟨k2, rfl, ?_, ?_⟩
      · obtain ⟨n5, hn5⟩ := St.lstO (a := k2) (xs := ss1) (by walk_at "as") (.head _)
        exact ⟨_, n5, hn5⟩
      repeat walk_at "z"
      refine ⟨_, _, _, _, _, ss1, by lia, by walk_at "as", fun s7 S7 => ?_⟩
      walk_at "ds"
      repeat walk_at "z"
      walk_at "nil"
      rename_i s8 S8
      refine hnx (vs''.length) _ (by rw [← hk]; simp) ⟨r, ss1 ++ [.ref a], ths1 ++ [row (tx :: ts'') .nil], vs'', ts'', _, rfl, hrest, hxs, by simp at hlen ⊢; lia, by simp [hlen2], ?_, by walk_at "z lk", by walk_at "z lk", S8⟩
      intro ss2 ths2 h2
      rw [List.append_assoc, List.append_assoc]
      exact hcl _ _ (.cons I hx h2)
end
end TG15
section TG16
-- turned
section
variable {c : Cx} {P C : View} {L x dx tp : Addr} {m : Loc} {mu rho : Led} {s : Shared} {A : Around} {a b d : Value} {n : Nat} {W : Wld} {T : Tab} {bound : List Str} {last : Int} {u : Tok}
theorem last1 {p : Addr × (Obj → Prop)} {mu : Led} (S : St c P C L m (mu ++ [p]) s) : St c P C L m (p :: mu) s := S.perm List.perm_append_comm
theorem last1' {p : Addr × (Obj → Prop)} {mu : Led} (S : St c P C L m (p :: mu) s) : St c P C L m (mu ++ [p]) s := S.perm (List.perm_append_comm (l₁ := [p]) (l₂ := mu))
theorem wordOf_empty {M : List Str} {t : Thing} (hM : MarksOk M) (h : wordOf M t = "") : markOf M t = none := by
  cases hm : markOf M t with
  | none => rfl
  | some wx =>
    obtain ⟨w, y⟩ := wx
    rw [wordOf_some hm] at h
    obtain ⟨_, hw⟩ := markOf_some hm
    rcases hM w hw with rfl | rfl | rfl <;> exact absurd h (by decide +kernel)
theorem mkM_ok (bound : List Str) : MarksOk (mkM bound) := fun w hw => by
  have := (List.mem_filter.mp hw).1
  simpa using this
/-- where a row ends: no pair that is no mark -/
noncomputable def EndsAt (M : List Str) (t : Thing) : Prop := (∀ a d, t ≠ .pair a d) ∨ markOf M t ≠ none
theorem tm_spots {ta : Addr} {tx ty : Thing} {x0 y0 : Value} (hT : TmV c P W tp) (hW : WK c P W T bound) (I : Inst c.w P ta 146 [("car", x0), ("cdr", y0)]) (hx : DV c.w P T x0 tx) (hy : DV c.w P T y0 ty) (hz : sz ty ≤ 900) :
    CallsC c (n + 11) 533 [.ref tp, .ref ta] P (WL c W T last u) (fun P' mu' r => Ex7 fun T' t k ss e ths te => And10 (T <+: T') (WK c P' W T' bound) (mu' = WL c W T' last u) (r = .ref t) (IsTp P' t [.ref k, e]) (IsLst P' k (.ref ta :: ss)) (SpV c.w P' T' (.ref ta :: ss) (.ref ta) e (.pair tx ty :: ths) (.pair tx ty) te) (EndsAt (mkM bound) te) ((∀ t ∈ ths, markOf (mkM bound) t = none)) (ss.length ≤ 900)) := by
  refine intro c.fx.is_Template_spots [("self", .ref tp), ("template", .ref ta)] (fun _ _ _ _ _ _ _ _ => BindsTo.of_eq rfl) (locs rfl) (by decide +kernel) ?_
  intro env A' L' C' s₁ Qb Eb hE hA' S' B
  dsimp only [f_Template_spots, fx_Template_spots, binds0] at *
  have hyi := hy.hi
  repeat walk_at "z"
  with_reducible refine newLst (by walk_at "as") (fun k2 s2 _ S2 => ?_) (by simp)
  repeat walk_at "z"
  rename_i sW SW
  refine whileS (fun k s => Ex7 fun P5 T5 at_ tt ss1 ths1 m' => And12 (P.le P5) (T <+: T5) (WK c P5 W T5 bound) (sz tt = k) (DV c.w P5 T5 at_ tt) (ss1.length + sz tt ≤ sz ty) ((∀ t ∈ ths1, markOf (mkM bound) t = none)) ((∀ P6 T6 ss2 e ths2 te, P5.le P6 → T5 <+: T6 → SpV c.w P6 T6 ss2 at_ e ths2 tt te → SpV c.w P6 T6 (ss1 ++ ss2) y0 e (ths1 ++ ths2) ty te)) (m' (Str.ofString "self") = some (.ref tp)) (m' (Str.ofString "found") = some (.ref k2)) (m' (Str.ofString "at") = some at_) (St c P5 C' L' m' ((k2, LstO (.ref ta :: ss1)) :: WL c W T5 last u) s)) ?_ (sz ty)
    ⟨P, T, y0, ty, [], [], _, View.le.refl _, List.prefix_refl _, hW, rfl, hy, by simp, (by intro _ h; cases h), fun _ _ _ _ _ _ _ _ h => h, by walk_at "z lk", by walk_at "z lk", by walk_at "z lk", SW⟩
  rintro K E2 k s5 ⟨P5, T5, at_, tt, ss1, ths1, m5, hP5, hT5, W5, hk, hd, hlen, hnm, hcl, e0, e1, e2, S5⟩ hnx hrt
  have hai := hd.hi
  -- behind the loop
  have after : ∀ {P6 T6 m6 s6}, P5.le P6 → T5 <+: T6 → WK c P6 W T6 bound → EndsAt (mkM bound) tt → m6 (Str.ofString "found") = some (.ref k2) → m6 (Str.ofString "at") = some at_ → St c P6 C' L' m6 ((k2, LstO (.ref ta :: ss1)) :: WL c W T6 last u) s6 →
      wpAny c.M A' (execs (f_Template_spots.body.drop 3) env) Qb Eb s6 := by
    intro P6 T6 m6 s6 hP6 hT6 W6 hend e1 e2 S6
    dsimp only [f_Template_spots, fx_Template_spots, List.drop]
    repeat walk_at "z"
    with_reducible refine newTup S6 (fun t9 s9 P9 hP9 ht9 S9 => ?_) (by simp)
    obtain ⟨P7, hP7, hl7, S7⟩ := S9.freezeL
    have hd6 := hd.mono (hP6.trans (hP9.trans hP7)) hT6
    have hin := hcl P7 T6 [] at_ [] tt (hP6.trans (hP9.trans hP7)) hT6 (.nil hd6)
    rw [List.append_nil, List.append_nil] at hin
    have hP37 := hP5.trans (hP6.trans (hP9.trans hP7))
    exact B.ret hP37 S7 ⟨T6, t9, k2, ss1, at_, ths1, tt, hT5.trans hT6, W6.mono (hP9.trans hP7), rfl, rfl, ht9.mono hP7, hl7, .cons (I.mono hP37) (hx.mono hP37 (hT5.trans hT6)) hin, hend, hnm, by lia⟩
  rcases hd.pairOr with ⟨a, x, y, tx1, ty1, rfl, rfl, I1, hx1, hy1⟩ | ⟨nP, hn⟩
  rotate_left
  · repeat walk_at "z"
    walk_at "nil"
    exact after (View.le.refl _) (List.prefix_refl _) W5 (.inl hn) e1 e2 (by walk_at "as")
  have hyi1 := hy1.hi
  have hda : DV c.w P5 T5 (.ref a) (.pair tx1 ty1) := .pair I1 hx1 hy1
  have hTm5 := Inst.mono hT hP5
  have hsz : sz (.pair tx1 ty1) = 1 + sz tx1 + sz ty1 := by rw [sz]
  have hp1 := sz_pos tx1
  repeat walk_at "z"
  refine methF (by walk_at "as") hTm5 c.fx.m_Template_mark (by rfl) ?_
  refine cW1 c.fx.m_Template_mark.keep ?_
  walk_at "z"
  refine ⟨St.K (by walk_at "as"), ?_⟩
  refine cc (tm_mark (n := n) hTm5 W5 hda) (rho := [(k2, LstO (.ref ta :: ss1))]) (last1' (by walk_at "as")) (hA'.le (by walk_at "om")) ?_
  rintro v6 s6 P6 mu6 hP6 S6 ⟨T6, hT6, W6, rfl, u6, rfl⟩
  have S6' := last1 S6
  repeat walk_at "z"
  refine eqS ?_
  by_cases hw : wordOf (mkM bound) (.pair tx1 ty1) = ""
  · have hm := wordOf_empty (mkM_ok bound) hw
    rw [hw]
    have I6 := I1.mono hP6
    simp only [decide_true]
    repeat walk_at "z"
    refine stAppend hE ?_
    walk_at "z"
    refine ⟨k2, rfl, ?_, ?_⟩
    · obtain ⟨n', hn'⟩ := St.lstO (a := k2) (xs := .ref ta :: ss1) (by walk_at "as") (.head _)
      exact ⟨_, n', hn'⟩
    repeat walk_at "z"
    refine ⟨_, _, _, _, _, .ref ta :: ss1, by simp; lia, by walk_at "as", fun s7 S7 => ?_⟩
    walk_at "ds"
    repeat walk_at "z"
    walk_at "nil"
    rename_i s8 S8
    refine hnx (sz ty1) _ (by lia) ⟨P6, T6, y, ty1, ss1 ++ [.ref a], ths1 ++ [.pair tx1 ty1], _, hP5.trans hP6, hT5.trans hT6, W6, rfl, hy1.mono hP6 hT6, ?_, ?_, ?_, ?_, ?_, upd_same, S8⟩
    · simp only [List.length_append, List.length_cons, List.length_nil]; lia
    · intro t ht
      rcases List.mem_append.mp ht with ht | ht
      · exact hnm t ht
      · simp only [List.mem_singleton] at ht
        subst ht
        exact hm
    · intro P8 T8 ss2 e ths2 te hP8 hT8 h8
      have := hcl P8 T8 (.ref a :: ss2) e (.pair tx1 ty1 :: ths2) te (hP6.trans hP8) (hT6.trans hT8) (.cons (I1.mono (hP6.trans hP8)) (hx1.mono (hP6.trans hP8) (hT6.trans hT8)) h8)
      simpa using this
    · walk_at "z lk"
    · walk_at "z lk"
  · have hm : markOf (mkM bound) (.pair tx1 ty1) ≠ none := fun h => hw (by unfold wordOf; rw [h])
    first | with_reducible refine boF (decide_eq_false hw) ?_ | with_reducible refine bnF (decide_eq_false hw) ?_ | rw [decide_eq_false hw]
    repeat walk_at "z"
    walk_at "nil"
    exact after hP6 hT6 W6 (.inr hm) e1 e2 (by walk_at "as")
end
end TG16
section TE1
-- turned
inductive IntsV : List Value → List Int → Prop
  | nil : IntsV [] []
  | cons (n t) {vs ns} : IntsV vs ns → IntsV (.int n t :: vs) (n :: ns)
/-- the deck: ints that are neither below nought nor long -/
noncomputable def DeckO (o : Obj) : Prop := Ex2 fun vs ns => And4 (LstO vs o) (IntsV vs ns) ((∀ n ∈ ns, 0 ≤ n ∧ n < 10 ^ 16)) (vs.length ≤ 100)
theorem IntsV.len {vs : List Value} {ns : List Int} (h : IntsV vs ns) : vs.length = ns.length := by induction h <;> simp [*]
theorem IntsV.reads {h : Heap} {vs : List Value} {ns : List Int} (k : IntsV vs ns) : ∃ as, ReadsAll h vs (ns.map .int) as := by
  induction k with
  | nil => exact ⟨_, .nil⟩
  | cons n t _ ih => obtain ⟨as, r⟩ := ih; exact ⟨_, .cons (.int _ _) r⟩
theorem canLay_ints : ∀ ns : List Int, PyData.canLayAll0 (ns.map .int) = true
  | [] => rfl
  | n :: r => by simp [PyData.canLayAll0, PyData.canLay0, canLay_ints r]
theorem depth_ints : ∀ ns : List Int, PyData.depthAll (ns.map .int) ≤ 1
  | [] => by decide
  | n :: r => by have := depth_ints r; simp only [List.map, PyData.depthAll, PyData.depth]; lia
section
variable {c : Cx} {P C : View} {L x dx tp : Addr} {m : Loc} {mu rho : Led} {s : Shared} {A : Around} {a b d : Value} {n : Nat}
/-- a list of ints against an empty one -/
theorem cmpNil {op : CmpOp} {da db : Addr} {vs : List Value} {ns : List Int} {E : Value → Shared → Prop} {Q : Value → Shared → Prop} (h1 : s.heap.IsList da vs.toArray) (h2 : s.heap.IsList db #[]) (hi : IntsV vs ns) (hu : A.units + 3 < cLine)
    (h : (op = .Eq ∧ Q (.bool (decide (vs = []))) s) ∨ (op = .NotEq ∧ Q (.bool (!decide (vs = []))) s)) : wpAny c.M A (compareOp op (.ref da) (.ref db)) Q E s := by
  obtain ⟨o1, ho1, hc1, n1, hd1⟩ := h1
  obtain ⟨o2, ho2, hc2, n2, hd2⟩ := h2
  obtain ⟨as, r⟩ := hi.reads (h := s.heap)
  have R1 : Reads s.heap (.ref da) (.list (ns.map .int)) (da :: as) := .list ho1 hc1 hd1 (by simpa using r)
  have R2 : Reads s.heap (.ref db) (.list []) (db :: []) := .list ho2 hc2 hd2 .nil
  have e : PyData.eqv (.list (ns.map .int)) (.list []) = decide (vs = []) := by
    cases hi with
    | nil => rfl
    | cons n t _ => simp [PyData.eqv, PyData.eqvAll]
  have hd : A.units + min (PyData.list (ns.map .int)).depth (PyData.list []).depth < cLine := by
    have : (PyData.list []).depth ≤ 2 := by decide
    omega
  rcases h with ⟨rfl, h⟩ | ⟨rfl, h⟩
  · exact SeqAt.compareEq_reads R1 R2 (by simp [PyData.canLay0, canLay_ints]) rfl hd (by rw [e]; exact h)
  · exact SeqAt.compareNe_reads R1 R2 (by simp [PyData.canLay0, canLay_ints]) rfl hd (by rw [e]; exact h)
theorem St.open_ {φ : Obj → Prop} {a : Addr} (S : St c P C L m ((a, φ) :: mu) s) : Ex1 fun o => φ o ∧ St c P C L m ((a, fun x => x = o) :: mu) s := by
  obtain ⟨o, q, S'⟩ := S.hide
  exact ⟨o, q, S'.unhide rfl S.muC⟩
theorem modI {x y : Int} {t u : Tok} {E : Value → Shared → Prop} {Q : Value → Shared → Prop} (hy : y ≠ 0) (S : St c P C L m mu s) (h : ∀ k s', St c P C L m mu s' → Q (.int (x.fmod y) k) s') : wpAny c.M A (binaryOp .Mod (.int x t) (.int y u)) Q E s := PyProof.Rows.mod_int hy (h _ _ (S.toks _))
theorem divI {x y : Int} {t u : Tok} {E : Value → Shared → Prop} {Q : Value → Shared → Prop} (hy : y ≠ 0) (h : Q (.int (x.fdiv y) s.toks) (bump s)) (hs : y.natAbs < 1073741824) : wpAny c.M A (binaryOp .FloorDiv (.int x t) (.int y u)) Q E s := PyProof.Rows.floordiv_int hy h (Or.inl (PyProof.noPylong_small hs))
theorem law_draw {dk : Addr} {many : Int} {t0 : Tok} (hm : 0 < many) (hm2 : many ≤ 100) :
    CallsC c (n + 2) 657 [.ref dk, .int many t0] P [(dk, DeckO)] (fun P' mu' r => mu' = [(dk, DeckO)] ∧ Ex2 fun (k : Nat) (u : Tok) => r = .int k u ∧ (k : Int) < many) := by
  refine intro c.fx.is_law_draw [("deck", .ref dk), ("many", .int many t0)] (fun _ _ _ _ _ _ _ _ => BindsTo.of_eq rfl) (locs rfl) (by decide +kernel) ?_
  intro env A' L' C' s₁ Qb Eb hE hA' S' B
  dsimp only [f_law_draw, fx_law_draw, binds0] at *
  have hu : A'.units + 3 < cLine := by have := hA'.u (n := n + 1) (k := 3) (by lia); exact this
  -- the deck opened
  have opened : ∀ {s2 P2 m2}, St c P2 C' L' m2 [(dk, DeckO)] s2 → Ex2 fun vs ns => And4 (IntsV vs ns) ((∀ n ∈ ns, 0 ≤ n ∧ n < 10 ^ 16)) (vs.length ≤ 100) (St c P2 C' L' m2 [(dk, LstO vs)] s2) := by
    intro s2 P2 m2 S2
    obtain ⟨o, ⟨vs, ns, h1, h2, h3, h4⟩, S3⟩ := S2.open_
    exact ⟨vs, ns, h2, h3, h4, S3.weak fun x e => by subst e; exact h1⟩
  obtain ⟨vs0, ns0, hi0, hb0, hl0, S0⟩ := opened S'
  repeat walk_at "z"
  refine whileS (fun k s => Ex4 fun P2 m2 vs ns => And8 (P.le P2) (vs.length = k) (IntsV vs ns) ((∀ n ∈ ns, 0 ≤ n ∧ n < 10 ^ 16)) (vs.length ≤ 100) (m2 (Str.ofString "deck") = some (.ref dk)) (m2 (Str.ofString "many") = some (.int many t0)) (St c P2 C' L' m2 [(dk, LstO vs)] s)) ?_ vs0.length
    ⟨P, _, vs0, ns0, View.le.refl _, rfl, hi0, hb0, hl0, by walk_at "z lk", by walk_at "z lk", S0⟩
  rintro K E2 k s3 ⟨P3, m3, vs, ns, hP3, hk, hi, hb, hl, e1, e2, S3⟩ hnx hrt
  repeat walk_at "z"
  refine newLst (by walk_at "as") (fun l4 s4 _ S4 => ?_) (by simp)
  refine cmpNil (vs := vs) (S4.lst (.tail _ (.head _))) (by simpa using S4.lst (.head _)) hi hu (.inr ⟨rfl, ?_⟩)
  have S5 := S4.drop
  -- behind the loop
  have after : ∀ s6, St c P3 C' L' m3 [(dk, LstO vs)] s6 → wpAny c.M A' (execs (f_law_draw.body.drop 1) env) Qb Eb s6 := by
    intro s6 S6
    dsimp only [f_law_draw, fx_law_draw, List.drop]
    repeat walk_at "z"
    refine newLst (by walk_at "as") (fun l7 s7 _ S7 => ?_) (by simp)
    refine cmpNil (vs := vs) (S7.lst (.tail _ (.head _))) (by simpa using S7.lst (.head _)) hi hu (.inl ⟨rfl, ?_⟩)
    have S8 := S7.drop
    have back : ∀ {s9 P9 m9 vs9 ns9}, IntsV vs9 ns9 → (∀ n ∈ ns9, 0 ≤ n ∧ n < 10 ^ 16) → vs9.length ≤ 100 → St c P9 C' L' m9 [(dk, LstO vs9)] s9 → St c P9 C' L' m9 [(dk, DeckO)] s9 := fun h1 h2 h3 S9 => S9.weak fun x e => ⟨_, _, e, h1, h2, h3⟩
    cases hi with
    | nil =>
      repeat walk_at "z"
      exact B.ret hP3 (back .nil hb hl (by walk_at "as")) ⟨rfl, 0, _, rfl, hm⟩
    | @cons x t vs ns hi =>
      obtain ⟨hx0, hx1⟩ := hb x (.head _)
      have hmod0 := Int.fmod_nonneg_of_pos x hm
      have hmod1 := Int.fmod_lt_of_pos x hm
      repeat walk_at "z"
      walk_at "nil"
      repeat walk_at "z"
      refine subL (x := .int x t) (St.lst (by walk_at "as") (.head _)) (by decide) (by decide) rfl ?_
      repeat walk_at "z"
      refine modI (by omega) (by walk_at "as") (fun t9 s9 S9 => ?_)
      repeat walk_at "z"
      refine wpAny_Assign_Subscript ?_
      repeat walk_at "z"
      refine subL (x := .int x t) (St.lst (by walk_at "as") (.head _)) (by decide) (by decide) rfl ?_
      repeat walk_at "z"
      refine divI (by omega) ?_ (by omega)
      have hdiv0 : 0 ≤ x.fdiv many := Int.fdiv_nonneg hx0 (by lia)
      have hdiv1 : x.fdiv many < 10 ^ 16 := by
        rw [Int.fdiv_eq_ediv_of_nonneg x (by lia)]
        exact Int.lt_of_le_of_lt (Int.ediv_le_self many hx0) hx1
      repeat walk_at "z"
      refine putL0 (by walk_at "as") (fun s12 S12 => ?_)
      repeat walk_at "z"
      have hb' : ∀ n ∈ x.fdiv many :: ns, 0 ≤ n ∧ n < 10 ^ 16 := fun n hn => by
        rcases List.mem_cons.mp hn with rfl | hn
        · exact ⟨hdiv0, hdiv1⟩
        · exact hb n (.tail _ hn)
      refine B.ret hP3 (back (.cons (x.fdiv many) _ hi) hb' (by simpa using hl) S12) ⟨rfl, (x.fmod many).toNat, t9, by rw [Int.toNat_of_nonneg hmod0], by omega⟩
  cases hi with
  | nil =>
    repeat walk_at "z"
    walk_at "nil"
    exact after _ (by walk_at "as")
  | @cons x t vs ns hi =>
    obtain ⟨hx0, hx1⟩ := hb x (.head _)
    repeat walk_at "z"
    refine subL (x := .int x t) (St.lst (by walk_at "as") (.head _)) (by decide) (by decide) rfl ?_
    repeat walk_at "z"
    refine eqI ?_
    by_cases h0 : x = 0
    · first | with_reducible refine boT (decide_eq_true h0) ?_ | with_reducible refine bnT (decide_eq_true h0) ?_ | rw [decide_eq_true h0]
      repeat walk_at "z"
      refine wpAny_Expr ?_ hE.inter (by with_unfolding_all rfl)
      repeat walk_at "z"
      refine methL (St.lstO (xs := .int x t :: vs) (by walk_at "as") (.head _)) PySem.F.slot_list_pop PySem.F.type_list_pop ?_
      refine bW1 ?_
      repeat walk_at "z"
      refine popAt (p := []) (q := vs) (y := .int x t) (by walk_at "as") rfl (by decide +kernel) (by
        rw [seqIndex_of (by decide) (by simp)]; rfl) (fun s7 S7 => ?_) (by simp at hl ⊢; lia)
      walk_at "ds"
      walk_at "nil"
      exact hnx (vs.length) _ (by rw [← hk]; simp) ⟨P3, m3, vs, ns, hP3, rfl, hi, fun n hn => hb n (.tail _ hn), by simp at hl; lia, e1, e2, S7⟩
    · first | with_reducible refine boF (decide_eq_false h0) ?_ | with_reducible refine bnF (decide_eq_false h0) ?_ | rw [decide_eq_false h0]
      repeat walk_at "z"
      walk_at "nil"
      exact after _ (by walk_at "as")
end
end TE1
section TE2
-- turned
section
variable {c : Cx} {P C : View} {L x dx tp : Addr} {m : Loc} {mu rho : Led} {s : Shared} {A : Around} {a b d : Value} {n : Nat}
/-- the atoms -/
noncomputable def atoms : List Thing := [.int 1, .sym "p", .sym "a", .nil, .sym "unquote", .sym "unquote-splicing", .sym "quasiquote", .int 2]
theorem law_atom {dk : Addr} : CallsC c (n + 3) 671 [.ref dk] P [(dk, DeckO)] (fun P' mu' r => mu' = [(dk, DeckO)] ∧ ∃ t ∈ atoms, TV P' r t) := by
  refine intro c.fx.is_law_atom [("deck", .ref dk)] (fun _ _ _ _ _ _ _ _ => BindsTo.of_eq rfl) (locs rfl) (by decide +kernel) ?_
  intro env A' L' C' s₁ Qb Eb hE hA' S' B
  dsimp only [f_law_atom, fx_law_atom, binds0] at *
  repeat walk_at "z"
  refine List_ ?_
  repeat walk_at "z"
  with_reducible refine newTup (by walk_at "as") (fun t1 s1 P1 hP1 ht1 S1 => ?_) (by simp)
  repeat walk_at "z"
  with_reducible refine newTup (by walk_at "as") (fun t2 s2 P2 hP2 ht2 S2 => ?_) (by simp)
  repeat walk_at "z"
  with_reducible refine newTup (by walk_at "as") (fun t3 s3 P3 hP3 ht3 S3 => ?_) (by simp)
  repeat walk_at "z"
  with_reducible refine newTup (by walk_at "as") (fun t4 s4 P4 hP4 ht4 S4 => ?_) (by simp)
  repeat walk_at "z"
  with_reducible refine newTup (by walk_at "as") (fun t5 s5 P5 hP5 ht5 S5 => ?_) (by simp)
  repeat walk_at "z"
  with_reducible refine newTup (by walk_at "as") (fun t6 s6 P6 hP6 ht6 S6 => ?_) (by simp)
  repeat walk_at "z"
  with_reducible refine newLst (by walk_at "as") (fun l7 s7 _ S7 => ?_) (by simp)
  obtain ⟨P8, hP8, hl8, S8⟩ := S7.freezeL
  repeat walk_at "z"
  walk_at "z c2"
  repeat walk_at "z"
  refine ⟨St.K (by walk_at "as"), ?_⟩
  refine ccMn (law_draw (n := n) (by decide) (by decide)) (by walk_at "as") (hA'.le (by walk_at "om")) ?_
  rintro v9 s9 P9 hP9 S9 ⟨k, u9, rfl, hk⟩
  have h6 := hP6.trans (hP8.trans hP9)
  have h5 := hP5.trans h6
  have h4 := hP4.trans h5
  have h3 := hP3.trans h4
  have h2 := hP2.trans h3
  have h1 := hP1.trans h2
  have hl9 := hl8.mono hP9
  have pick : ∀ {xv : Value} {t : Thing}, t ∈ atoms → TV P9 xv t → Qb (.ret xv) s9 := fun hm ht => B.ret h1 S9 ⟨rfl, _, hm, ht⟩
  have hk8 : k < 8 := by lia
  rcases k with _ | _ | _ | _ | _ | _ | _ | _ | k
  · with_reducible exact subL (S9.lstP hl9) (by decide) (by decide) (by with_unfolding_all rfl) (pick (t := .int 1) (by simp [atoms]) (.int _ _)) (by with_unfolding_all rfl)
  · with_reducible exact subL (S9.lstP hl9) (by decide) (by decide) (by with_unfolding_all rfl) (pick (t := .sym "p") (by simp [atoms]) (Rd.tup2 (ht1.mono h2) (.str _ _) (.str _ _))) (by with_unfolding_all rfl)
  · with_reducible exact subL (S9.lstP hl9) (by decide) (by decide) (by with_unfolding_all rfl) (pick (t := .sym "a") (by simp [atoms]) (Rd.tup2 (ht2.mono h3) (.str _ _) (.str _ _))) (by with_unfolding_all rfl)
  · with_reducible exact subL (S9.lstP hl9) (by decide) (by decide) (by with_unfolding_all rfl) (pick (t := .nil) (by simp [atoms]) (.tuple (ht3.mono h4) (.cons (.str _ _) .nil))) (by with_unfolding_all rfl)
  · with_reducible exact subL (S9.lstP hl9) (by decide) (by decide) (by with_unfolding_all rfl) (pick (t := .sym "unquote") (by simp [atoms]) (Rd.tup2 (ht4.mono h5) (.str _ _) (.str _ _))) (by with_unfolding_all rfl)
  · with_reducible exact subL (S9.lstP hl9) (by decide) (by decide) (by with_unfolding_all rfl) (pick (t := .sym "unquote-splicing") (by simp [atoms]) (Rd.tup2 (ht5.mono h6) (.str _ _) (.str _ _))) (by with_unfolding_all rfl)
  · with_reducible exact subL (S9.lstP hl9) (by decide) (by decide) (by with_unfolding_all rfl) (pick (t := .sym "quasiquote") (by simp [atoms]) (Rd.tup2 (ht6.mono (hP8.trans hP9)) (.str _ _) (.str _ _))) (by with_unfolding_all rfl)
  · with_reducible exact subL (S9.lstP hl9) (by decide) (by decide) (by with_unfolding_all rfl) (pick (t := .int 2) (by simp [atoms]) (.int _ _)) (by with_unfolding_all rfl)
  · lia
end
end TE2
section TE3
-- turned
theorem IntsV.take {vs : List Value} {ns : List Int} (h : IntsV vs ns) : ∀ k : Nat, IntsV (vs.take k) (ns.take k) := by
  induction h with
  | nil => intro k; simpa using IntsV.nil
  | cons n t _ ih => intro k; cases k with
    | zero => exact .nil
    | succ k => exact .cons n t (ih k)
theorem IntsV.get {vs : List Value} {ns : List Int} (h : IntsV vs ns) : ∀ {i : Nat} {v : Value}, vs[i]? = some v → Ex2 fun n t => v = .int n t := by
  induction h with
  | nil => intro i v e; simp at e
  | cons n t _ ih => intro i v e; cases i with
    | zero => simp at e; exact ⟨n, t, e.symm⟩
    | succ i => simp at e; exact ih e
theorem IntsV.snoc {vs : List Value} {ns : List Int} (h : IntsV vs ns) (n : Int) (t : Tok) : IntsV (vs ++ [.int n t]) (ns ++ [n]) := by
  induction h with
  | nil => exact .cons n t .nil
  | cons n t _ ih => exact .cons _ _ ih
section
variable {c : Cx} {P C : View} {L x dx tp : Addr} {m : Loc} {mu rho : Led} {s : Shared} {A : Around} {a b d : Value} {n : Nat}
theorem law_deck {sl : Addr} {o : Obj} {vs : List Value} {ns : List Int} {k : Nat} (ho : P sl o) (hc : o.cls = .type "list") (hd : o.data = .seq vs.toArray k) (hi : IntsV vs ns) (hz : vs.length ≤ 1000) :
    CallsC c (n + 1) 650 [.ref sl] P [] (fun P' mu' r => Ex1 fun dk => r = .ref dk ∧ mu' = [(dk, DeckO)]) := by
  refine intro c.fx.is_law_deck [("script", .ref sl)] (fun _ _ _ _ _ _ _ _ => BindsTo.of_eq rfl) (locs rfl) (by decide +kernel) ?_
  intro env A' L' C' s₁ Qb Eb hE hA' S' B
  dsimp only [f_law_deck, fx_law_deck, binds0] at *
  repeat walk_at "z"
  refine compE hE (by rfl) (by decide +kernel) (by decide +kernel) rfl (by decide +kernel) hA'.handled ?_
  repeat walk_at "z"
  rename_i sl1 s1 P1 hP1 hsl S1
  refine sliceT S1 (xs := vs) ⟨o, S1.keep _ _ (hP1 _ _ ho), hc, k, hd⟩ hsl .none (.int _ _) .none (by decide) (slicePick_upto' _ 16) ?_ (by lia)
  intro D s2 _ S2
  obtain ⟨P2, hP2, hD, S3⟩ := S2.freezeL
  have hi16 := hi.take 16
  refine iterL S3 hD ?_
  intro it s4 hC W S4
  refine ⟨it, _, _, _, _, _, _, _, fun i P' mu' ys => mu' = [] ∧ Ex1 fun ms => IntsV ys ms ∧ ∀ n ∈ ms, 0 ≤ n ∧ n < 10 ^ 16, rfl, S4, W, self_list, by simp; lia, hC, ⟨rfl, [], .nil, fun _ h => nomatch h⟩, ?_, ?_⟩
  · intro i v P' mu' ys s' Lc m' C5 cenv E5 Eb5 hi5 hv hP hJ hEc hm' S5 hnext
    obtain ⟨rfl, ms, hys, hms⟩ := hJ
    obtain ⟨x5, t5, rfl⟩ := hi16.get hv
    repeat walk_at "z"
    refine cB1 (by walk_at "as") hEc (by decide +kernel) c.fx.b_abs boot_abs ?_
    repeat walk_at "z"
    refine PyProof.Rows.call_abs_int (fun u tk => ?_)
    have S7 := S5.toks tk
    repeat walk_at "z"
    refine PyProof.Rows.pow_int_small (by decide) (by decide) (by decide) ?_
    refine modI (by decide) (St.toks (by walk_at "as") _) (fun t10 s10 S10 => ?_)
    refine hnext (View.le.refl _) ⟨rfl, _, hys.snoc _ _, fun n hn => ?_⟩ S10
    rcases List.mem_append.mp hn with hn | hn
    · exact hms n hn
    · simp only [List.mem_singleton] at hn
      subst hn
      exact ⟨Int.fmod_nonneg_of_pos _ (by decide), Int.fmod_lt_of_pos _ (by decide)⟩
  · intro D P' mu' ys s' hP hJ hl' S5
    obtain ⟨rfl, ms, hys, hms⟩ := hJ
    have hle : ys.length ≤ 100 := by rw [hl']; simp; lia
    exact B.ret (hP1.trans (hP2.trans hP)) (S5.weak (φ' := DeckO) fun o ho => ⟨ys, ms, ho, hys, hms, hle⟩) ⟨_, rfl, rfl⟩
end
end TE3
section TE4
-- turned
/-! things of the law's own -/
mutual
noncomputable def okT : Thing → Prop
  | .int i => 0 ≤ i ∧ i < 10
  | .sym s => s ∈ Univ
  | .nil => True
  | .vec ts => okTs ts
  | .pair a d => okT a ∧ okT d
noncomputable def okTs : List Thing → Prop
  | [] => True
  | t :: r => okT t ∧ okTs r
end
theorem univ_ok : ∀ x ∈ Univ, PyData.strOk x = true := by decide +kernel
mutual
theorem okT.tok : ∀ {t : Thing}, okT t → TOk t
  | .int _, _ => rfl
  | .sym s, h => by
    unfold okT at h
    unfold TOk
    simp only [enc, PyData.canLay0, PyData.canLayAll0, univ_ok s h]; decide +kernel
  | .nil, _ => by
    unfold TOk
    simp only [enc, PyData.canLay0, PyData.canLayAll0]; decide +kernel
  | .vec ts, h => by
    unfold okT at h
    unfold TOk
    simp only [enc, PyData.canLay0, PyData.canLayAll0, okTs.tok h]; decide +kernel
  | .pair a d, h => by
    unfold okT at h
    have h1 := h.1.tok
    have h2 := h.2.tok
    unfold TOk at h1 h2 ⊢
    simp only [enc, PyData.canLay0, PyData.canLayAll0, h1, h2]; decide +kernel
theorem okTs.tok : ∀ {ts : List Thing}, okTs ts → PyData.canLayAll0 (encs ts) = true
  | [], _ => rfl
  | t :: r, h => by
    unfold okTs at h
    have h1 := h.1.tok
    unfold TOk at h1
    simp only [encs, PyData.canLayAll0, h1, h.2.tok]; rfl
end
theorem okTs.snoc : ∀ {ts : List Thing} {t : Thing}, okTs ts → okT t → okTs (ts ++ [t])
  | [], _, _, h => ⟨h, trivial⟩
  | a :: r, t, k, h => by
    unfold okTs at k
    exact ⟨k.1, k.2.snoc h⟩
theorem okT_row : ∀ {ts : List Thing} {t : Thing}, okTs ts → okT t → okT (row ts t)
  | [], _, _, h => h
  | a :: r, t, k, h => by
    unfold okTs at k
    show okT (.pair a (row r t))
    unfold okT
    exact ⟨k.1, okT_row k.2 h⟩
theorem szs_snoc : ∀ (ts : List Thing) (t : Thing), szs (ts ++ [t]) = szs ts + 1 + sz t
  | [], t => by simp only [List.nil_append, szs]; lia
  | a :: r, t => by simp only [List.cons_append, szs, szs_snoc r t]; lia
theorem sz_row : ∀ (ts : List Thing) (t : Thing), sz (row ts t) + 1 = szs ts + sz t
  | [], t => by simp only [row, szs]; lia
  | a :: r, t => by have := sz_row r t; simp only [row, sz, szs]; lia
noncomputable def bnd : Nat → Nat
  | 0 => 2
  | k + 1 => 3 * bnd k + 5
theorem bnd_le : ∀ k, 2 ≤ bnd k
  | 0 => Nat.le_refl _
  | k + 1 => by have := bnd_le k; simp only [bnd]; lia
theorem encs_snoc (ts : List Thing) (t : Thing) : encs (ts ++ [t]) = encs ts ++ [enc t] := by rw [encs_map, encs_map]; simp
/-! captured names -/
noncomputable def CellAt (cl : List (Str × Addr)) (P : View) (y : Str) (v : Value) : Prop := Ex2 fun a o => And3 (cl.lookup y = some a) (P a o) (o.data = .cell (some v))
theorem CellAt.mono {cl : List (Str × Addr)} {P P' : View} {y : Str} {v : Value} (h : CellAt cl P y v) (k : P.le P') : CellAt cl P' y v := let ⟨a, o, h1, h2, h3⟩ := h; ⟨a, o, h1, k _ _ h2, h3⟩
section
variable {c : Cx} {P C : View} {L x dx tp : Addr} {m : Loc} {mu rho : Led} {s : Shared} {A : Around} {a b d : Value} {n : Nat}
theorem nmc {env : Env} {sc : PySem.Scope} {cl : List (Str × Addr)} {y : Str} {v : Value} {pos : Pos} {E : Value → Shared → Prop} {Q : Value → Shared → Prop} (hc : CellAt cl P y v) (S : St c P C L m mu s) (hE : EnvOk env sc L cl) (hk : sc.names.lookup y = some .cell) (h : Q v s)
    (hd : (y == ("__debug__" : Str)) = false := by decide) : wpAny c.M A (eval (.Name y pos) env) Q E s := by
  obtain ⟨a, o, h1, h2, h3⟩ := hc
  exact nm_cell S hE hk h1 h2 h3 h hd
theorem evC {env : Env} {sc : PySem.Scope} {cl : List (Str × Addr)} {y : Str} {v : Value} {pos : Pos} (hc : CellAt cl P y v) (hE : EnvOk env sc L cl) (hk : sc.names.lookup y = some .cell) (hd : (y == ("__debug__" : Str)) = false := by decide) :
    Ev c env P L m (.Name y pos) (fun _ => v) (fun s => s) := ⟨fun S => S, fun S h => nmc hc S hE hk h hd⟩
theorem clos3 {env : Env} {sc scope : PySem.Scope} {cl : List (Str × Addr)} {k : ScopeKind} {g1 g2 : Bool} {x1 x2 x3 x4 x5 x6 : Str} {a1 a2 a3 : Addr} (hE : EnvOk env sc L cl) (h1 : cl.lookup x4 = some a1) (h2 : cl.lookup x5 = some a2) (h3 : cl.lookup x6 = some a3) :
    closureFor { kind := k, names := [(x1, .local), (x2, .local), (x3, .globalImplicit), (x4, .free), (x5, .free), (x6, .free)], isGenerator := g1, isCoroutine := g2 } env = pure [(x6, a3), (x5, a2), (x4, a1)] := by
  unfold closureFor
  simp [cellOf, hE.cells, h1, h2, h3]
end
end TE4
section TE5
-- turned
local macro_rules | `(tactic| walk_at "evx") => `(tactic| with_reducible exact evC (by assumption) (by assumption) (by decide +kernel))
local macro_rules | `(tactic| walk_at "zc") => `(tactic| walk_at "z")
section
variable {c : Cx} {P C : View} {L x dx tp : Addr} {m : Loc} {mu rho : Led} {s : Shared} {A : Around} {a b d : Value} {n : Nat}
noncomputable def LawTemplate (c : Cx) (k : Nat) : Prop := ∀ {P : View} {dk : Addr} {l e : Int} {u u' : Tok}, e = k → CallsC c (2 * k + 6) 683 [.ref dk, .int l u, .int e u'] P [(dk, DeckO)] (fun P' mu' r => mu' = [(dk, DeckO)] ∧ Ex1 fun t => And3 (TV P' r t) (okT t) (sz t ≤ bnd k))
theorem LawTemplate.use {k : Nat} (ih : LawTemplate c k) {P : View} {dk : Addr} {l e : Int} {u u' : Tok} (he : e = k) : CallsC c (2 * k + 6) 683 [.ref dk, .int l u, .int e u'] P [(dk, DeckO)] (fun P' mu' r => mu' = [(dk, DeckO)] ∧ Ex1 fun t => And3 (TV P' r t) (okT t) (sz t ≤ bnd k)) := by
  unfold LawTemplate at ih
  exact ih he
theorem atoms_ok : ∀ t ∈ atoms, okT t ∧ sz t ≤ 2 := by
  intro t ht
  unfold atoms at ht
  simp only [List.mem_cons, List.not_mem_nil, or_false] at ht
  rcases ht with rfl | rfl | rfl | rfl | rfl | rfl | rfl | rfl <;> refine ⟨?_, by simp [sz]⟩ <;> unfold okT <;> first | trivial | decide +kernel
theorem law_mark {k : Nat} (ih : LawTemplate c k) {dk : Addr} {l e : Int} {u u' : Tok} (he : e = ((k + 1 : Nat) : Int)) :
    CallsC c (2 * k + 7) 678 [.ref dk, .int l u, .int e u'] P [(dk, DeckO)] (fun P' mu' r => mu' = [(dk, DeckO)] ∧ Ex1 fun t => And3 (TV P' r t) (okT t) (sz t ≤ bnd (k + 1))) := by
  refine intro c.fx.is_law_mark [("deck", .ref dk), ("level", .int l u), ("deep", .int e u')] (fun _ _ _ _ _ _ _ _ => BindsTo.of_eq rfl) (locs rfl) (by decide +kernel) ?_
  intro env A' L' C' s₁ Qb Eb hE hA' S' B
  dsimp only [f_law_mark, fx_law_mark, binds0] at *
  have hb2 := bnd_le k
  -- the row
  have after : ∀ {w : Str} {tk : Tok} {P2 : View} {m2 : Loc} {s2 : Shared} {iv : Value} {ti : Thing}, w ∈ Univ → P.le P2 → TV P2 iv ti → okT ti → 4 + sz ti ≤ bnd (k + 1) → m2 (Str.ofString "word") = some (.str w tk) → m2 (Str.ofString "inner") = some iv → St c P2 C' L' m2 [(dk, DeckO)] s2 →
      wpAny c.M A' (execs (f_law_mark.body.drop 2) env) Qb Eb s2 := by
    intro w tk P2 m2 s2 iv ti hw hP2 hi hok hsz e1 e2 S2
    dsimp only [f_law_mark, fx_law_mark, List.drop]
    repeat walk_at "z"
    walk_at "z c2"
    repeat walk_at "z"
    with_reducible refine newTup (by walk_at "as") (fun t3 s3 P3 hP3 ht3 S3 => ?_) (by simp)
    repeat walk_at "z"
    with_reducible refine newLst (by walk_at "as") (fun l4 s4 _ S4 => ?_) (by simp)
    obtain ⟨P5, hP5, hl5, S5⟩ := S4.freezeL
    repeat walk_at "z"
    with_reducible refine newTup (by walk_at "as") (fun t6 s6 P6 hP6 ht6 S6 => ?_) (by simp)
    refine ⟨S6.K, ?_⟩
    have hP36 := hP5.trans hP6
    refine cc0 (law_row (n := 2 * k + 5) (hl5.mono hP6) (.cons (Rd.tup2 (ht3.mono hP36) (.str _ _) (.str _ _)) (.cons (hi.mono (hP3.trans hP36)) .nil)) (.tuple ht6 (.cons (.str _ _) .nil)) (by simp)) (rho := [(dk, DeckO)]) S6 (hA'.le (by walk_at "om")) ?_
    rintro v7 s7 P7 hP7 S7 hr7
    refine B.ret (hP2.trans (hP3.trans (hP36.trans hP7))) S7 ⟨rfl, row [.sym w, ti] .nil, ?_, ?_, ?_⟩
    · unfold TV; rw [enc_row]; exact hr7
    · exact okT_row ⟨hw, hok, trivial⟩ trivial
    · simp only [row, sz]; lia
  -- with the word known
  have rest : ∀ {w : Str} {tk : Tok} {P2 : View} {m2 : Loc} {s2 : Shared}, (w = wQ ∨ w = wU ∨ w = wS) → P.le P2 → m2 (Str.ofString "deck") = some (.ref dk) → m2 (Str.ofString "level") = some (.int l u) → m2 (Str.ofString "deep") = some (.int e u') → m2 (Str.ofString "word") = some (.str w tk) → St c P2 C' L' m2 [(dk, DeckO)] s2 →
      wpAny c.M A' (execs (f_law_mark.body.drop 1) env) Qb Eb s2 := by
    intro w tk P2 m2 s2 hw hP2 e1 e2 e3 e4 S2
    have hwU : w ∈ Univ := by rcases hw with rfl | rfl | rfl <;> decide +kernel
    dsimp only [f_law_mark, fx_law_mark, List.drop]
    rcases hw with rfl | hw
    · repeat walk_at "z"
      refine eqS ?_
      first | with_reducible refine boT (decide_eq_true (show wQ = Str.ofString "quasiquote" from rfl)) ?_ | with_reducible refine bnT (decide_eq_true (show wQ = Str.ofString "quasiquote" from rfl)) ?_ | rw [decide_eq_true (show wQ = Str.ofString "quasiquote" from rfl)]
      repeat walk_at "z"
      walk_at "z c3"
      repeat walk_at "z"
      refine ⟨St.K (by walk_at "as"), ?_⟩
      refine ccn (ih.use (by lia)) (by walk_at "as") (hA'.le (by walk_at "om")) ?_
      rintro v3 s3 P3 mu3 hP3 S3 ⟨rfl, ti, h1, h2, h3⟩
      repeat walk_at "z"
      walk_at "nil"
      refine after (w := wQ) (tk := tk) hwU (hP2.trans hP3) h1 h2 (by simp only [bnd]; lia) ?_ ?_ (by walk_at "as") <;> walk_at "z lk"
    · have hne : w ≠ "quasiquote" := by rcases hw with rfl | rfl <;> decide +kernel
      repeat walk_at "z"
      refine eqS ?_
      first | with_reducible refine boF (decide_eq_false hne) ?_ | with_reducible refine bnF (decide_eq_false hne) ?_ | rw [decide_eq_false hne]
      repeat walk_at "z"
      refine gtI ?_
      by_cases hl : l > 1
      · first | with_reducible refine boT (decide_eq_true hl) ?_ | with_reducible refine bnT (decide_eq_true hl) ?_ | rw [decide_eq_true hl]
        repeat walk_at "z"
        walk_at "z c3"
        repeat walk_at "z"
        refine ⟨St.K (by walk_at "as"), ?_⟩
        refine ccn (ih.use (by lia)) (by walk_at "as") (hA'.le (by walk_at "om")) ?_
        rintro v3 s3 P3 mu3 hP3 S3 ⟨rfl, ti, h1, h2, h3⟩
        repeat walk_at "z"
        walk_at "nil"
        walk_at "nil"
        refine after (w := w) (tk := tk) hwU (hP2.trans hP3) h1 h2 (by simp only [bnd]; lia) ?_ ?_ (by walk_at "as") <;> walk_at "z lk"
      · first | with_reducible refine boF (decide_eq_false hl) ?_ | with_reducible refine bnF (decide_eq_false hl) ?_ | rw [decide_eq_false hl]
        repeat walk_at "z"
        refine List_ ?_
        repeat walk_at "z"
        with_reducible refine newTup (by walk_at "as") (fun t1 s1 P1 hP1 ht1 S1 => ?_) (by simp)
        repeat walk_at "z"
        with_reducible refine newTup (by walk_at "as") (fun t2 s2 P2 hP2' ht2 S2 => ?_) (by simp)
        repeat walk_at "z"
        with_reducible refine newTup (by walk_at "as") (fun t3 s3 P3 hP3 ht3 S3 => ?_) (by simp)
        repeat walk_at "z"
        walk_at "z c2"
        repeat walk_at "z"
        with_reducible refine newTup (by walk_at "as") (fun t4 s4 P4 hP4 ht4 S4 => ?_) (by simp)
        repeat walk_at "z"
        with_reducible refine newLst (by walk_at "as") (fun l5 s5 _ S5 => ?_) (by simp)
        obtain ⟨P5, hP5, hl5, S5⟩ := S5.freezeL
        repeat walk_at "z"
        with_reducible refine newTup (by walk_at "as") (fun t6 s6 P6 hP6 ht6 S6 => ?_) (by simp)
        refine ⟨S6.K, ?_⟩
        refine cc0 (law_row (n := 2 * k + 5) (hl5.mono hP6) (.cons (Rd.tup2 (ht4.mono (hP5.trans hP6)) (.str _ _) (.str _ _)) (.cons (.int _ _) .nil)) (.tuple ht6 (.cons (.str _ _) .nil)) (by simp)) (rho := [(dk, DeckO)]) S6 (hA'.le (by walk_at "om")) ?_
        rintro v7 s7 P7 hP7 S7 hr7
        repeat walk_at "z"
        with_reducible refine newLst (by walk_at "as") (fun l8 s8 _ S8 => ?_) (by simp)
        obtain ⟨P8, hP8, hl8, S8⟩ := S8.freezeL
        repeat walk_at "z"
        walk_at "z c2"
        repeat walk_at "z"
        refine ⟨St.K (by walk_at "as"), ?_⟩
        refine ccMn (law_draw (n := 2 * k + 4) (by decide) (by decide)) (by walk_at "as") (hA'.le (by walk_at "om")) ?_
        rintro v9 s9 P9 hP9 S9 ⟨j, u9, rfl, hj⟩
        have g8 := hP8.trans hP9
        have g7 := hP7.trans g8
        have g6 := hP6.trans g7
        have g5 := hP5.trans g6
        have g4 := hP4.trans g5
        have g3 := hP3.trans g4
        have g2 := hP2'.trans g3
        have g1 := hP1.trans g2
        obtain ⟨q9, hl9⟩ : ∃ q, IsLst P9 l8 [.ref t1, .ref t2, .ref t3, .int 7 q, v7] := ⟨_, hl8.mono hP9⟩
        obtain ⟨iv, ti, hget, hiv, hiok, hisz⟩ : Ex2 fun iv ti => And4 ([.ref t1, .ref t2, .ref t3, Value.int 7 q9, v7][j]? = some iv) (TV P9 iv ti) (okT ti) (sz ti ≤ 5) := by
          rcases j with _ | _ | _ | _ | _ | j
          · exact ⟨_, .sym "p", rfl, Rd.tup2 (ht1.mono g2) (.str _ _) (.str _ _), by unfold okT; decide +kernel, by simp [sz]⟩
          · exact ⟨_, .sym "q", rfl, Rd.tup2 (ht2.mono g3) (.str _ _) (.str _ _), by unfold okT; decide +kernel, by simp [sz]⟩
          · exact ⟨_, .sym "r", rfl, Rd.tup2 (ht3.mono g4) (.str _ _) (.str _ _), by unfold okT; decide +kernel, by simp [sz]⟩
          · exact ⟨_, .int 7, rfl, .int _ _, by unfold okT; decide +kernel, by simp [sz]⟩
          · exact ⟨_, row [.sym "f", .int 3] .nil, rfl, by unfold TV; rw [enc_row]; exact hr7.mono g8, okT_row ⟨by unfold okT; decide +kernel, by unfold okT; decide +kernel, trivial⟩ trivial, by simp [row, sz]⟩
          · omega
        refine subL (S9.lstP hl9) (by lia) (by lia) (by simpa using hget) ?_
        repeat walk_at "z"
        refine eqS ?_
        by_cases hS : w = wS
        · first | with_reducible refine boT (decide_eq_true (show w = Str.ofString "unquote-splicing" from hS)) ?_ | with_reducible refine bnT (decide_eq_true (show w = Str.ofString "unquote-splicing" from hS)) ?_ | rw [decide_eq_true (show w = Str.ofString "unquote-splicing" from hS)]
          repeat walk_at "z"
          walk_at "z c2"
          repeat walk_at "z"
          refine ⟨St.K (by walk_at "as"), ?_⟩
          refine ccMn (law_draw (n := 2 * k + 4) (by decide) (by decide)) (by walk_at "as") (hA'.le (by walk_at "om")) ?_
          rintro v11 s11 P11 hP11 S11 ⟨j2, u11, rfl, hj2⟩
          repeat walk_at "z"
          refine ltI ?_
          by_cases hj3 : (j2 : Int) < 3
          · first | with_reducible refine boT (decide_eq_true hj3) ?_ | with_reducible refine bnT (decide_eq_true hj3) ?_ | rw [decide_eq_true hj3]
            repeat walk_at "z"
            with_reducible refine newLst (by walk_at "as") (fun l12 s12 _ S12 => ?_) (by simp)
            obtain ⟨P12, hP12, hl12, S12⟩ := S12.freezeL
            repeat walk_at "z"
            walk_at "z c2"
            repeat walk_at "z"
            refine ⟨St.K (by walk_at "as"), ?_⟩
            refine ccMn (law_draw (n := 2 * k + 4) (by decide) (by decide)) (by walk_at "as") (hA'.le (by walk_at "om")) ?_
            rintro v13 s13 P13 hP13 S13 ⟨j4, u13, rfl, hj4⟩
            obtain ⟨qa, qb, hl13⟩ : Ex2 fun qa qb => IsLst P13 l12 [.str (Str.ofString "q") qa, .str (Str.ofString "r") qb] := ⟨_, _, hl12.mono hP13⟩
            obtain ⟨x13, t13, hget13, hx13⟩ : Ex2 fun (x : Str) (t : Tok) => [Value.str (Str.ofString "q") qa, Value.str (Str.ofString "r") qb][j4]? = some (Value.str x t) ∧ x ∈ Univ := by
              rcases j4 with _ | _ | j
              · exact ⟨_, _, rfl, by decide +kernel⟩
              · exact ⟨_, _, rfl, by decide +kernel⟩
              · lia
            refine subL (S13.lstP hl13) (by lia) (by lia) (by simpa using hget13) ?_
            with_reducible refine newTup (by walk_at "as") (fun t14 s14 P14 hP14 ht14 S14 => ?_) (by simp)
            repeat walk_at "z"
            walk_at "nil"
            walk_at "nil"
            walk_at "nil"
            rename_i sZ SZ
            exact after (w := w) (tk := tk) (iv := .ref t14) (ti := .sym x13) hwU (hP2.trans (g1.trans (hP11.trans (hP12.trans (hP13.trans hP14))))) (Rd.tup2 ht14 (.str _ _) (.str _ _)) (by unfold okT; exact hx13) (by simp only [bnd, sz]; lia) (by walk_at "z lk") (by walk_at "z lk") SZ
          · first | with_reducible refine boF (decide_eq_false hj3) ?_ | with_reducible refine bnF (decide_eq_false hj3) ?_ | rw [decide_eq_false hj3]
            repeat walk_at "z"
            walk_at "nil"
            walk_at "nil"
            walk_at "nil"
            refine after (w := w) (tk := tk) (iv := iv) (ti := ti) hwU (hP2.trans (g1.trans hP11)) (hiv.mono hP11) hiok (by simp only [bnd]; omega) ?_ ?_ (by walk_at "as") <;> walk_at "z lk"
        · first | with_reducible refine boF (decide_eq_false (show ¬ w = Str.ofString "unquote-splicing" from hS)) ?_ | with_reducible refine bnF (decide_eq_false (show ¬ w = Str.ofString "unquote-splicing" from hS)) ?_ | rw [decide_eq_false (show ¬ w = Str.ofString "unquote-splicing" from hS)]
          repeat walk_at "z"
          walk_at "nil"
          walk_at "nil"
          walk_at "nil"
          refine after (w := w) (tk := tk) (iv := iv) (ti := ti) hwU (hP2.trans g1) hiv hiok (by simp only [bnd]; omega) ?_ ?_ (by walk_at "as") <;> walk_at "z lk"
  repeat walk_at "z"
  with_reducible refine newLst (by walk_at "as") (fun l1 s1 _ S1 => ?_) (by simp)
  obtain ⟨P1, hP1, hl1, S1⟩ := S1.freezeL
  repeat walk_at "z"
  walk_at "z c2"
  repeat walk_at "z"
  refine ⟨St.K (by walk_at "as"), ?_⟩
  refine ccMn (law_draw (n := 2 * k + 4) (by decide) (by decide)) (by walk_at "as") (hA'.le (by walk_at "om")) ?_
  rintro v2 s2 P2 hP2 S2 ⟨j, u2, rfl, hj⟩
  obtain ⟨qa, qb, qc, hl2⟩ : Ex3 fun qa qb qc => IsLst P2 l1 [.str (Str.ofString "unquote") qa, .str (Str.ofString "unquote-splicing") qb, .str (Str.ofString "quasiquote") qc] := ⟨_, _, _, hl1.mono hP2⟩
  obtain ⟨x, t, hget, hx⟩ : Ex2 fun (x : Str) (t : Tok) => [Value.str (Str.ofString "unquote") qa, Value.str (Str.ofString "unquote-splicing") qb, Value.str (Str.ofString "quasiquote") qc][j]? = some (Value.str x t) ∧ (x = wQ ∨ x = wU ∨ x = wS) := by
    rcases j with _ | _ | _ | j
    · exact ⟨_, _, rfl, .inr (.inl rfl)⟩
    · exact ⟨_, _, rfl, .inr (.inr rfl)⟩
    · exact ⟨_, _, rfl, .inl rfl⟩
    · lia
  refine subL (S2.lstP hl2) (by lia) (by lia) (by simpa using hget) ?_
  walk_at "z"
  refine rest (tk := t) hx (hP1.trans hP2) ?_ ?_ ?_ ?_ (by walk_at "as") <;> walk_at "z lk"
end
end TE5
section TE6
-- turned
local macro_rules | `(tactic| walk_at "evx") => `(tactic| with_reducible exact evC (by assumption) (by assumption) (by decide +kernel))
local macro_rules | `(tactic| walk_at "zc") => `(tactic| walk_at "z")
section
variable {c : Cx} {P C : View} {L x dx tp : Addr} {m : Loc} {mu rho : Led} {s : Shared} {A : Around} {a b d : Value} {n : Nat}
theorem lkA_same {x : Str} {v : Addr} {r : List (Str × Addr)} : List.lookup x ((x, v) :: r) = some v := by simp
theorem lkA_ne {x y : Str} {u : Addr} {r : List (Str × Addr)} {o : Option Addr} (h : x ≠ y) (k : List.lookup x r = o) : List.lookup x ((y, u) :: r) = o := by
  rw [List.lookup_cons, beq_eq_false_iff_ne.mpr h]; exact k
theorem law_template0 : LawTemplate c 0 := by
  unfold LawTemplate
  intro P dk l e u u' he
  refine introC c.fx.is_law_template (binds := [("deck", .ref dk), ("level", .int l u), ("deep", .int e u')]) (lb := []) (cb := [("deck", .ref dk), ("level", .int l u), ("deep", .int e u')]) (fun _ _ _ _ _ _ _ => rfl) (.cell (by decide +kernel) (.cell (by decide +kernel) (.cell (by decide +kernel) .nil))) ?_
  intro env A' L' C' s₁ P₁ cl Qb Eb hP₁ hE hA' S' hcells B
  have k1 : CellAt cl P₁ (Str.ofString "deck") (.ref dk) := hcells "deck" _ (by decide +kernel) (by rfl)
  have k2 : CellAt cl P₁ (Str.ofString "level") (.int l u) := hcells "level" _ (by decide +kernel) (by rfl)
  have k3 : CellAt cl P₁ (Str.ofString "deep") (.int e u') := hcells "deep" _ (by decide +kernel) (by rfl)
  dsimp only [f_law_template, fx_law_template, binds0] at *
  repeat walk_at "zc"
  walk_at "z c2"
  repeat walk_at "zc"
  refine ⟨St.K (by walk_at "as"), ?_⟩
  refine ccMn (law_draw (n := 1) (by decide) (by decide)) (by walk_at "as") (hA'.le (by walk_at "om")) ?_
  rintro v2 s2 P2 hP2 S2 ⟨way, u2, rfl, hway⟩
  replace k1 := k1.mono hP2
  replace k2 := k2.mono hP2
  replace k3 := k3.mono hP2
  repeat walk_at "zc"
  refine eqI ?_
  first | with_reducible refine boT (decide_eq_true (by omega)) ?_ | with_reducible refine bnT (decide_eq_true (by omega)) ?_ | rw [decide_eq_true (by omega)]
  repeat walk_at "zc"
  walk_at "z c1"
  repeat walk_at "zc"
  refine ⟨St.K (by walk_at "as"), ?_⟩
  refine ccMn (law_atom (n := 1)) (by walk_at "as") (hA'.le (by walk_at "om")) ?_
  rintro v4 s4 P4 hP4 S4 ⟨t, ht, hv4⟩
  have h := atoms_ok t ht
  exact B.ret (hP2.trans hP4) S4 ⟨rfl, t, hv4, h.1, h.2⟩
theorem law_templateS {k : Nat} (ih : LawTemplate c k) : LawTemplate c (k + 1) := by
  unfold LawTemplate
  intro P dk l e u u' he
  refine introC c.fx.is_law_template (binds := [("deck", .ref dk), ("level", .int l u), ("deep", .int e u')]) (lb := []) (cb := [("deck", .ref dk), ("level", .int l u), ("deep", .int e u')]) (fun _ _ _ _ _ _ _ => rfl) (.cell (by decide +kernel) (.cell (by decide +kernel) (.cell (by decide +kernel) .nil))) ?_
  intro env A' L' C' s₁ P₁ cl Qb Eb hP₁ hE hA' S' hcells B
  have hb2 := bnd_le k
  have k1 : CellAt cl P₁ (Str.ofString "deck") (.ref dk) := hcells "deck" _ (by decide +kernel) (by rfl)
  have k2 : CellAt cl P₁ (Str.ofString "level") (.int l u) := hcells "level" _ (by decide +kernel) (by rfl)
  have k3 : CellAt cl P₁ (Str.ofString "deep") (.int e u') := hcells "deep" _ (by decide +kernel) (by rfl)
  dsimp only [f_law_template, fx_law_template, binds0] at *
  repeat walk_at "zc"
  walk_at "z c2"
  repeat walk_at "zc"
  refine ⟨St.K (by walk_at "as"), ?_⟩
  refine ccMn (law_draw (n := 1) (by decide) (by decide)) (by walk_at "as") (hA'.le (by walk_at "om")) ?_
  rintro v2 s2 P2 hP2 S2 ⟨way, u2, rfl, hway⟩
  replace k1 := k1.mono hP2
  replace k2 := k2.mono hP2
  replace k3 := k3.mono hP2
  -- a row or a vector of things
  have rest : ∀ {m3 : Loc} {s3 : Shared}, m3 (Str.ofString "way") = some (.int way u2) → St c P2 C' L' m3 [(dk, DeckO)] s3 → wpAny c.M A' (execs (f_law_template.body.drop 3) env) Qb Eb s3 := by
    intro m3 s3 e1 S3
    dsimp only [f_law_template, fx_law_template, List.drop]
    obtain ⟨a1, o1, g1, p1, d1⟩ := id k1
    obtain ⟨a2, o2, g2, p2, d2⟩ := id k2
    obtain ⟨a3, o3, g3, p3, d3⟩ := id k3
    walk_at "z"
    refine compA (by cases env with | mk a b c d e f g h i => have hsc := hE.scope; dsimp only at hsc; subst hsc; rfl) hE (by decide +kernel) (clos3 (scope := env.scope) hE g1 g3 g2) (by decide +kernel) (by decide +kernel) rfl (by decide +kernel) hA'.handled ?_
    refine cRange (by walk_at "as") hE (by decide +kernel) ?_
    refine tW1 ?_
    walk_at "z c2"
    repeat walk_at "zc"
    refine ⟨St.K (by walk_at "as"), ?_⟩
    refine ccMn (law_draw (n := 1) (by decide) (by decide)) (by walk_at "as") (hA'.le (by walk_at "om")) ?_
    rintro v4 s4 P4 hP4 S4 ⟨j, u4, rfl, hj⟩
    refine range1 S4 (fun r t5 t6 s5 S5 => ?_)
    refine iterR (n := j) S5 (View.add_self _ _ _) (small_up (by lia) (by omega)) ?_ ?_
    · rw [rangeSize_one]; split <;> lia
    intro it s6 hC W S6
    have hP5 : P2.le (P4.add r { cls := .type "range", dict := none, data := .fields #[.int 0 t5, .int j u4, .int 1 t6], slots := #[] }) := hP4.trans (View.le_add _ _ _)
    refine ⟨it, _, _, _, _, _, _, _, fun i P' mu' ys => mu' = [(dk, DeckO)] ∧ Ex1 fun ts => And3 (RdAll P' ys (encs ts)) (okTs ts) (szs ts ≤ 1 + i * (1 + bnd k)), rfl, S6, W, self_range, by lia, hC, ⟨rfl, [], .nil, trivial, by simp [szs]⟩, ?_, ?_⟩
    · intro i v P' mu' ys s' Lc m' C5 cenv E5 Eb5 hi hv hP hJ hEc hm' S7 hnext
      obtain ⟨rfl, ts, hts, hok, hsz⟩ := hJ
      have hP7 := hP5.trans hP
      have c1 : CellAt [(Str.ofString "level", a2), (Str.ofString "deep", a3), (Str.ofString "deck", a1)] P' (Str.ofString "deck") (.ref dk) := ⟨a1, o1, lkA_ne (by decide +kernel) (lkA_ne (by decide +kernel) lkA_same), hP7 _ _ p1, d1⟩
      have c2 : CellAt [(Str.ofString "level", a2), (Str.ofString "deep", a3), (Str.ofString "deck", a1)] P' (Str.ofString "level") (.int l u) := ⟨a2, o2, lkA_same, hP7 _ _ p2, d2⟩
      have c3 : CellAt [(Str.ofString "level", a2), (Str.ofString "deep", a3), (Str.ofString "deck", a1)] P' (Str.ofString "deep") (.int e u') := ⟨a3, o3, lkA_ne (by decide +kernel) lkA_same, hP7 _ _ p3, d3⟩
      clear k1 k2 k3
      walk_at "z c3"
      repeat walk_at "zc"
      refine ⟨St.K (by walk_at "as"), ?_⟩
      refine ccn (ih.use (by lia)) (by walk_at "as") (hA'.le (by walk_at "om")) ?_
      rintro v8 s8 P8 mu8 hP8 S8 ⟨rfl, t, h1, h2, h3⟩
      refine hnext hP8 ⟨rfl, ts ++ [t], ?_, hok.snoc h2, ?_⟩ S8
      · rw [encs_snoc]; exact (hts.mono hP8).snoc h1
      · rw [szs_snoc, Nat.succ_mul]; lia
    intro D P' mu' ys s7 hP hJ hl' S7
    obtain ⟨rfl, ts, hts, hok, hsz⟩ := hJ
    obtain ⟨P8, hP8, hl8, S8⟩ := S7.freezeL
    have hts8 := hts.mono hP8
    have hP28 := hP5.trans (hP.trans hP8)
    have hsz3 : szs ts ≤ 3 * bnd k + 4 := by
      have : j * (1 + bnd k) ≤ 3 * (1 + bnd k) := Nat.mul_le_mul_right _ (by lia)
      lia
    have hlen : ys.length ≤ 3 := by lia
    replace k1 := k1.mono hP28
    replace k2 := k2.mono hP28
    walk_at "ds"
    repeat walk_at "zc"
    refine eqI ?_
    by_cases hw4 : (way : Int) = 4
    · first | with_reducible refine boT (decide_eq_true hw4) ?_ | with_reducible refine bnT (decide_eq_true hw4) ?_ | rw [decide_eq_true hw4]
      repeat walk_at "zc"
      with_reducible refine newTup (by walk_at "as") (fun t9 s9 P9 hP9 ht9 S9 => ?_) (by simp)
      refine B.ret (hP2.trans (hP28.trans hP9)) S9 ⟨rfl, .vec ts, Rd.tup2 ht9 (.str _ _) (.list (hl8.mono hP9) (hts8.mono hP9)), ?_, ?_⟩
      · unfold okT; exact hok
      · simp only [sz, bnd]; lia
    · first | with_reducible refine boF (decide_eq_false hw4) ?_ | with_reducible refine bnF (decide_eq_false hw4) ?_ | rw [decide_eq_false hw4]
      repeat walk_at "zc"
      walk_at "nil"
      -- the row
      have row_ : ∀ {P9 : View} {m9 : Loc} {s9 : Shared} {v9 : Value} {t9 : Thing}, P8.le P9 → TV P9 v9 t9 → okT t9 → sz t9 ≤ 2 → m9 (Str.ofString "items") = some (.ref D) → m9 (Str.ofString "tail") = some v9 → St c P9 C' L' m9 [(dk, DeckO)] s9 → wpAny c.M A' (execs (f_law_template.body.drop 6) env) Qb Eb s9 := by
        intro P9 m9 s9 v9 t9 hP9 h9 hok9 hsz9 e1 e2 S9
        dsimp only [f_law_template, fx_law_template, List.drop]
        repeat walk_at "z"
        walk_at "z c2"
        repeat walk_at "zc"
        refine ⟨St.K (by walk_at "as"), ?_⟩
        refine cc0 (law_row (n := 2 * k + 4) (hl8.mono hP9) (hts8.mono hP9) h9 (by lia)) (rho := [(dk, DeckO)]) (by walk_at "as") (hA'.le (by walk_at "om")) ?_
        rintro v10 s10 P10 hP10 S10 hr10
        refine B.ret (hP2.trans (hP28.trans (hP9.trans hP10))) S10 ⟨rfl, row ts t9, ?_, okT_row hok hok9, ?_⟩
        · unfold TV; rw [enc_row]; exact hr10
        · have := sz_row ts t9; simp only [bnd]; lia
      repeat walk_at "zc"
      refine ltI ?_
      by_cases hw3 : (way : Int) < 3
      · first | with_reducible refine boT (decide_eq_true hw3) ?_ | with_reducible refine bnT (decide_eq_true hw3) ?_ | rw [decide_eq_true hw3]
        repeat walk_at "zc"
        with_reducible refine newTup (by walk_at "as") (fun t9 s9 P9 hP9 ht9 S9 => ?_) (by simp)
        walk_at "z"
        rename_i sZ SZ
        exact row_ (t9 := .nil) hP9 (.tuple ht9 (.cons (.str _ _) .nil)) trivial (by simp [sz]) (by walk_at "z lk") (by walk_at "z lk") SZ
      · first | with_reducible refine boF (decide_eq_false hw3) ?_ | with_reducible refine bnF (decide_eq_false hw3) ?_ | rw [decide_eq_false hw3]
        repeat walk_at "zc"
        walk_at "z c3"
        repeat walk_at "zc"
        refine ⟨St.K (by walk_at "as"), ?_⟩
        refine ccn (law_template0.use rfl) (by walk_at "as") (hA'.le (by walk_at "om")) ?_
        rintro v9 s9 P9 mu9 hP9 S9 ⟨rfl, t9, h1, h2, h3⟩
        walk_at "z"
        refine row_ hP9 h1 h2 h3 ?_ ?_ (by walk_at "as") <;> walk_at "z lk"
  repeat walk_at "zc"
  refine eqI ?_
  first | with_reducible refine boF (decide_eq_false (by omega)) ?_ | with_reducible refine bnF (decide_eq_false (by omega)) ?_ | rw [decide_eq_false (by omega)]
  repeat walk_at "zc"
  refine eqI ?_
  by_cases hw0 : (way : Int) = 0
  · first | with_reducible refine boT (decide_eq_true hw0) ?_ | with_reducible refine bnT (decide_eq_true hw0) ?_ | rw [decide_eq_true hw0]
    repeat walk_at "zc"
    walk_at "z c1"
    repeat walk_at "zc"
    refine ⟨St.K (by walk_at "as"), ?_⟩
    refine ccMn (law_atom (n := 1)) (by walk_at "as") (hA'.le (by walk_at "om")) ?_
    rintro v4 s4 P4 hP4 S4 ⟨t, ht, hv4⟩
    have h := atoms_ok t ht
    exact B.ret (hP2.trans hP4) S4 ⟨rfl, t, hv4, h.1, by simp only [bnd]; lia⟩
  · first | with_reducible refine boF (decide_eq_false hw0) ?_ | with_reducible refine bnF (decide_eq_false hw0) ?_ | rw [decide_eq_false hw0]
    repeat walk_at "zc"
    walk_at "nil"
    repeat walk_at "zc"
    refine eqI ?_
    by_cases hw1 : (way : Int) = 1
    · first | with_reducible refine boT (decide_eq_true hw1) ?_ | with_reducible refine bnT (decide_eq_true hw1) ?_ | rw [decide_eq_true hw1]
      repeat walk_at "zc"
      refine ltI ?_
      by_cases hl4 : l < 4
      · first | with_reducible refine boT (decide_eq_true hl4) ?_ | with_reducible refine bnT (decide_eq_true hl4) ?_ | rw [decide_eq_true hl4]
        repeat walk_at "zc"
        walk_at "z c3"
        repeat walk_at "zc"
        refine ⟨St.K (by walk_at "as"), ?_⟩
        refine ccMn (law_mark ih (by omega)) (by walk_at "as") (hA'.le (by walk_at "om")) ?_
        rintro v4 s4 P4 hP4 S4 ⟨t, hv4, h1, h2⟩
        exact B.ret (hP2.trans hP4) S4 ⟨rfl, t, hv4, h1, h2⟩
      · first | with_reducible refine boF (decide_eq_false hl4) ?_ | with_reducible refine bnF (decide_eq_false hl4) ?_ | rw [decide_eq_false hl4]
        repeat walk_at "zc"
        walk_at "nil"
        refine rest ?_ (by walk_at "as") <;> walk_at "z lk"
    · first | with_reducible refine boF (decide_eq_false hw1) ?_ | with_reducible refine bnF (decide_eq_false hw1) ?_ | rw [decide_eq_false hw1]
      repeat walk_at "zc"
      walk_at "nil"
      refine rest ?_ (by walk_at "as") <;> walk_at "z lk"
theorem law_template : ∀ k : Nat, LawTemplate c k
  | 0 => law_template0
  | k + 1 => law_templateS (law_template k)
end
end TE6
section TE7
-- turned
local macro_rules | `(tactic| walk_at "evx") => `(tactic| with_reducible exact evC (by assumption) (by assumption) (by decide +kernel))
local macro_rules | `(tactic| walk_at "zc") => `(tactic| walk_at "z")
section
variable {c : Cx} {P C : View} {L x dx tp : Addr} {m : Loc} {mu rho : Led} {s : Shared} {A : Around} {a b d : Value} {n : Nat} {W : Wld} {bound : List Str}
theorem clos1 {env : Env} {sc : PySem.Scope} {cl : List (Str × Addr)} {k : ScopeKind} {g1 g2 : Bool} {x1 x2 x3 x4 : Str} {a1 : Addr} (hE : EnvOk env sc L cl) (h1 : cl.lookup x4 = some a1) :
    closureFor { kind := k, names := [(x1, .local), (x2, .local), (x3, .globalImplicit), (x4, .free)], isGenerator := g1, isCoroutine := g2 } env = pure [(x4, a1)] := by
  unfold closureFor
  simp [cellOf, hE.cells, h1]
structure LawDatum (c : Cx) (W : Wld) (bound : List Str) (k : Nat) : Prop where
  use : ∀ {P : View} {v : Value} {t : Thing} {T : Tab} {last : Int} {u : Tok}, sz t ≤ k → okT t → TV P v t → WK c P W T bound →
    CallsC c (k + 5) 688 [.ref W.wx, v] P (WL c W T last u) (fun P' mu' r => Ex1 fun T' => And4 (T <+: T') (WK c P' W T' bound) (mu' = WL c W T' last u) (DV c.w P' T' r t))
theorem okTs_get : ∀ {ts : List Thing}, okTs ts → ∀ {i : Nat} {t : Thing}, ts[i]? = some t → okT t
  | [], _, i, t, h => by simp at h
  | a :: r, k, 0, t, h => by
    unfold okTs at k
    simp at h; subst h; exact k.1
  | a :: r, k, i + 1, t, h => by
    unfold okTs at k
    simp at h; exact okTs_get k.2 h
theorem law_datum : ∀ k : Nat, k ≤ 300 → LawDatum c W bound k := by
  intro k
  induction k with
  | zero =>
    intro _
    constructor
    intro P v t T last u hk; have := sz_pos t; omega
  | succ k ih =>
  intro hk3
  have ih := ih (by lia)
  constructor
  intro P v t T last u hk hok h hW
  refine introC (n := k + 5) c.fx.is_law_datum (binds := [("world", .ref W.wx), ("thing", v)]) (lb := [("thing", v)]) (cb := [("world", .ref W.wx)]) (fun _ _ _ _ _ _ _ => rfl) (.cell (by decide +kernel) (.loc (by decide +kernel) .nil)) ?_
  intro env A' L' C' s₁ P₁ cl Qb Eb hP₁ hE hA' S' hcells B
  have k1 : CellAt cl P₁ (Str.ofString "world") (.ref W.wx) := hcells "world" _ (by decide +kernel) (by rfl)
  replace h : TV P₁ v t := h.mono hP₁
  replace hW := hW.mono hP₁
  clear hcells
  dsimp only [f_law_datum, fx_law_datum, binds0] at *
  cases t with
  | int i =>
    obtain ⟨u1, rfl⟩ := Rd.intInv h
    repeat walk_at "zc"
    exact B.ret (View.le.refl _) (by walk_at "as") ⟨T, List.prefix_refl _, hW, rfl, .int _ _⟩
  | sym x =>
    obtain ⟨a, u1, u2, rfl, ht⟩ := TV.symInv h
    unfold okT at hok
    repeat walk_at "zc"
    walk_at "nil"
    repeat walk_at "zc"
    refine getWn (by walk_at "as") hW c.fx.a_Names_table (by walk_at "z fl") rfl (fun s5 S5 => ?_)
    refine methF S5 hW.t c.fx.m_SymbolTable_symbol (by rfl) ?_
    refine cW1 c.fx.m_SymbolTable_symbol.keep ?_
    repeat walk_at "zc"
    refine ⟨St.K (by walk_at "as"), ?_⟩
    refine ccn (tbl_symbol (n := k + 1) x _ hW hok) (by walk_at "as") (hA'.le (by walk_at "om")) ?_
    rintro v6 s6 P6 mu6 hP6 S6 ⟨T6, ib, hT6, W6, rfl, rfl, hib⟩
    obtain ⟨n2, hn2⟩ := List.mem_iff_getElem?.mp hib
    exact B.ret hP6 S6 ⟨T6, hT6, W6, rfl, .sym hn2 (W6.syms _ _ _ hn2)⟩
  | nil =>
    obtain ⟨a, u1, rfl, ht⟩ := TV.nilInv h
    repeat walk_at "zc"
    walk_at "nil"
    repeat walk_at "zc"
    walk_at "nil"
    repeat walk_at "zc"
    exact B.ret (View.le.refl _) (by walk_at "as") ⟨T, List.prefix_refl _, hW, rfl, .nil⟩
  | vec ts =>
    obtain ⟨a, u1, l, vs, rfl, ht, hl, hr⟩ := TV.vecInv h
    have hsz : szs ts ≤ k := by simp only [sz] at hk; lia
    unfold okT at hok
    have hlen : vs.length ≤ 500 := by have := hr.length; rw [encs_map, List.length_map] at this; have := szs_len ts; lia
    obtain ⟨a1, o1, g1, p1, d1⟩ := id k1
    repeat walk_at "zc"
    walk_at "nil"
    repeat walk_at "zc"
    walk_at "nil"
    repeat walk_at "zc"
    walk_at "nil"
    repeat walk_at "zc"
    walk_at "z c1"
    refine compE hE (clos1 hE g1) (by decide +kernel) (by decide +kernel) rfl (by decide +kernel) hA'.handled ?_
    repeat walk_at "zc"
    refine iterL (by walk_at "as") hl ?_
    intro it s4 hC W4 S4
    refine ⟨it, _, _, _, _, _, _, _, fun i P' mu' ys => Ex1 fun T' => And4 (T <+: T') (WK c P' W T' bound) (mu' = WL c W T' last u) (DVs c.w P' T' ys (ts.take i)), rfl, S4, W4, self_list, by lia, hC, ⟨T, List.prefix_refl _, hW, rfl, .nil⟩, ?_, ?_⟩
    · intro i v P' mu' ys s' Lc m' C5 cenv E5 Eb5 hi hv hP hJ hEc hm' S5 hnext
      obtain ⟨T5, hT5, W5, rfl, hys⟩ := hJ
      obtain ⟨d, hd, hvd⟩ := hr.get hv
      rw [encs_map, List.getElem?_map] at hd
      obtain ⟨t5, ht5, rfl⟩ := Option.map_eq_some_iff.mp hd
      have hmem : t5 ∈ ts := List.mem_of_getElem? ht5
      have := szs_mem hmem
      have c1 : CellAt [(Str.ofString "world", a1)] P' (Str.ofString "world") (.ref W.wx) := ⟨a1, o1, lkA_same, hP _ _ p1, d1⟩
      clear k1
      walk_at "z c2"
      repeat walk_at "zc"
      refine ⟨St.K (by walk_at "as"), ?_⟩
      refine ccn (ih.use (t := t5) (by lia) (okTs_get hok ht5) (hvd.mono hP) W5) (by walk_at "as") (hA'.le (by walk_at "om")) ?_
      rintro v6 s6 P6 mu6 hP6 S6 ⟨T6, hT6, W6, rfl, hv6⟩
      refine hnext hP6 ⟨T6, hT5.trans hT6, W6, rfl, ?_⟩ S6
      rw [List.take_add_one, ht5]
      exact (hys.mono hP6 hT6).snoc hv6
    · intro D P' mu' ys s' hP hJ hl' S5
      obtain ⟨T5, hT5, W5, rfl, hys⟩ := hJ
      obtain ⟨P6, hP6, hl6, S6⟩ := S5.freezeL
      walk_at "ds"
      refine ⟨S6.K, ?_⟩
      refine make_Vector (n := k + 1) S6 (hA'.le (by walk_at "om")) (fun x7 s7 P7 hP7 S7 I7 => ?_)
      have hys' : DVs c.w P' T5 ys ts := by
        have e : ts.take vs.length = ts := by
          rw [hr.length, encs_map, List.length_map, List.take_length]
        rw [e] at hys
        exact hys
      exact B.ret (hP.trans (hP6.trans hP7)) S7 ⟨T5, hT5, W5.mono (hP6.trans hP7), rfl, .vec I7 (hl6.mono hP7) (hys'.mono (hP6.trans hP7) (List.prefix_refl _))⟩
  | pair t1 t2 =>
    obtain ⟨a, u1, p, q, rfl, ht, hp, hq⟩ := TV.pairInv h
    unfold okT at hok
    have hsz : sz t1 + sz t2 ≤ k := by simp only [sz] at hk; lia
    have h1 := sz_pos t1
    have h2 := sz_pos t2
    repeat walk_at "zc"
    walk_at "nil"
    repeat walk_at "zc"
    walk_at "nil"
    repeat walk_at "zc"
    walk_at "nil"
    repeat walk_at "zc"
    walk_at "nil"
    repeat walk_at "zc"
    walk_at "z c2"
    walk_at "z c2"
    repeat walk_at "zc"
    refine ⟨St.K (by walk_at "as"), ?_⟩
    refine ccn (ih.use (t := t1) (by lia) hok.1 hp hW) (by walk_at "as") (hA'.le (by walk_at "om")) ?_
    rintro v6 s6 P6 mu6 hP6 S6 ⟨T6, hT6, W6, rfl, hv6⟩
    replace k1 := k1.mono hP6
    replace ht := ht.mono hP6
    walk_at "z c2"
    repeat walk_at "zc"
    refine ⟨St.K (by walk_at "as"), ?_⟩
    refine ccn (ih.use (t := t2) (by lia) hok.2 (Rd.mono hP6 hq) W6) (by walk_at "as") (hA'.le (by walk_at "om")) ?_
    rintro v7 s7 P7 mu7 hP7 S7 ⟨T7, hT7, W7, rfl, hv7⟩
    refine ⟨S7.K, ?_⟩
    refine make_Pair (n := k + 1) S7 (hA'.le (by walk_at "om")) (fun x8 s8 P8 hP8 S8 I8 => ?_)
    exact B.ret (hP6.trans (hP7.trans hP8)) S8 ⟨T7, hT6.trans hT7, W7.mono hP8, rfl, .pair I8 (hv6.mono (hP7.trans hP8) hT7) (hv7.mono hP8 (List.prefix_refl _))⟩
end
end TE7
section TE8
-- turned
/-! rows of pairs are what they are -/
noncomputable def Fun (P : View) : Prop := ∀ a o o', P a o → P a o' → o = o'
theorem St.fn {c : Cx} {P C : View} {L : Addr} {m : Loc} {mu : Led} {s : Shared} (S : St c P C L m mu s) : Fun P := fun a o o' h k => by
  have := (S.keep _ _ h).symm.trans (S.keep _ _ k)
  injection this
theorem EntsAre.det' {w : World} {es es' : List DictEntry} {fs fs' : Flds} (h : EntsAre w es fs) (k : EntsAre w es' fs') (e : es = es') : fs = fs' := by
  induction h generalizing fs' es' with
  | nil => cases k with
    | nil => rfl
    | cons _ => cases e
  | cons _ ih => cases k with
    | nil => cases e
    | cons k =>
      injection e with e1 e2
      injection e1 with _ e3 e4
      injection e3 with e3 _
      rw [ih k e2, e3, e4]
theorem EntsAre.det {w : World} {es : List DictEntry} {fs fs' : Flds} (h : EntsAre w es fs) (k : EntsAre w es fs') : fs = fs' := h.det' k rfl
theorem Inst.det {w : World} {P : View} {x D D' : Addr} {fs fs' : Flds} (hf : Fun P) (h : Inst w P x D fs) (k : Inst w P x D' fs') : D = D' ∧ fs = fs' := by
  obtain ⟨dx, o, h1, h2, es, n, rfl, he⟩ := h
  obtain ⟨dx', o', k1, k2, es', n', rfl, ke⟩ := k
  have e := hf _ _ _ h1 k1
  have e1 := congrArg Obj.cls e
  have e2 := congrArg Obj.dict e
  injection e1 with e1
  injection e2 with e2
  have e2 : dx = dx' := e2
  subst e2
  have e3 := congrArg Obj.data (hf _ _ _ h2 k2)
  injection e3 with e3
  have e3 : es = es' := by simpa using e3
  subst e3
  exact ⟨e1, he.det ke⟩
/-- what is no pair -/
noncomputable def NoPair (w : World) (P : View) (v : Value) : Prop := (Ex2 fun i t => v = .int i t) ∨ v = .ref 44 ∨ (Ex2 fun x fs => v = .ref x ∧ Inst w P x 62 fs) ∨ Ex2 fun x fs => v = .ref x ∧ Inst w P x 167 fs
theorem NoPair.mono {w : World} {P P' : View} {v : Value} (h : NoPair w P v) (k : P.le P') : NoPair w P' v := by
  rcases h with h | h | ⟨x, fs, h, I⟩ | ⟨x, fs, h, I⟩
  · exact .inl h
  · exact .inr (.inl h)
  · exact .inr (.inr (.inl ⟨x, fs, h, I.mono k⟩))
  · exact .inr (.inr (.inr ⟨x, fs, h, I.mono k⟩))
theorem InstD.cls {P : View} {x D D' : Addr} (hf : Fun P) (h : InstD P x D) (k : InstD P x D') : D = D' := by
  obtain ⟨dx, es, n, h1, h2⟩ := h
  obtain ⟨dx', es', n', k1, k2⟩ := k
  have e1 := congrArg Obj.cls (hf _ _ _ h1 k1)
  injection e1 with e1
theorem NoPair.not {w : World} {P : View} {x : Addr} {fs : Flds} (hf : Fun P) (h44 : InstD P 44 38) (h : NoPair w P (.ref x)) (k : Inst w P x 146 fs) : False := by
  rcases h with ⟨i, t, h⟩ | h | ⟨x, fs, h, I⟩ | ⟨x, fs, h, I⟩
  · cases h
  · cases h; exact absurd (k.d.cls hf h44) (by decide)
  · cases h; exact absurd (k.d.cls hf I.d) (by decide)
  · cases h; exact absurd (k.d.cls hf I.d) (by decide)
theorem RowV.det {w : World} {P : View} {v e : Value} {vs ws : List Value} (hf : Fun P) (h44 : InstD P 44 38) (he : NoPair w P e) (h : RowV w P v vs e) (k : RowV w P v ws e) : vs.length = ws.length := by
  induction h generalizing ws with
  | nil => cases k with
    | nil => rfl
    | cons I _ => exact (he.not hf h44 I).elim
  | cons I _ ih => cases k with
    | nil => exact (he.not hf h44 I).elim
    | cons I' r =>
      have := (I.det hf I').2
      simp only [List.cons.injEq, Prod.mk.injEq] at this
      obtain ⟨⟨_, rfl⟩, ⟨_, rfl⟩, _⟩ := this
      rw [List.length_cons, List.length_cons, ih he r]
theorem RowV.hi {w : World} {P : View} {v e : Value} {vs : List Value} (h : RowV w P v vs e) (he : handedIn e = true) : handedIn v = true := by
  cases h with
  | nil => exact he
  | cons I r => rfl
theorem NoPair.hi {w : World} {P : View} {e : Value} (h : NoPair w P e) : handedIn e = true := by
  rcases h with ⟨i, t, rfl⟩ | rfl | ⟨x, fs, rfl, I⟩ | ⟨x, fs, rfl, I⟩ <;> rfl
section
variable {c : Cx} {P C : View} {L x dx tp : Addr} {m : Loc} {mu rho : Led} {s : Shared} {A : Around} {a b d : Value} {n : Nat} {W : Wld} {bound : List Str}
theorem row_is {r r2 e : Value} {ws ws2 : List Value} {Q E : Value → Shared → Prop} (S : St c P C L m mu s) (he : NoPair c.w P e) (hr : RowV c.w P r ws e) (hr2 : RowV c.w P r2 ws2 e) (hlt : ws.length < ws2.length) (h : Q (.bool false) s) :
    wpAny c.M A (compareOp .Is r r2) Q E s := by
  have h44 := S.empty
  have main : ∀ a2, r2 = .ref a2 → r ≠ r2 → InstD P a2 146 → wpAny c.M A (compareOp .Is r r2) Q E s := by
    rintro a2 rfl hne ⟨dx2, es2, n2, i1, i2⟩
    have other : ∀ a D, r = .ref a → InstD P a D → wpAny c.M A (compareOp .Is r (.ref a2)) Q E s := by
      rintro a D rfl ⟨dx, es, n, k1, k2⟩
      exact wpAny_is_ref_other (fun q => hne (by rw [q])) (S.keep _ _ k1) (S.keep _ _ i1) (by intro q; cases q) h
    cases hr with
    | nil =>
      rcases he with ⟨i, t, rfl⟩ | rfl | ⟨x, fs, rfl, I⟩ | ⟨x, fs, rfl, I⟩
      · exact wpAny_is_other rfl (by intro q; cases q) h
      · exact other _ _ rfl h44
      · exact other _ _ rfl I.d
      · exact other _ _ rfl I.d
    | cons I _ => exact other _ _ rfl I.d
  cases hr2 with
  | nil => simp at hlt
  | @cons a2 x2 r3 ws3 t I2 hr3 =>
    refine main a2 rfl ?_ I2.d
    rintro rfl
    have := hr.det S.fn h44 he (.cons I2 hr3)
    lia
theorem split_list_ {v e : Value} {vs : List Value} (h : RowV c.w P v vs e) (he : NoPair c.w P e) (hh : ∀ x ∈ vs, handedIn x = true) (hz : vs.length ≤ 900) :
    CallsC c (n + 1) 186 [v] P [] (fun P' mu' r => mu' = [] ∧ Ex2 fun t l => And3 (r = .ref t) (IsTp P' t [.ref l, e]) (IsLst P' l vs)) := by
  refine intro c.fx.is_split_list [("datum", v)] (fun _ _ _ _ _ _ _ _ => BindsTo.of_eq rfl) (locs rfl) (by decide +kernel) ?_
  intro env A' L' C' s₁ Qb Eb hE hA' S' B
  dsimp only [f_split_list, fx_split_list, binds0] at *
  have hhi := he.hi
  repeat walk_at "z"
  with_reducible refine newLst (by walk_at "as") (fun D s2 hD S2 => ?_) (by simp)
  repeat walk_at "z"
  rename_i sW SW
  refine whileS (fun k s => Ex6 fun pre ws at_ slow sw m' => And9 (ws.length = k) (vs = pre ++ ws) (RowV c.w P at_ ws e) (RowV c.w P slow sw e) (sw.length = vs.length - pre.length / 2) (m' (Str.ofString "at") = some at_) (m' (Str.ofString "slow") = some slow) (m' (Str.ofString "things") = some (.ref D)) (St c P C' L' m' [(D, LstO pre)] s)) ?_ vs.length
    ⟨[], vs, v, v, vs, _, rfl, rfl, h, h, by simp, by walk_at "z lk", by walk_at "z lk", by walk_at "z lk", SW⟩
  rintro K E2 k s5 ⟨pre, ws, at_, slow, sw, m5, hk, hvs, hat, hsl, hsw, e1, e2, e3, S5⟩ hnx hrt
  cases hat with
  | nil =>
    have fin : ∀ s6, St c P C' L' m5 [(D, LstO pre)] s6 → wpAny c.M A' (execs (f_split_list.body.drop 4) env) Qb Eb s6 := by
      intro s6 S6
      dsimp only [f_split_list, fx_split_list, List.drop]
      repeat walk_at "z"
      with_reducible refine newTup (by walk_at "as") (fun t7 s7 P7 hP7 ht7 S7 => ?_) (by simp)
      obtain ⟨P8, hP8, hl8, S8⟩ := S7.freezeL
      rw [List.append_nil] at hvs
      exact B.ret (hP7.trans hP8) S8 ⟨rfl, t7, D, rfl, ht7.mono hP8, hvs ▸ hl8⟩
    rcases he with ⟨i, t, rfl⟩ | rfl | ⟨x, fs, rfl, I⟩ | ⟨x, fs, rfl, I⟩ <;> (repeat walk_at "z") <;> walk_at "nil" <;> exact fin _ (by walk_at "as")
  | @cons a x r ws t I hr =>
    have hx : handedIn x = true := hh x (by rw [hvs]; simp)
    have hri := hr.hi hhi
    have hlen : vs.length = pre.length + (ws.length + 1) := by rw [hvs]; simp
    repeat walk_at "z"
    refine stAppend hE ?_
    walk_at "z"
    refine ⟨D, rfl, ?_, ?_⟩
    · obtain ⟨n', hn'⟩ := St.lstO (a := D) (xs := pre) (by walk_at "as") (.head _)
      exact ⟨_, n', hn'⟩
    repeat walk_at "z"
    refine ⟨_, _, _, _, _, pre, by lia, by walk_at "as", fun s7 S7 => ?_⟩
    walk_at "ds"
    repeat walk_at "z"
    refine cB1 (by walk_at "as") hE (by decide +kernel) c.fx.b_len boot_len ?_
    repeat walk_at "z"
    refine lenL (xs := pre ++ [x]) (by walk_at "as") (St.lst (by walk_at "as") (.head _)) (by simp; lia) (fun t8 s8 S8 => ?_)
    repeat walk_at "z"
    refine modI (by decide) (by walk_at "as") (fun t10 s10 S10 => ?_)
    repeat walk_at "z"
    refine eqI ?_
    have hpl : (pre ++ [x]).length = pre.length + 1 := by simp
    by_cases hev : (((pre ++ [x]).length : Int).fmod 2) = 0
    · first | with_reducible refine boT (decide_eq_true hev) ?_ | with_reducible refine bnT (decide_eq_true hev) ?_ | rw [decide_eq_true hev]
      rw [hpl, Int.fmod_eq_emod_of_nonneg _ (by decide)] at hev
      have hp : pre.length % 2 = 1 := by lia
      cases hsl with
      | nil => simp at hsw; omega
      | @cons a2 x2 r2 ws2 t2 I2 hr2 =>
        have hri2 := hr2.hi hhi
        rw [List.length_cons] at hsw
        repeat walk_at "z"
        refine row_is (by walk_at "as") he hr hr2 (by omega) ?_
        repeat walk_at "z"
        walk_at "nil"
        walk_at "nil"
        walk_at "nil"
        rename_i sZ SZ
        exact hnx (ws.length) _ (by rw [← hk]; simp) ⟨pre ++ [x], ws, r, r2, ws2, _, rfl, by rw [hvs]; simp, hr, hr2, by rw [hpl]; lia, by walk_at "z lk", by walk_at "z lk", by walk_at "z lk", SZ⟩
    · first | with_reducible refine boF (decide_eq_false hev) ?_ | with_reducible refine bnF (decide_eq_false hev) ?_ | rw [decide_eq_false hev]
      rw [hpl, Int.fmod_eq_emod_of_nonneg _ (by decide)] at hev
      have hp : pre.length % 2 = 0 := by lia
      repeat walk_at "z"
      walk_at "nil"
      walk_at "nil"
      refine hnx (ws.length) _ (by rw [← hk]; simp) ⟨pre ++ [x], ws, r, slow, sw, _, rfl, by rw [hvs]; simp, hr, hsl, by rw [hsw, hpl]; lia, ?_, ?_, ?_, (by walk_at "as")⟩ <;> walk_at "z lk"
end
end TE8
section TE9
-- turned
local macro_rules | `(tactic| walk_at "evx") => `(tactic| with_reducible exact evC (by assumption) (by assumption) (by decide +kernel))
local macro_rules | `(tactic| walk_at "zc") => `(tactic| walk_at "z")
/-! what is done can be laid out -/
theorem MOk_pair {a d : Mean} (h : MOk a) (k : MOk d) : MOk (.pair a d) := by
  unfold MOk at *
  simp only [encM, PyData.canLay0, PyData.canLayAll0, h, k]; decide +kernel
theorem MOk_vecOf {a : Mean} (h : MOk a) : MOk (.vecOf a) := by
  unfold MOk at *
  simp only [encM, PyData.canLay0, PyData.canLayAll0, h]; decide +kernel
theorem MOk_mrow : ∀ {ms : List Mean} {t : Mean}, (∀ m ∈ ms, MOk m) → MOk t → MOk (mrow ms t)
  | [], _, _, h => h
  | a :: r, t, k, h => by
    have h1 := k a (.head _)
    have h2 := MOk_mrow (ms := r) (fun m hm => k m (.tail _ hm)) h
    unfold MOk at *
    simp only [mrow, encM, PyData.canLay0, PyData.canLayAll0, h1, h2]; decide +kernel
theorem MOk_spine : ∀ {m : Mean}, MOk m → ∀ x ∈ (spine m).1, MOk x
  | .int _, _, x, h => by simp [spine] at h
  | .sym _, _, x, h => by simp [spine] at h
  | .nil, _, x, h => by simp [spine] at h
  | .vecOf _, _, x, h => by simp [spine] at h
  | .call _, _, x, h => by simp [spine] at h
  | .joined _ _, _, x, h => by simp [spine] at h
  | .pair a d, k, x, h => by
    simp only [spine, List.mem_cons] at h
    rcases h with rfl | h
    · exact k.pair.1
    · exact MOk_spine k.pair.2 x h
theorem MOk_joined {a b : Mean} (h : MOk a) (k : MOk b) : MOk (joined a b) := by
  unfold joined
  split
  · exact MOk_mrow (MOk_spine h) k
  · unfold MOk at *
    simp only [encM, PyData.canLay0, PyData.canLayAll0, h, k]; decide +kernel
mutual
theorem MOk_frozen : ∀ {t : Thing}, TOk t → MOk (frozen t)
  | .int _, h => by unfold frozen; exact h
  | .sym _, h => by unfold frozen; exact h
  | .nil, h => by unfold frozen; exact h
  | .vec ts, h => by
    have h1 := MOk_frozens (TOk.vec h)
    unfold frozen
    exact MOk_vecOf h1
  | .pair a d, h => by
    have h1 := MOk_frozen h.pair.1
    have h2 := MOk_frozen h.pair.2
    unfold frozen
    exact MOk_pair h1 h2
theorem MOk_frozens : ∀ {ts : List Thing}, PyData.canLayAll0 (encs ts) = true → MOk (frozens ts)
  | [], _ => by unfold frozens MOk; decide +kernel
  | t :: r, h => by
    simp only [encs, PyData.canLayAll0, Bool.and_eq_true] at h
    have h1 := MOk_frozen h.1
    have h2 := MOk_frozens h.2
    unfold frozens
    exact MOk_pair h1 h2
end
/-! forms -/
noncomputable def fdep : Form → Nat
  | .hole _ => 1
  | .quote _ => 1
  | .cons f g => 1 + max (fdep f) (fdep g)
  | .append _ g => 1 + fdep g
  | .l2v f => 1 + fdep f
noncomputable def fok : Form → Prop
  | .hole t => TOk t ∧ sz t ≤ 200
  | .quote t => TOk t ∧ sz t ≤ 200
  | .cons f g => fok f ∧ fok g
  | .append t g => (TOk t ∧ sz t ≤ 200) ∧ fok g
  | .l2v f => fok f
theorem MOk_done : ∀ {f : Form}, fok f → MOk (done f)
  | .hole t, h => MOk_hole h.1
  | .quote t, h => MOk_frozen h.1
  | .cons f g, h => by
    have h1 := MOk_done h.1
    have h2 := MOk_done h.2
    unfold done
    exact MOk_pair h1 h2
  | .append t g, h => MOk_joined (MOk_hole h.1.1) (MOk_done h.2)
  | .l2v f, h => by
    have h1 := MOk_done (f := f) h
    unfold done
    exact MOk_vecOf h1
theorem fdep_pos : ∀ f : Form, 1 ≤ fdep f
  | .hole _ => Nat.le_refl _
  | .quote _ => Nat.le_refl _
  | .cons f g => by unfold fdep; lia
  | .append _ g => by unfold fdep; omega
  | .l2v f => by unfold fdep; omega
theorem encM_none : ∀ m : Mean, PyData.eqv (encM m) .none = false := by
  intro m; cases m <;> simp [encM, PyData.eqv]
theorem any_none : ∀ ms : List Mean, ((ms.map encM).any fun y => PyData.eqv y .none) = false
  | [] => rfl
  | m :: r => by rw [List.map_cons, List.any_cons, encM_none, any_none r]; rfl
theorem canLay_means : ∀ {ms : List Mean}, (∀ m ∈ ms, MOk m) → PyData.canLayAll0 (ms.map encM) = true
  | [], _ => rfl
  | m :: r, h => by
    have h1 := h m (.head _)
    have h2 := canLay_means (ms := r) fun x hx => h x (.tail _ hx)
    unfold MOk at h1
    simp only [List.map, PyData.canLayAll0, h1, h2]; rfl
theorem nodup_idx {α : Type} : ∀ {l : List α}, l.Nodup → ∀ {i j : Nat} {a : α}, l[i]? = some a → l[j]? = some a → i = j
  | [], _, i, j, a, h, _ => by simp at h
  | x :: r, nd, 0, 0, a, _, _ => rfl
  | x :: r, nd, 0, j + 1, a, h, k => by
    simp at h k; subst h
    exact absurd (List.mem_of_getElem? k) (List.nodup_cons.mp nd).1
  | x :: r, nd, i + 1, 0, a, h, k => by
    simp at h k; subst k
    exact absurd (List.mem_of_getElem? h) (List.nodup_cons.mp nd).1
  | x :: r, nd, i + 1, j + 1, a, h, k => by
    simp at h k
    rw [nodup_idx (List.nodup_cons.mp nd).2 h k]
section
variable {c : Cx} {P C : View} {L x dx tp : Addr} {m : Loc} {mu rho : Led} {s : Shared} {A : Around} {a b d : Value} {n : Nat} {W : Wld} {T : Tab} {bound : List Str}
/-- what a word of the root means in the scope -/
theorem find_word {w : Str} {ia ba k1 : Nat} {j : Int} {ju : Tok} (hW : WK c P W T bound) (hn : T[k1]? = some (w, ba)) (Ia : Inst c.w P ia 242 [("number", .int j ju), ("base", .ref ba), ("scope", .ref W.rx)]) :
    CallsC c (n + 5) 393 [.ref W.sx, .ref ia] P [] (fun P' mu' r => mu' = [] ∧ ((w = "quote" ∧ r = .ref W.qs) ∨ (w ≠ "quote" ∧ Ex1 fun g => r = .ref g ∧ Inst c.w P' g 305 [("symbol", .ref ba)]))) := by
  obtain ⟨kvs, hch, k3, k4, k5⟩ := hW.chS
  have hs1 := hW.syms _ _ _ hn
  have e1 : lookCh (2 * j + 1) [kvs, [((0 : Int), Value.ref W.qs)]] = .none := by
    have e2 : lookCh (2 * j + 1) [[((0 : Int), Value.ref W.qs)]] = .none := by rw [lookR, if_neg (by lia)]
    conv => lhs; unfold lookCh
    rw [k5]
    exact e2
  intro A C L m rho s R S hA k
  refine scope_find (n := n) hch hs1 (.inr ⟨j, ju, Ia, e1, hW.chR, rfl⟩) S hA fun v s' P' mu' hP' S' ⟨hm, hf⟩ => k v s' P' mu' hP' S' ⟨hm, ?_⟩
  rw [lookR] at hf
  obtain ⟨a0, ha0⟩ := hW.T0
  by_cases hk : k1 = 0
  · subst hk
    rw [ha0] at hn
    cases hn
    rw [if_pos (by rfl)] at hf
    rcases hf with ⟨h, _⟩ | ⟨_, h⟩
    · cases h
    · exact .inl ⟨rfl, h⟩
  · rw [if_neg (by lia)] at hf
    have hw : w ≠ "quote" := by
      rintro rfl
      have h1 : (T.map (·.1))[k1]? = some (Str.ofString "quote") := by rw [List.getElem?_map, hn]; rfl
      have h2 : (T.map (·.1))[0]? = some (Str.ofString "quote") := by rw [List.getElem?_map, ha0]; rfl
      exact hk (nodup_idx hW.nd h1 h2)
    rcases hf with ⟨_, h⟩ | ⟨h, _⟩
    · exact .inr ⟨hw, h⟩
    · exact absurd rfl h
end
end TE9
section TE10
-- turned
local macro_rules | `(tactic| walk_at "evx") => `(tactic| with_reducible exact evC (by assumption) (by assumption) (by decide +kernel))
local macro_rules | `(tactic| walk_at "zc") => `(tactic| walk_at "z")
section
variable {c : Cx} {P C : View} {L x dx tp : Addr} {m : Loc} {mu rho : Led} {s : Shared} {A : Around} {a b d : Value} {n : Nat} {W : Wld} {T : Tab} {bound : List Str}
theorem law_back' {v : Value} {t : Thing} (hz : sz t ≤ 200) (hd : DV c.w P T v t) : CallsC c (200 + 2) 693 [v] P [] (fun P' mu' r => mu' = [] ∧ TV P' r t) := by
  have h : LawBack c 200 := law_back 200
  unfold LawBack at h
  exact @h P T v t hz (by decide) hd
theorem law_frozen' {v : Value} {t : Thing} (hz : sz t ≤ 200) (hd : TV P v t) : CallsC c (200 + 2) 743 [v] P [] (fun P' mu' r => mu' = [] ∧ MV P' r (frozen t)) := by
  have h : LawFrozen c 200 := law_frozen 200
  unfold LawFrozen at h
  exact @h P v t hz (by decide) hd
structure LawDone (c : Cx) (W : Wld) (bound : List Str) (k : Nat) : Prop where
  use : ∀ {P : View} {v : Value} {f : Form} {T : Tab}, fdep f ≤ k → fok f → WK c P W T bound → FV c P W T v f → CallsC c (k + 203) 738 [v, .ref W.sx] P [] (fun P' mu' r => mu' = [] ∧ MV P' r (done f))
theorem law_done_hole {k : Nat} {v : Value} {t : Thing} (hok : TOk t) (hz : sz t ≤ 200) (hW : WK c P W T bound) (hd : DV c.w P T v t) :
    CallsC c (k + 204) 738 [v, .ref W.sx] P [] (fun P' mu' r => mu' = [] ∧ MV P' r (hole t)) := by
  refine introC (n := k + 203) c.fx.is_law_done (binds := [("form", v), ("scope", .ref W.sx)]) (lb := [("form", v)]) (cb := [("scope", .ref W.sx)]) (fun _ _ _ _ _ _ _ => rfl) (.loc (by decide +kernel) (.cell (by decide +kernel) .nil)) ?_
  intro env A' L' C' s₁ P₁ cl Qb Eb hP₁ hE hA' S' hcells B
  clear hcells
  replace hd := hd.mono hP₁ (List.prefix_refl _)
  dsimp only [f_law_done, fx_law_done, binds0] at *
  have fin : ∀ {s2 : Shared} {p1 p2 p3 p4 p5 : Pos} {Q E : Value → Shared → Prop}, St c P₁ C' L' (upd noLoc (Str.ofString "form") v) [] s2 → (∀ v s', Qb (.ret v) s' → Q v s') →
      wpAny c.M A' (eval (.Call (.Name "_law_hole" p1) [.Call (.Name "_law_back" p2) [.Name "form" p3] [] p4] [] p5) env) Q E s2 := by
    intro s2 p1 p2 p3 p4 p5 Q E S2 hq
    walk_at "z c1"
    walk_at "z c1"
    walk_at "z"
    refine ⟨St.K (by walk_at "as"), ?_⟩
    refine cc0 (law_back' hz hd) (rho := []) (by walk_at "as") (hA'.le (by walk_at "om")) ?_
    rintro v3 s3 P3 hP3 S3 h3
    refine ⟨S3.K, ?_⟩
    refine cc0 (law_hole (n := k) h3) (rho := []) S3 (hA'.le (by walk_at "om")) ?_
    rintro v4 s4 P4 hP4 S4 h4
    exact hq _ _ (B.ret (hP3.trans hP4) S4 ⟨rfl, h4⟩)
  rcases hd.pairOr with ⟨a, x, y, tx1, ty, rfl, -, I, hx, hy⟩ | ⟨nP, -⟩
  · have hxi := hx.hi
    have nA := hx.notAlias
    repeat walk_at "zc"
    exact fin (by walk_at "as") (fun _ _ h => h)
  · repeat walk_at "zc"
    exact fin (by walk_at "as") (fun _ _ h => h)
theorem Back.mono {c : Cx} {P P2 C : View} {L : Addr} {Post : View → Led → Value → Prop} {Qb : Flow → Shared → Prop} (B : Back c P C L Post Qb) (h : P.le P2) : Back c P2 C L Post Qb :=
  ⟨fun {_ _ _ _ _} hP S hp => B.ret (h.trans hP) S hp, fun {_ _ _ _} hP S hp => B.nxt (h.trans hP) S hp⟩
/-- what a form's head means -/
noncomputable def HeadV (c : Cx) (P : View) (W : Wld) (w : Str) (mv : Value) : Prop := (w = "quote" ∧ mv = .ref W.qs) ∨ (w ≠ "quote" ∧ Ex3 fun g ba k1 => And3 (mv = .ref g) (Inst c.w P g 305 [("symbol", .ref ba)]) (SymI c.w P ba k1 w))
theorem law_done_form {k : Nat} {w : Str} {a0 : Addr} {a1 r1 : Value} {Post : View → Led → Value → Prop} (I : Inst c.w P a0 146 [("car", a1), ("cdr", r1)]) (hw : WdV c P W T a1 w) (hW : WK c P W T bound)
    (rest : ∀ {env A' L' C' P2 Qb Eb m2 s2 cl tk mv}, P.le P2 → EnvOk env f_law_done.scope L' cl → Room A' (k + 203) → CellAt cl P2 (Str.ofString "scope") (.ref W.sx) → m2 (Str.ofString "form") = some (.ref a0) →
      m2 (Str.ofString "word") = some (.str w tk) → m2 (Str.ofString "meaning") = some mv → HeadV c P2 W w mv → St c P2 C' L' m2 [] s2 → Back c P2 C' L' Post Qb → wpAny c.M A' (execs (f_law_done.body.drop 2) env) Qb Eb s2) :
    CallsC c (k + 204) 738 [.ref a0, .ref W.sx] P [] Post := by
  refine introC (n := k + 203) c.fx.is_law_done (binds := [("form", .ref a0), ("scope", .ref W.sx)]) (lb := [("form", .ref a0)]) (cb := [("scope", .ref W.sx)]) (fun _ _ _ _ _ _ _ => rfl) (.loc (by decide +kernel) (.cell (by decide +kernel) .nil)) ?_
  intro env A' L' C' s₁ P₁ cl Qb Eb hP₁ hE hA' S' hcells B
  have k1 : CellAt cl P₁ (Str.ofString "scope") (.ref W.sx) := hcells "scope" _ (by decide +kernel) (by rfl)
  clear hcells
  replace hW := hW.mono hP₁
  replace I := I.mono hP₁
  have hw' := hw.mono hP₁ (List.prefix_refl _)
  obtain ⟨ba, n1, hn, hs, hal⟩ := hw'
  have hal' := hal
  obtain ⟨ia, j, ju, rfl, Ia⟩ := hal'
  have IS := hW.s
  dsimp only [f_law_done, fx_law_done, binds0] at *
  repeat walk_at "zc"
  walk_at "nil"
  walk_at "z"
  refine unpack2S (by cases env with | mk a b c d e f g h i => have hsc := hE.scope; dsimp only at hsc; subst hsc; rfl) hE hA'.handled (by decide +kernel) (by decide +kernel) ?_
  repeat walk_at "zc"
  walk_at "z c1"
  repeat walk_at "zc"
  refine ⟨St.K (by walk_at "as"), ?_⟩
  refine ccn (root_symbol_ (n := k) hal hs) (by walk_at "as") (hA'.le (by walk_at "om")) ?_
  rintro v3 s3 P3 mu3 hP3 S3 ⟨rfl, rfl, rfl⟩
  obtain ⟨kx, ux, Is⟩ := id hs
  repeat walk_at "zc"
  refine methF (by walk_at "as") IS c.fx.m_Scope_find (by rfl) ?_
  refine cW1 c.fx.m_Scope_find.keep ?_
  repeat walk_at "zc"
  refine ⟨St.K (by walk_at "as"), ?_⟩
  refine cc0 (find_word (n := k) hW hn Ia) (rho := []) (by walk_at "as") (hA'.le (by walk_at "om")) ?_
  rintro v4 s4 P4 hP4 S4 hf
  with_reducible refine newTup (by walk_at "as") (fun t5 s5 P5 hP5 ht5 S5 => ?_) (by simp)
  refine ⟨_, _, _, _, t5, _, _, rfl, ht5, S5, fun s6 S6 => ?_⟩
  walk_at "ds"
  have hP45 := hP4.trans hP5
  refine rest (hP₁.trans hP45) hE hA' (k1.mono hP45) (by walk_at "z lk") (by walk_at "z lk") (by walk_at "z lk") ?_ S6 (B.mono hP45)
  rcases hf with ⟨h1, h2⟩ | ⟨h1, g, h2, h3⟩
  · exact .inl ⟨h1, h2⟩
  · exact .inr ⟨h1, g, ba, n1, h2, h3.mono hP5, hs.mono hP45⟩
end
end TE10
section TE11
-- turned
local macro_rules | `(tactic| walk_at "evx") => `(tactic| with_reducible exact evC (by assumption) (by assumption) (by decide +kernel))
local macro_rules | `(tactic| walk_at "zc") => `(tactic| walk_at "z")
section
variable {c : Cx} {P C : View} {L x dx tp : Addr} {m : Loc} {mu rho : Led} {s : Shared} {A : Around} {a b d : Value} {n : Nat} {W : Wld} {T : Tab} {bound : List Str}
inductive FVs (c : Cx) (P : View) (W : Wld) (T : Tab) : List Value → List Form → Prop
  | nil : FVs c P W T [] []
  | cons {v f vs fs} : FV c P W T v f → FVs c P W T vs fs → FVs c P W T (v :: vs) (f :: fs)
theorem FVs.get {c : Cx} {P : View} {W : Wld} {T : Tab} {vs : List Value} {fs : List Form} (h : FVs c P W T vs fs) : ∀ {i : Nat} {v : Value}, vs[i]? = some v → Ex1 fun f => fs[i]? = some f ∧ FV c P W T v f := by
  induction h with
  | nil => intro i v h; cases h
  | cons a _ ih =>
    intro i v h
    cases i with
    | zero => cases h; exact ⟨_, rfl, a⟩
    | succ i => exact ih (i := i) h
theorem FVs.length {c : Cx} {P : View} {W : Wld} {T : Tab} {v : List Value} {t : List Form} (h : FVs c P W T v t) : v.length = t.length := by
  induction h with
  | nil => rfl
  | cons _ _ ih => exact congrArg Nat.succ ih
theorem FV.hi {c : Cx} {P : View} {W : Wld} {T : Tab} {v : Value} {f : Form} (h : FV c P W T v f) : handedIn v = true := by
  cases h with
  | hole d => exact d.hi
  | quote _ r _ => exact r.hi rfl
  | cons _ r _ _ => exact r.hi rfl
  | append _ r _ _ => exact r.hi rfl
  | l2v _ r _ => exact r.hi rfl
theorem FVs.hi {c : Cx} {P : View} {W : Wld} {T : Tab} {v : List Value} {t : List Form} (h : FVs c P W T v t) : ∀ x ∈ v, handedIn x = true := by
  induction h with
  | nil => intro x h; cases h
  | cons a _ ih =>
    intro x h
    rcases List.mem_cons.mp h with rfl | h
    · exact a.hi
    · exact ih x h
/-- the parts of a form that is no quoting, each done -/
theorem law_done_parts {k : Nat} (ih : LawDone c W bound k) {w : Str} {a0 : Addr} {a1 r1 : Value} {vs : List Value} {fs : List Form} {Post : View → Led → Value → Prop} (I : Inst c.w P a0 146 [("car", a1), ("cdr", r1)]) (hw : WdV c P W T a1 w) (hq : w ≠ "quote") (hW : WK c P W T bound)
    (hr : RowV c.w P r1 vs (.ref 44)) (hf : FVs c P W T vs fs) (hlen : vs.length ≤ 3) (hdep : ∀ f ∈ fs, fdep f ≤ k ∧ fok f)
    (rest : ∀ {env A' L' C' P2 Qb Eb m2 s2 cl tk D ys}, P.le P2 → EnvOk env f_law_done.scope L' cl → Room A' (k + 203) → IsLst P2 D ys → RdAll P2 ys ((fs.map done).map encM) →
      m2 (Str.ofString "word") = some (.str w tk) → m2 (Str.ofString "parts") = some (.ref D) → St c P2 C' L' m2 [] s2 → Back c P2 C' L' Post Qb → wpAny c.M A' (execs (f_law_done.body.drop 6) env) Qb Eb s2) :
    CallsC c (k + 204) 738 [.ref a0, .ref W.sx] P [] Post := by
  refine law_done_form I hw hW ?_
  intro env A' L' C' P2 Qb Eb m2 s2 cl tk mv hP2 hE hA' k1 e1 e2 e3 hm S2 B
  obtain ⟨_, rfl⟩ | ⟨_, g, ba, n1, rfl, Ig, ⟨kx, ux, Is⟩⟩ := hm
  · contradiction
  replace I := I.mono hP2
  replace hW := hW.mono hP2
  replace hr := hr.mono hP2
  have hr1 := hr.hi rfl
  obtain ⟨a1c, o1c, g1, p1, d1⟩ := id k1
  dsimp only [f_law_done, fx_law_done, List.drop]
  repeat walk_at "zc"
  refine eqS ?_
  first | with_reducible refine boF (decide_eq_false hq) ?_ | with_reducible refine bnF (decide_eq_false hq) ?_ | rw [decide_eq_false hq]
  repeat walk_at "zc"
  walk_at "nil"
  repeat walk_at "zc"
  walk_at "nil"
  walk_at "zc"
  refine compA (by cases env with | mk a b c d e f g h i => have hsc := hE.scope; dsimp only at hsc; subst hsc; rfl) hE (by decide +kernel) (clos1 hE g1) (by decide +kernel) (by decide +kernel) rfl (by decide +kernel) hA'.handled ?_
  walk_at "zc"
  walk_at "z c1"
  repeat walk_at "zc"
  refine ⟨St.K (by walk_at "as"), ?_⟩
  refine cc0 (split_list_ (n := k) hr (.inr (.inl rfl)) hf.hi (by lia)) (rho := []) (by walk_at "as") (hA'.le (by walk_at "om")) ?_
  rintro v3 s3 P3 hP3 S3 ⟨t3, l3, rfl, ht3, hl3⟩
  repeat walk_at "zc"
  refine iterL (by walk_at "as") hl3 ?_
  intro it s4 hC W4 S4
  have hlf := hf.length
  refine ⟨it, _, _, _, _, _, _, _, fun i P' mu' ys => mu' = [] ∧ RdAll P' ys (((fs.take i).map done).map encM), rfl, S4, W4, self_list, by lia, hC, ⟨rfl, .nil⟩, ?_, ?_⟩
  · intro i v P' mu' ys s' Lc m' C5 cenv E5 Eb5 hi hv hP hJ hEc hm' S5 hnext
    obtain ⟨rfl, hys⟩ := hJ
    obtain ⟨f5, hf5, hvd⟩ := hf.get hv
    obtain ⟨hd1, hd2⟩ := hdep f5 (List.mem_of_getElem? hf5)
    have c1 : CellAt [(Str.ofString "scope", a1c)] P' (Str.ofString "scope") (.ref W.sx) := ⟨a1c, o1c, lkA_same, (hP3.trans hP) _ _ p1, d1⟩
    clear k1
    walk_at "z c2"
    repeat walk_at "zc"
    refine ⟨St.K (by walk_at "as"), ?_⟩
    refine ccn (ih.use hd1 hd2 (hW.mono (hP3.trans hP)) (hvd.mono (hP2.trans (hP3.trans hP)) (List.prefix_refl _))) (by walk_at "as") (hA'.le (by walk_at "om")) ?_
    rintro v6 s6 P6 mu6 hP6 S6 ⟨rfl, hv6⟩
    refine hnext hP6 ⟨rfl, ?_⟩ S6
    rw [List.take_add_one, hf5, List.map_append, List.map_append]
    exact (hys.mono hP6).snoc hv6
  intro D P' mu' ys s7 hP hJ hl' S7
  obtain ⟨rfl, hys⟩ := hJ
  rw [hlf, List.take_length] at hys
  obtain ⟨P8, hP8, hl8, S8⟩ := S7.freezeL
  have hys8 := hys.mono hP8
  have hall : ∀ m ∈ fs.map done, MOk m := fun m hm => by
    obtain ⟨f, hf, rfl⟩ := List.mem_map.mp hm
    exact MOk_done (hdep f hf).2
  walk_at "ds"
  repeat walk_at "zc"
  refine inR (by walk_at "as") (.list hl8 hys8) .none (canLay_means hall) rfl (by have := hA'.u (k := 8) (by lia); have h2 : PyData.none.depth ≤ 2 := (by decide +kernel); lia) ?_
  rw [any_none]
  repeat walk_at "zc"
  walk_at "nil"
  exact rest (hP2.trans (hP3.trans (hP.trans hP8))) hE hA' hl8 hys8 (by walk_at "z lk") (by walk_at "z lk") S8 (B.mono (hP3.trans (hP.trans hP8)))
theorem law_done : ∀ k : Nat, LawDone c W bound k := by
  intro k
  induction k with
  | zero =>
    constructor
    intro P v f T hk; have := fdep_pos f; lia
  | succ k ih =>
  constructor
  intro P v f T hk hok hW hf
  cases hf with
  | @hole v t hd => exact law_done_hole hok.1 hok.2 hW hd
  | @quote v a1 d t hw hr hd =>
    obtain ⟨a0, r1, rfl, I, hr1⟩ := hr.consInv
    clear hr
    obtain ⟨a2, r2, rfl, I2, hr2⟩ := hr1.consInv
    clear hr1
    refine law_done_form I hw hW ?_
    intro env A' L' C' P2 Qb Eb m2 s2 cl tk mv hP2 hE hA' k1 e1 e2 e3 hm S2 B
    obtain ⟨_, rfl⟩ | ⟨h, _⟩ := hm
    · replace I := I.mono hP2
      replace I2 := I2.mono hP2
      replace hd := hd.mono hP2 (List.prefix_refl _)
      have hdi := hd.hi
      obtain ⟨uq, Iq⟩ := (hW.mono hP2).q
      dsimp only [f_law_done, fx_law_done, List.drop]
      repeat walk_at "zc"
      walk_at "z c1"
      walk_at "z c1"
      repeat walk_at "zc"
      refine ⟨St.K (by walk_at "as"), ?_⟩
      refine cc0 (law_back' hok.2 hd) (rho := []) (by walk_at "as") (hA'.le (by walk_at "om")) ?_
      rintro v3 s3 P3 hP3 S3 h3
      refine ⟨S3.K, ?_⟩
      refine cc0 (law_frozen' hok.2 h3) (rho := []) S3 (hA'.le (by walk_at "om")) ?_
      rintro v4 s4 P4 hP4 S4 h4
      exact B.ret (hP3.trans hP4) S4 ⟨rfl, h4⟩
    · exact absurd rfl h
  | @cons v a1 x y f g hw hr hf hg =>
    obtain ⟨a0, r1, rfl, I, hr1⟩ := hr.consInv
    have hfd : max (fdep f) (fdep g) ≤ k := by unfold fdep at hk; lia
    intro A0 C0 L0 m0 rho0 s0 R0
    refine law_done_parts ih I hw (by decide +kernel) hW hr1 (.cons hf (.cons hg .nil)) (by simp) (by
      intro q hq
      simp only [List.mem_cons, List.not_mem_nil, or_false] at hq
      rcases hq with rfl | rfl
      · exact ⟨by lia, hok.1⟩
      · exact ⟨by lia, hok.2⟩) ?_
    intro env A' L' C' P2 Qb Eb m2 s2 cl tk D ys hP2 hE hA' hl hys e1 e2 S2 B
    simp only [List.map_cons, List.map_nil] at hys
    replace hys := hys.consInv; obtain ⟨y1, yr, rfl, hy1, hys⟩ := hys
    replace hys := hys.consInv; obtain ⟨y2, yr, rfl, hy2, hys⟩ := hys
    obtain rfl := hys.nilInv
    dsimp only [f_law_done, fx_law_done, List.drop]
    repeat walk_at "zc"
    with_reducible refine subL (x := y1) (St.lstP (by walk_at "as") hl) (by decide) (by decide) (by with_unfolding_all rfl) ?_ (by with_unfolding_all rfl)
    repeat walk_at "zc"
    with_reducible refine subL (x := y2) (St.lstP (by walk_at "as") hl) (by decide) (by decide) (by with_unfolding_all rfl) ?_ (by with_unfolding_all rfl)
    with_reducible refine newTup (by walk_at "as") (fun t5 s5 P5 hP5 ht5 S5 => ?_) (by simp)
    exact B.ret hP5 S5 ⟨rfl, .tuple ht5 (.cons (.str _ _) (.cons (hy1.mono hP5) (.cons (hy2.mono hP5) .nil)))⟩
  | @append v a1 x y t g hw hr hd hg =>
    obtain ⟨a0, r1, rfl, I, hr1⟩ := hr.consInv
    have hfd : fdep g ≤ k := by unfold fdep at hk; lia
    have hgp := fdep_pos g
    intro A0 C0 L0 m0 rho0 s0 R0
    refine law_done_parts ih I hw (by decide +kernel) hW hr1 (.cons (.hole hd) (.cons hg .nil)) (by simp) (by
      intro q hq
      simp only [List.mem_cons, List.not_mem_nil, or_false] at hq
      rcases hq with rfl | rfl
      · exact ⟨by simp only [fdep]; lia, hok.1⟩
      · exact ⟨by omega, hok.2⟩) ?_
    intro env A' L' C' P2 Qb Eb m2 s2 cl tk D ys hP2 hE hA' hl hys e1 e2 S2 B
    simp only [List.map_cons, List.map_nil] at hys
    replace hys := hys.consInv; obtain ⟨y1, yr, rfl, hy1, hys⟩ := hys
    replace hys := hys.consInv; obtain ⟨y2, yr, rfl, hy2, hys⟩ := hys
    obtain rfl := hys.nilInv
    dsimp only [f_law_done, fx_law_done, List.drop]
    repeat walk_at "zc"
    walk_at "nil"
    repeat walk_at "zc"
    walk_at "z c2"
    repeat walk_at "zc"
    with_reducible refine subL (x := y1) (St.lstP (by walk_at "as") hl) (by decide) (by decide) (by with_unfolding_all rfl) ?_ (by with_unfolding_all rfl)
    repeat walk_at "zc"
    with_reducible refine subL (x := y2) (St.lstP (by walk_at "as") hl) (by decide) (by decide) (by with_unfolding_all rfl) ?_ (by with_unfolding_all rfl)
    refine ⟨St.K (by walk_at "as"), ?_⟩
    have hz := msz_hole t
    have hz2 := hok.1.2
    refine cc0 (law_joined (n := k) (m1 := hole t) hy1 hy2 (MOk_hole hok.1.1) (by lia)) (rho := []) (by walk_at "as") (hA'.le (by walk_at "om")) ?_
    rintro v3 s3 P3 hP3 S3 h3
    exact B.ret hP3 S3 ⟨rfl, h3⟩
  | @l2v v a1 x f hw hr hf =>
    obtain ⟨a0, r1, rfl, I, hr1⟩ := hr.consInv
    have hfd : fdep f ≤ k := by unfold fdep at hk; lia
    intro A0 C0 L0 m0 rho0 s0 R0
    refine law_done_parts ih I hw (by decide +kernel) hW hr1 (.cons hf .nil) (by simp) (by
      intro q hq
      simp only [List.mem_cons, List.not_mem_nil, or_false] at hq
      subst hq
      exact ⟨by omega, hok⟩) ?_
    intro env A' L' C' P2 Qb Eb m2 s2 cl tk D ys hP2 hE hA' hl hys e1 e2 S2 B
    simp only [List.map_cons, List.map_nil] at hys
    replace hys := hys.consInv; obtain ⟨y1, yr, rfl, hy1, hys⟩ := hys
    obtain rfl := hys.nilInv
    dsimp only [f_law_done, fx_law_done, List.drop]
    repeat walk_at "zc"
    walk_at "nil"
    repeat walk_at "zc"
    walk_at "nil"
    repeat walk_at "zc"
    with_reducible refine subL (x := y1) (St.lstP (by walk_at "as") hl) (by decide) (by decide) (by with_unfolding_all rfl) ?_ (by with_unfolding_all rfl)
    with_reducible refine newTup (by walk_at "as") (fun t5 s5 P5 hP5 ht5 S5 => ?_) (by simp)
    exact B.ret hP5 S5 ⟨rfl, .tuple ht5 (.cons (.str _ _) (.cons (hy1.mono hP5) .nil))⟩
end
end TE11
section TE12
-- turned
section
variable {c : Cx} {P C : View} {L x dx tp : Addr} {m : Loc} {mu rho : Led} {s : Shared} {A : Around} {a b d : Value} {n : Nat} {W : Wld} {T : Tab} {bound : List Str}
theorem St.nosys (S : St c P C L m mu s) : s.heap.objs.size ≠ sysModules := Nat.ne_of_gt (modules_low S.nolimit)
noncomputable abbrev DctO (c : Cx) (o : Obj) : Prop := o.IsDictOf (strKind c.prog c.w) ([] : List (Str × Value))
theorem init_SymbolTable (hx : P x (instObj 125 dx)) : CallsC c (n + 1) 80 [.ref x] P [(dx, IsDictO c.w [])] (fun P' mu' v => (Ex2 fun r y => y ≠ sysModules ∧ mu' = [(dx, IsDictO c.w [("rows", .ref r), ("by_text", .ref y)]), (y, DctO c), (r, LstO [])]) ∧ v = .none) := by
  refine intro c.fx.is_SymbolTable_init [("self", .ref x)] (fun _ _ _ _ _ _ _ _ => BindsTo.of_eq rfl) (locs rfl) (by decide +kernel) ?_
  intro env A' L' C' s₁ Qb Eb hE hA' S' B
  dsimp only [f_SymbolTable_init, fx_SymbolTable_init, binds0] at *
  repeat walk_at "z"
  with_reducible refine newLst (by walk_at "as") (fun r s2 _ S2 => ?_) (by simp)
  have S2 := swp S2
  repeat walk_at "z"
  refine dNew (knd := strKind c.prog c.w) (by walk_at "as") (fun y s4 hy _ S4 => ?_) (St.nosys (by walk_at "as"))
  have S4 := swp S4
  repeat walk_at "z"
  walk_at "nil"
  rename_i s5 S5
  exact B.nxt (View.le.refl _) S5 ⟨⟨r, y, hy, rfl⟩, rfl⟩
theorem init_Scope (hx : P x (instObj 410 dx)) : CallsC c (n + 1) 365 [.ref x, a] P [(dx, IsDictO c.w [])] (fun P' mu' v => (Ex1 fun y => y ≠ sysModules ∧ mu' = [(dx, IsDictO c.w [("parent", a), ("names", .ref y)]), (y, fun o => o.IsDictOf (intKind c.prog c.w) ([] : List (Int × Value)))]) ∧ v = .none) := by
  refine intro c.fx.is_Scope_init [("self", .ref x), ("parent", a)] (fun _ _ _ _ _ _ _ _ => BindsTo.of_eq rfl) (locs rfl) (by decide +kernel) ?_
  intro env A' L' C' s₁ Qb Eb hE hA' S' B
  dsimp only [f_Scope_init, fx_Scope_init, binds0] at *
  repeat walk_at "z"
  refine dNew (knd := intKind c.prog c.w) (by walk_at "as") (fun y s4 hy _ S4 => ?_) (St.nosys (by walk_at "as"))
  have S4 := swp S4
  repeat walk_at "z"
  walk_at "nil"
  exact B.nxt (View.le.refl _) (by walk_at "as") ⟨⟨y, hy, rfl⟩, rfl⟩
theorem init_Names (hx : P x (instObj 641 dx)) : CallsC c (n + 3) 575 [.ref x] P [(dx, IsDictO c.w [])] (fun P' mu' v => (Ex6 fun tx u v1 v2 r y => And3 (y ≠ sysModules) (Inst c.w P' tx 125 [("rows", .ref r), ("by_text", .ref y)]) (mu' = [(dx, IsDictO c.w [("table", .ref tx), ("last", .int 0 u), ("titles", v1), ("ops", v2), ("root", .none)]), (y, DctO c), (r, LstO [])])) ∧ v = .none) := by
  refine intro c.fx.is_Names_init [("self", .ref x)] (fun _ _ _ _ _ _ _ _ => BindsTo.of_eq rfl) (locs rfl) (by decide +kernel) ?_
  intro env A' L' C' s₁ Qb Eb hE hA' S' B
  dsimp only [f_Names_init, fx_Names_init, binds0] at *
  repeat walk_at "z"
  refine cF (by walk_at "as") (by walk_at "as") (by decide +kernel) (by walk_at "z gl") ?_
  refine cW0 S'.K (GlobOk.keep (by walk_at "z gl")) ?_
  refine makesM (n := n + 1) (mu0 := []) (Post := fun tx td P' mu' => Ex2 fun r y => y ≠ sysModules ∧ mu' = [(td, IsDictO c.w [("rows", .ref r), ("by_text", .ref y)]), (y, DctO c), (r, LstO [])]) c.fx.mk_SymbolTable (fun x dx P' _ hx => init_SymbolTable hx) S' (hA'.le (by walk_at "om")) ?_
  rintro tx td s2 P2 mu2 hP2 S2 htx ⟨r, y, hy, rfl⟩
  obtain ⟨ot, hot, S3⟩ := S2.freeze
  have It : Inst c.w (P2.add td ot) tx 125 [("rows", .ref r), ("by_text", .ref y)] := ⟨td, ot, View.le_add _ _ _ _ _ htx, View.add_self _ _ _, hot⟩
  have hP3 : P.le (P2.add td ot) := hP2.trans (View.le_add _ _ _)
  have hx3 := hP3 _ _ hx
  have S4 := rot3 S3
  clear S3 S2
  repeat walk_at "z"
  refine dNew (knd := strKind c.prog c.w) (by walk_at "as") (fun y4 s4 _ _ S4 => ?_) (St.nosys (by walk_at "as"))
  have S5 := S4.drop
  clear S4
  repeat walk_at "z"
  refine dNew (knd := strKind c.prog c.w) (by walk_at "as") (fun y6 s6 _ _ S6 => ?_) (St.nosys (by walk_at "as"))
  have S7 := S6.drop
  clear S6
  repeat walk_at "z"
  walk_at "nil"
  exact B.nxt hP3 (by walk_at "as") ⟨⟨tx, _, .ref y4, .ref y6, r, y, hy, It, rfl⟩, rfl⟩
theorem scope_bind {x d : Addr} {v : Value} {key : Int} {kvs : List (Int × Value)} (I : Inst c.w P x 410 [("parent", a), ("names", .ref d)]) (hi : IdV c.w P v key) (hz : kvs.length ≤ 900) :
    CallsC c (n + 3) 372 [.ref x, v, b] P [(d, fun o => o.IsDictOf (intKind c.prog c.w) kvs)] (fun P' mu' r => P' = P ∧ mu' = [(d, fun o => o.IsDictOf (intKind c.prog c.w) (stored kvs key b))] ∧ r = .none) := by
  refine intro c.fx.is_Scope_bind [("self", .ref x), ("identifier", v), ("denotation", b)] (fun _ _ _ _ _ _ _ _ => BindsTo.of_eq rfl) (locs rfl) (by decide +kernel) ?_
  intro env A' L' C' s₁ Qb Eb hE hA' S' B
  dsimp only [f_Scope_bind, fx_Scope_bind, binds0] at *
  walk_at "z"
  refine wpAny_Assign_Subscript ?_
  repeat walk_at "z"
  walk_at "z c1"
  repeat walk_at "z"
  refine ⟨St.K (by walk_at "as"), ?_⟩
  refine cc (key_of (n := n) hi) (rho := [(d, fun o => o.IsDictOf (intKind c.prog c.w) kvs)]) (by walk_at "as") (hA'.le (by walk_at "om")) ?_
  rintro v3 s3 P3 mu3 hP3 S3 ⟨rfl, rfl, u3, rfl⟩
  try simp only [List.nil_append] at S3
  refine dSet S3 isI (by lia) (fun s4 S4 => ?_)
  repeat walk_at "z"
  walk_at "nil"
  exact B.nxt (View.le.refl _) S4 ⟨rfl, rfl, rfl⟩
end
end TE12
section TE13
-- turned
section
variable {c : Cx} {P C : View} {L x dx tp : Addr} {m : Loc} {mu rho : Led} {s : Shared} {A : Around} {a b d : Value} {n : Nat} {W : Wld} {T : Tab} {bound : List Str}
noncomputable def WdO (c : Cx) (W : Wld) (last : Int) (u : Tok) : Obj → Prop := IsDictO c.w [("table", .ref W.tx), ("last", .int last u), ("titles", W.v1), ("ops", W.v2), ("root", .ref W.rx)]
theorem fresh_core {last : Int} {u : Tok} (hw : P W.wx (instObj 641 W.wdx)) : CallsC c (n + 1) 582 [.ref W.wx] P [(W.wdx, WdO c W last u)] (fun P' mu' r => P' = P ∧ Ex1 fun u' => r = .int (last + 1) u' ∧ mu' = [(W.wdx, WdO c W (last + 1) u')]) := by
  refine intro c.fx.is_Names_fresh [("self", .ref W.wx)] (fun _ _ _ _ _ _ _ _ => BindsTo.of_eq rfl) (locs rfl) (by decide +kernel) ?_
  intro env A' L' C' s₁ Qb Eb hE hA' S' B
  dsimp only [f_Names_fresh, fx_Names_fresh, binds0] at *
  unfold WdO at S'
  repeat walk_at "z"
  refine getFmu S' hw c.fx.a_Names_last (by walk_at "z fl") rfl (fun s3 S3 => ?_)
  repeat walk_at "z"
  rename_i s4 S4
  obtain ⟨t4, S4'⟩ : ∃ t4, St c P C' L' _ ((W.wdx, IsDictO c.w [("table", .ref W.tx), ("last", .int (last + 1) t4), ("titles", W.v1), ("ops", W.v2), ("root", .ref W.rx)]) :: _) s4 := ⟨_, S4⟩
  refine getFmu S4' hw c.fx.a_Names_last (by walk_at "z fl") rfl (fun s5 S5 => ?_)
  exact B.ret (View.le.refl _) S5 ⟨rfl, t4, rfl, rfl⟩
theorem va_stored {K : Type} [DecidableEq K] {k : K} {v : Value} {k' : K} {kvs : List (K × Value)} (h : valueAt kvs k = none) : valueAt (stored kvs k v) k' = if k' = k then some v else valueAt kvs k' := by
  unfold valueAt at h
  rw [Option.map_eq_none_iff, List.find?_eq_none] at h
  have hs : stored kvs k v = kvs ++ [(k, v)] := by
    unfold stored
    rw [if_neg]
    rw [List.any_eq_true]
    rintro ⟨x, hx, e⟩
    exact h x hx e
  rw [hs]
  unfold valueAt
  rw [List.find?_append]
  by_cases e : k' = k
  · subst e
    rw [if_pos rfl, List.find?_eq_none.mpr h]
    simp
  · rw [if_neg e]
    have e' : ¬ k = k' := fun q => e q.symm
    have : List.find? (fun kv : K × Value => decide (kv.1 = k')) [(k, v)] = none := by simp [e']
    rw [this, Option.or_none]
theorem make_Scope {Q E : Value → Shared → Prop} (S : St c P C L m mu s) (hA : Room A (n + 2)) (h : ∀ x y s' P', P.le P' → y ≠ sysModules → Inst c.w P' x 410 [("parent", a), ("names", .ref y)] → St c P' C L m ((y, fun o => o.IsDictOf (intKind c.prog c.w) ([] : List (Int × Value))) :: mu) s' → Q (.ref x) s') :
    wpAny c.M A (call (.ref 410) [a]) Q E s := by
  refine makesM (n := n + 1) (mu0 := []) (Post := fun x dx P' mu' => Ex1 fun y => y ≠ sysModules ∧ mu' = [(dx, IsDictO c.w [("parent", a), ("names", .ref y)]), (y, fun o => o.IsDictOf (intKind c.prog c.w) ([] : List (Int × Value)))]) c.fx.mk_Scope (fun x dx P' _ hx => init_Scope (n := n) hx) S hA ?_
  rintro x dx s' P' mu' hP S' hx ⟨y, hy, rfl⟩
  obtain ⟨o, ho, S2⟩ := S'.freeze
  exact h x y _ _ (hP.trans (View.le_add _ _ _)) hy ⟨dx, o, View.le_add _ _ _ _ _ hx, View.add_self _ _ _, ho⟩ S2
/-- what the scope's dict says when some words are bound -/
structure Bnd (c : Cx) (P : View) (T : Tab) (done : List Str) (kvs : List (Int × Value)) : Prop where
  a1 : ∀ (n : Nat) (t : Str) (a : Addr), T[n]? = some (t, a) → t ∈ done → Ex2 fun x fs => valueAt kvs (2 * (n : Int)) = some (.ref x) ∧ Inst c.w P x 284 fs
  a2 : ∀ (n : Nat) (t : Str) (a : Addr), T[n]? = some (t, a) → t ∉ done → valueAt kvs (2 * (n : Int)) = none
  a3 : ∀ n : Nat, T.length ≤ n → valueAt kvs (2 * (n : Int)) = none
  a4 : ∀ j : Int, valueAt kvs (2 * j + 1) = none
  a5 : ∀ k v, valueAt kvs k = some v → ∃ x, v = .ref x
  a6 : ∀ t ∈ done, ∃ a, (t, a) ∈ T
/-- the words bound, one after the other -/
theorem law_world_loop {env : Env} {A' : Around} {L' : Addr} {C' : View} {Qb : Flow → Shared → Prop} {Eb : Value → Shared → Prop} {bl : Addr} {bv : List Value} {u : Tok} {Post : View → Led → Value → Prop}
    (hE : EnvOk env f_law_world.scope L' []) (hA' : Room A' (n + 19)) (hb : IsLst P bl bv) (hr : RdAll P bv (bound.map .str)) (hU : ∀ t ∈ bound, t ∈ Univ) (nd : bound.Nodup) (hz : bound.length ≤ 100)
    (hw : P W.wx (instObj 641 W.wdx)) (WT0 : WT c P W T) (hT0 : ∃ a : Addr, T[0]? = some ((Str.ofString "quote"), a)) (Ir : Inst c.w P W.rx 410 [("parent", .none), ("names", .ref W.rn)]) (hrn : W.rn ≠ sysModules)
    (hrD : Ex1 fun o => P W.rn o ∧ o.IsDictOf (intKind c.prog c.w) [((0 : Int), Value.ref W.qs)]) (Iq : ∃ u, Inst c.w P W.qs 263 [("word", .str "quote" u)]) (Is : Inst c.w P W.sx 410 [("parent", .ref W.rx), ("names", .ref W.sn)]) (hsn : W.sn ≠ sysModules)
    (e1 : m (Str.ofString "bound") = some (.ref bl)) (e2 : m (Str.ofString "world") = some (.ref W.wx)) (e3 : m (Str.ofString "scope") = some (.ref W.sx))
    (S : St c P C' L' m ((W.sn, fun o => o.IsDictOf (intKind c.prog c.w) ([] : List (Int × Value))) :: (W.wdx, WdO c W 0 u) :: WTL c W T) s)
    (B : Back c P C' L' Post Qb) (hPost : ∀ {P' T last u t}, P.le P' → IsTp P' t [.ref W.wx, .ref W.sx] → WK c P' W T bound → Post P' (WL c W T last u) (.ref t)) :
    wpAny c.M A' (execs (f_law_world.body.drop 4) env) Qb Eb s := by
  dsimp only [f_law_world, fx_law_world, List.drop]
  repeat walk_at "z"
  refine wpAny_For ?_
  repeat walk_at "z"
  refine iterL S hb ?_
  intro it s4 hC W4 S4
  have hblen : bv.length = bound.length := by rw [hr.length, List.length_map]
  refine forS S4 hE (by decide +kernel) hA'.handled hC W4 (fun i P' m' mu' => m' (Str.ofString "world") = some (.ref W.wx) ∧ m' (Str.ofString "scope") = some (.ref W.sx) ∧ Ex4 fun T' last u' kvs => And5 (WT c P' W T') ((∃ a : Addr, T'[0]? = some ((Str.ofString "quote"), a))) (Bnd c P' T' (bound.take i) kvs) (kvs.length ≤ i) (mu' = (W.sn, fun o => o.IsDictOf (intKind c.prog c.w) kvs) :: (W.wdx, WdO c W last u') :: WTL c W T')) ?_ ?_ ?_
  · exact ⟨e2, e3, T, 0, u, [], WT0, hT0, ⟨(fun n t a _ h => by simp at h), fun n t a _ _ => rfl, fun n _ => rfl, fun j => rfl, (fun k v h => by cases h), (fun t h => by simp at h)⟩, Nat.zero_le _, rfl⟩
  · intro i v P' m' mu' s5 C5 E E2 hi hv hP hC5 hJ S5 hnext hret herr
    obtain ⟨e2, e3, T', last, u', kvs, WT', hT', hB, hkl, rfl⟩ := hJ
    obtain ⟨d, hd, hvd⟩ := hr.get hv
    rw [List.getElem?_map] at hd
    obtain ⟨w, hw2, rfl⟩ := Option.map_eq_some_iff.mp hd
    obtain ⟨t, rfl⟩ := hvd.strInv
    have hwU := hU w (List.mem_of_getElem? hw2)
    have hwn : w ∉ bound.take i := fun h => by
      obtain ⟨j, hj⟩ := List.mem_iff_getElem?.mp h
      rw [List.getElem?_take] at hj
      split at hj
      · have := nodup_idx nd hj hw2; lia
      · cases hj
    have Is' := Is.mono hP
    have hwx' := hP _ _ hw
    repeat walk_at "z"
    refine wpAny_Expr ?_ hE.inter (by rfl)
    repeat walk_at "z"
    refine methF (by walk_at "as") Is' c.fx.m_Scope_bind (by rfl) ?_
    refine cW2 c.fx.m_Scope_bind.keep ?_
    repeat walk_at "z"
    refine getFmu (swp S5) hwx' c.fx.a_Names_table (by walk_at "z fl") rfl (fun s7 S7 => ?_)
    refine methF S7 WT'.t c.fx.m_SymbolTable_symbol (by rfl) ?_
    refine cW1 c.fx.m_SymbolTable_symbol.keep ?_
    repeat walk_at "z"
    refine ⟨S7.K, ?_⟩
    refine cc (tbl_core (n := n + 10) w t WT' hwU) (rho := [_, _]) (S7.perm (List.perm_append_comm (l₁ := [_, _]) (l₂ := WTL c W T'))) (hA'.le (by walk_at "om")) ?_
    rintro v9 s9 P9 mu9 hP9 S9 ⟨T9, wa, hT9, WT9, rfl, rfl, hwa⟩
    have S10 := S9.perm (List.perm_append_comm (l₁ := WTL c W T9) (l₂ := [_, _]))
    clear S9 S7 S5
    have hwx9 := hP9 _ _ hwx'
    repeat walk_at "z"
    walk_at "z c2"
    repeat walk_at "z"
    refine methFmu S10 hwx9 c.fx.m_Names_fresh (by rfl) ?_
    refine cW0 S10.K c.fx.m_Names_fresh.keep ?_
    refine cc (fresh_core (n := n + 10) hwx9) (rho := _ :: WTL c W T9) S10 (hA'.le (by walk_at "om")) ?_
    rintro v11 s11 P11 mu11 hP11 S11 ⟨rfl, u11, rfl, rfl⟩
    repeat walk_at "z"
    refine ⟨St.K (by walk_at "as"), ?_⟩
    refine make_LocalName (n := n + 10) S11 (hA'.le (by walk_at "om")) (fun lx s12 P12 hP12 S12 I12 => ?_)
    refine ⟨S12.K, ?_⟩
    have k12 := hP9.trans hP12
    have WT12 := WT9.mono hP12
    obtain ⟨nn, hnn⟩ := List.mem_iff_getElem?.mp hwa
    refine cc (scope_bind (n := n + 10) (key := 2 * (nn : Int)) (kvs := kvs) (Is'.mono k12) ⟨wa, rfl, .inl ⟨nn, _, WT12.syms _ _ _ hnn, rfl⟩⟩ (by have := List.length_take_le i bound; lia)) (rho := _ :: WTL c W T9) (swp S12) (hA'.le (by walk_at "om")) ?_
    rintro v13 s13 P13 mu13 hP13 S13 ⟨rfl, rfl, rfl⟩
    walk_at "ds"
    repeat walk_at "z"
    walk_at "nil"
    have hpre : T' <+: T9 := by
      rcases hT9 with rfl | ⟨_, rfl⟩
      · exact List.prefix_refl _
      · exact List.prefix_append _ _
    have hT99 : ∀ (n : Nat) (t : Str) (a : Addr), T9[n]? = some (t, a) → T'[n]? = some (t, a) ∨ (T'.length ≤ n ∧ t = w) := by
      rcases hT9 with rfl | ⟨_, rfl⟩
      · exact fun n t a h => .inl h
      · exact fun n t a h => (old_tab n t a h).imp id fun h => ⟨Nat.le_of_eq h.1.symm, h.2.1⟩
    have none_w : ∀ (n : Nat) (a : Addr), T9[n]? = some (w, a) → valueAt kvs (2 * (n : Int)) = none := fun n a h => by
      rcases hT99 n w a h with h | ⟨h, _⟩
      · exact hB.a2 n w a h hwn
      · exact hB.a3 n h
    have hnone := none_w nn wa hnn
    have vs := fun k' => va_stored (v := .ref lx) (k' := k') hnone
    have key_eq : ∀ (n : Nat) (t : Str) (a : Addr), T9[n]? = some (t, a) → (t = w ↔ 2 * (n : Int) = 2 * (nn : Int)) := fun n t a h => by
      constructor
      · rintro rfl
        have h1 : (T9.map (·.1))[n]? = some t := by rw [List.getElem?_map, h]; rfl
        have h2 : (T9.map (·.1))[nn]? = some t := by rw [List.getElem?_map, hnn]; rfl
        rw [nodup_idx WT9.nd h1 h2]
      · intro e
        have : n = nn := by lia
        subst this
        rw [hnn] at h
        cases h; rfl
    refine hnext k12 ⟨by walk_at "z lk", by walk_at "z lk", T9, last + 1, u11, stored kvs (2 * (nn : Int)) (.ref lx), WT12, ?_, ?_, ?_, rfl⟩ S13
    · obtain ⟨a, ha⟩ := hT'
      obtain ⟨r, rfl⟩ := hpre
      exact ⟨a, by rw [List.getElem?_append_left (List.getElem?_eq_some_iff.mp ha).1]; exact ha⟩
    · have htk : bound.take (i + 1) = bound.take i ++ [w] := by rw [List.take_add_one, hw2]; rfl
      rw [htk]
      refine ⟨?_, ?_, ?_, ?_, ?_, ?_⟩
      · intro n t a h ht
        rw [vs]
        by_cases e : t = w
        · rw [if_pos ((key_eq n t a h).mp e)]
          exact ⟨lx, _, rfl, I12⟩
        · rw [if_neg fun q => e ((key_eq n t a h).mpr q)]
          have ht' : t ∈ bound.take i := by simpa [e] using ht
          rcases hT99 n t a h with h | ⟨_, h⟩
          · obtain ⟨x, fs, h1, h2⟩ := hB.a1 n t a h ht'
            exact ⟨x, fs, h1, h2.mono k12⟩
          · exact absurd h e
      · intro n t a h ht
        rw [vs]
        have e : t ≠ w := fun e => ht (by simp [e])
        rw [if_neg fun q => e ((key_eq n t a h).mpr q)]
        rcases hT99 n t a h with h | ⟨_, h⟩
        · exact hB.a2 n t a h (fun q => ht (List.mem_append_left _ q))
        · exact absurd h e
      · intro n hn
        have h1 : nn < T9.length := (List.getElem?_eq_some_iff.mp hnn).1
        rw [vs, if_neg (by lia)]
        refine hB.a3 n (Nat.le_trans ?_ hn)
        obtain ⟨r, rfl⟩ := hpre
        simp
      · intro j
        rw [vs, if_neg (by lia)]
        exact hB.a4 j
      · intro k v h
        rw [vs] at h
        split at h
        · cases h; exact ⟨lx, rfl⟩
        · exact hB.a5 k v h
      · intro t ht
        rcases List.mem_append.mp ht with ht | ht
        · obtain ⟨a, ha⟩ := hB.a6 t ht
          obtain ⟨r, rfl⟩ := hpre
          exact ⟨a, List.mem_append_left _ ha⟩
        · simp only [List.mem_singleton] at ht
          subst ht
          exact ⟨wa, hwa⟩
    · have := stored_length_le kvs (2 * (nn : Int)) (.ref lx); lia
  · intro P' m' mu' s5 hP hJ S5
    obtain ⟨e2, e3, T', last, u', kvs, WT', hT', hB, hkl, rfl⟩ := hJ
    rw [hblen, List.take_length] at hB
    obtain ⟨osn, hosn, S6⟩ := S5.freeze
    walk_at "ds"
    repeat walk_at "z"
    with_reducible refine newTup (by walk_at "as") (fun t7 s7 P7 hP7 ht7 S7 => ?_) (by simp)
    have k6 : P'.le (P'.add W.sn osn) := View.le_add _ _ _
    have k7 := k6.trans hP7
    have kk := hP.trans k7
    have WT7 := WT'.mono k7
    obtain ⟨ord, hord1, hord2⟩ := hrD
    obtain ⟨uq, Iq⟩ := Iq
    refine B.ret kk (S7.perm (List.perm_append_comm (l₁ := [_]) (l₂ := [_, _]))) (hPost (T := T') (last := last) (u := u') kk ht7 { w := kk _ _ hw, t := WT7.t, byt := WT7.byt, r := Ir.mono kk, rD := ⟨ord, kk _ _ hord1, hord2⟩, rS := hrn, q := ⟨uq, Iq.mono kk⟩, s := Is.mono kk, sS := hsn, sD := ?_, T0 := hT', nd := WT7.nd, syms := WT7.syms, bnd := hB.a6, fin := WT7.fin })
    exact ⟨kvs, osn, hP7 _ _ (View.add_self _ _ _), hosn, fun n t a h1 h2 => let ⟨x, fs, y, z⟩ := hB.a1 n t a h1 h2; ⟨x, fs, y, z.mono k7⟩, hB.a2, hB.a3, hB.a4, hB.a5⟩
theorem law_world {bl : Addr} {bv : List Value} (hb : IsLst P bl bv) (hr : RdAll P bv (bound.map .str)) (hU : ∀ t ∈ bound, t ∈ Univ) (nd : bound.Nodup) (hz : bound.length ≤ 100) :
    CallsC c (n + 20) 750 [.ref bl] P [] (fun P' mu' r => Ex5 fun W T last u t => And4 (r = .ref t) (IsTp P' t [.ref W.wx, .ref W.sx]) (WK c P' W T bound) (mu' = WL c W T last u)) := by
  refine intro c.fx.is_law_world [("bound", .ref bl)] (fun _ _ _ _ _ _ _ _ => BindsTo.of_eq rfl) (locs rfl) (by decide +kernel) ?_
  intro env A' L' C' s₁ Qb Eb hE hA' S' B
  dsimp only [f_law_world, fx_law_world, binds0] at *
  repeat walk_at "z"
  refine cF (by walk_at "as") (by walk_at "as") (by decide +kernel) (by walk_at "z gl") ?_
  refine cW0 S'.K (GlobOk.keep (by walk_at "z gl")) ?_
  refine makesM (n := n + 10) (mu0 := []) (Post := fun wx wdx P' mu' => Ex6 fun tx u v1 v2 r y => And3 (y ≠ sysModules) (Inst c.w P' tx 125 [("rows", .ref r), ("by_text", .ref y)]) (mu' = [(wdx, IsDictO c.w [("table", .ref tx), ("last", .int 0 u), ("titles", v1), ("ops", v2), ("root", .none)]), (y, DctO c), (r, LstO [])])) c.fx.mk_Names (fun x dx P' _ hx => init_Names (n := n + 7) hx) S' (hA'.le (by walk_at "om")) ?_
  rintro wx wdx s2 P2 mu2 hP2 S2 hwx ⟨tx, u, v1, v2, rows, byt, hbyt, It, rfl⟩
  repeat walk_at "z"
  walk_at "z c1"
  repeat walk_at "z"
  refine ⟨St.K (by walk_at "as"), ?_⟩
  refine make_Scope (n := n + 10) (by walk_at "as") (hA'.le (by walk_at "om")) (fun rx rn s3 P3 hP3 hrn Ir S3 => ?_)
  have hwx3 := hP3 _ _ hwx
  have It3 := It.mono hP3
  have S4 := swp S3
  clear S3
  repeat walk_at "z"
  refine wpAny_Expr ?_ hE.inter (by rfl)
  rename_i s5 S5
  obtain ⟨u5, S5⟩ : ∃ u5, St c P3 C' L' _ ([(wdx, IsDictO c.w [("table", .ref tx), ("last", .int 0 u5), ("titles", v1), ("ops", v2), ("root", .ref rx)])] ++ _) s5 := ⟨_, S5⟩
  repeat walk_at "z"
  refine getFmu S5 hwx3 c.fx.a_Names_root (by walk_at "z fl") rfl (fun s6 S6 => ?_)
  refine methF (by walk_at "as") Ir c.fx.m_Scope_bind (by rfl) ?_
  refine cW2 c.fx.m_Scope_bind.keep ?_
  repeat walk_at "z"
  refine getFmu S6 hwx3 c.fx.a_Names_table (by walk_at "z fl") rfl (fun s7 S7 => ?_)
  refine methF S7 It3 c.fx.m_SymbolTable_symbol (by rfl) ?_
  refine cW1 c.fx.m_SymbolTable_symbol.keep ?_
  repeat walk_at "z"
  refine ⟨St.K (by walk_at "as"), ?_⟩
  have T0 : WT c P3 ⟨wx, wdx, tx, rows, byt, rx, rn, 0, 0, 0, v1, v2⟩ [] := ⟨It3, hbyt, List.nodup_nil, fun n t a h => by simp at h, fun p h => by simp at h⟩
  refine cc (tbl_core (n := n + 10) "quote" _ T0 (by decide +kernel)) (rho := [(wdx, _), (rn, _)]) (St.perm (by walk_at "as") (List.perm_append_comm (l₁ := [_, _]) (l₂ := [_, _]))) (hA'.le (by walk_at "om")) ?_
  rintro v9 s9 P9 mu9 hP9 S9 ⟨T9, qa, hT9, WT9, rfl, rfl, hqa⟩
  have hT9 : T9 = [(Str.ofString "quote", qa)] := by
    rcases hT9 with rfl | ⟨_, rfl⟩
    · cases hqa
    · rfl
  subst hT9
  repeat walk_at "z"
  walk_at "z c1"
  repeat walk_at "z"
  refine ⟨St.K (by walk_at "as"), ?_⟩
  refine make_SpecialS (n := n + 10) (by walk_at "as") (hA'.le (by walk_at "om")) (fun qs s10 P10 hP10 S10 I10 => ?_)
  refine ⟨S10.K, ?_⟩
  have WT10 := WT9.mono hP10
  have Ir10 := Ir.mono (hP9.trans hP10)
  obtain ⟨kq, uq, Iq⟩ := WT10.syms 0 "quote" qa rfl
  unfold WTL at S10
  refine cc (scope_bind (n := n + 10) (key := 2 * ((0 : Nat) : Int)) (kvs := []) Ir10 ⟨qa, rfl, .inl ⟨0, _, ⟨kq, uq, Iq⟩, rfl⟩⟩ (by simp)) (rho := [_, _, _]) (S10.perm (List.perm_append_comm (l₁ := [_, _, _]) (l₂ := [_]))) (hA'.le (by walk_at "om")) ?_
  rintro v11 s11 P11 mu11 hP11 S11 ⟨rfl, rfl, rfl⟩
  obtain ⟨orn, horn, S12⟩ := S11.freeze
  walk_at "ds"
  have S13 := S12.perm (List.perm_append_comm (l₁ := [_, _]) (l₂ := [_]))
  clear S12 S11 S10
  have hP13 := hP9.trans (hP10.trans (View.le_add P11 rn orn))
  have hwx13 := hP13 _ _ hwx3
  repeat walk_at "z"
  walk_at "z c1"
  repeat walk_at "z"
  refine getFmu (by walk_at "as") hwx13 c.fx.a_Names_root (by walk_at "z fl") rfl (fun s14 S14 => ?_)
  refine ⟨S14.K, ?_⟩
  refine make_Scope (n := n + 10) S14 (hA'.le (by walk_at "om")) (fun sx sn s15 P15 hP15 hsn Is S15 => ?_)
  have hrn15 : Ex1 fun o => P15 rn o ∧ o.IsDictOf (intKind c.prog c.w) [((0 : Int), Value.ref qs)] := ⟨orn, hP15 _ _ (View.add_self _ _ _), horn⟩
  have WT15 := WT10.mono ((View.le_add P11 rn orn).trans hP15)
  have hP3_15 := hP13.trans hP15
  walk_at "z"
  rename_i sq Sq
  exact law_world_loop (n := n) (W := ⟨wx, wdx, tx, rows, byt, rx, rn, qs, sx, sn, v1, v2⟩) (T := [(Str.ofString "quote", qa)]) (u := u5) hE hA' (hb.mono (hP2.trans (hP3.trans hP3_15))) (hr.mono (hP2.trans (hP3.trans hP3_15))) hU nd hz (hP3_15 _ _ hwx3)
    ⟨WT15.t, WT15.byt, WT15.nd, WT15.syms, WT15.fin⟩ ⟨qa, rfl⟩ (Ir10.mono ((View.le_add P11 rn orn).trans hP15)) hrn hrn15 ⟨_, I10.mono ((View.le_add P11 rn orn).trans hP15)⟩ Is hsn (by walk_at "z lk") (by walk_at "z lk") (by walk_at "z lk") Sq
    (B.mono (hP2.trans (hP3.trans hP3_15))) (fun {P' T last u t} hP ht hW => ⟨_, T, last, u, t, rfl, ht, hW, rfl⟩)
end
end TE13
section TE14
-- turned
inductive Job where
  | take (t : Thing)
  | list (n : Nat)
  | vec (n : Nat)
inductive JobV (w : World) (P : View) (T : Tab) : Value → Job → Prop
  | take {a u d t} : IsTp P a [.str (Str.ofString "take") u, d] → DV w P T d t → JobV w P T (.ref a) (.take t)
  | list {a u n k} : IsTp P a [.str (Str.ofString "list") u, .int (n : Nat) k] → JobV w P T (.ref a) (.list n)
  | vec {a u n k} : IsTp P a [.str (Str.ofString "vector") u, .int (n : Nat) k] → JobV w P T (.ref a) (.vec n)
/-- the jobs, the topmost first -/
inductive JobsV (w : World) (P : View) (T : Tab) : List Value → List Job → Prop
  | nil : JobsV w P T [] []
  | cons {v j vs js} : JobV w P T v j → JobsV w P T vs js → JobsV w P T (v :: vs) (j :: js)
theorem JobsV.mono {w : World} {P P' : View} {T : Tab} (k : P.le P') {vs : List Value} {js : List Job} (h : JobsV w P T vs js) : JobsV w P' T vs js := by
  induction h with
  | nil => exact .nil
  | cons a _ ih =>
    refine .cons ?_ ih
    cases a with
    | take a b => exact .take (a.mono k) (b.mono k (List.prefix_refl _))
    | list a => exact .list (a.mono k)
    | vec a => exact .vec (a.mono k)
noncomputable def run : List Job → Nat → Option Nat
  | [], h => some h
  | .take _ :: r, h => run r (h + 1)
  | .list n :: r, h => if n + 1 ≤ h then run r (h - n) else none
  | .vec n :: r, h => if n ≤ h then run r (h - n + 1) else none
noncomputable def jsz : List Job → Nat
  | [] => 0
  | .take t :: r => 3 * sz t + jsz r
  | .list _ :: r => 1 + jsz r
  | .vec _ :: r => 1 + jsz r
theorem JobsV.len {w : World} {P : View} {T : Tab} {vs : List Value} {js : List Job} (h : JobsV w P T vs js) : vs.length ≤ jsz js := by
  induction h with
  | nil => exact Nat.le_refl _
  | @cons v j vs js a _ ih =>
    rw [List.length_cons]
    cases j with
    | take t => have := sz_pos t; simp only [jsz]; lia
    | list => simp only [jsz]; lia
    | vec => simp only [jsz]; lia
theorem run_takes : ∀ (ts : List Thing) (r : List Job) (h : Nat), run (ts.map .take ++ r) h = run r (h + ts.length)
  | [], r, h => rfl
  | t :: ts, r, h => by
    simp only [List.map_cons, List.cons_append, run, run_takes ts r, List.length_cons]
    congr 1; lia
theorem jsz_takes : ∀ (ts : List Thing) (r : List Job), jsz (ts.map .take ++ r) + 3 * ts.length + 3 = jsz r + 3 * szs ts
  | [], r => by simp [szs]
  | t :: ts, r => by
    have := jsz_takes ts r
    simp only [List.map_cons, List.cons_append, jsz, szs, List.length_cons]
    lia
/-- a datum's row -/
theorem DV.spine {w : World} {P : View} {T : Tab} {t : Thing} {v : Value} (h : DV w P T v t) : Ex4 fun vs ts e te => And5 (RowV w P v vs e) (DVs w P T vs ts) (DV w P T e te) (NoPair w P e) (t = row ts te) :=
  DV.rec (motive_1 := fun v t _ => Ex4 fun vs ts e te => And5 (RowV w P v vs e) (DVs w P T vs ts) (DV w P T e te) (NoPair w P e) (t = row ts te)) (motive_2 := fun _ _ _ => True)
    (fun _ _ => ⟨[], [], _, _, .nil _, .nil, .int _ _, .inl ⟨_, _, rfl⟩, rfl⟩)
    (fun hT hI => ⟨[], [], _, _, .nil _, .nil, .sym hT hI, .inr (.inr (.inl (let ⟨_, _, I⟩ := hI; ⟨_, _, rfl, I⟩))), rfl⟩)
    ⟨[], [], _, _, .nil _, .nil, .nil, .inr (.inl rfl), rfl⟩
    (fun I hl hr _ => ⟨[], [], _, _, .nil _, .nil, .vec I hl hr, .inr (.inr (.inr ⟨_, _, rfl, I⟩)), rfl⟩)
    (fun I hx _ _ ⟨vs, ts, e, te, h1, h2, h3, h4, h5⟩ => ⟨_ :: vs, _ :: ts, e, te, .cons I h1, .cons hx h2, h3, h4, congrArg _ h5⟩)
    trivial (fun _ _ _ _ => trivial) h
theorem DVs.hi {w : World} {P : View} {T : Tab} {vs : List Value} {ts : List Thing} (h : DVs w P T vs ts) : ∀ x ∈ vs, handedIn x = true :=
  DVs.ind (motive := fun vs ts => ∀ x ∈ vs, handedIn x = true) (fun _ h => nomatch h) (fun a _ e x h => by
    rcases List.mem_cons.mp h with rfl | h
    · exact a.hi
    · exact e x h) h
section
variable {c : Cx} {P C : View} {L x dx tp : Addr} {m : Loc} {mu rho : Led} {s : Shared} {A : Around} {a b d : Value} {n : Nat} {W : Wld} {T : Tab} {bound : List Str}
theorem drop_step {α : Type} {vs : List α} {i : Nat} {x : α} (hi : i < vs.length) (hx : vs[vs.length - 1 - i]? = some x) : vs.drop (vs.length - (i + 1)) = x :: vs.drop (vs.length - i) := by
  have h1 : vs.length - (i + 1) < vs.length := by omega
  rw [List.drop_eq_getElem_cons h1]
  have h2 : vs.length - (i + 1) + 1 = vs.length - i := by omega
  rw [h2]
  congr 1
  have h3 : vs.length - (i + 1) = vs.length - 1 - i := by lia
  rw [List.getElem?_eq_getElem (by lia)] at hx
  cases hx
  congr 1
theorem strip_take_ {v : Value} {t : Thing} {ja da : Addr} {tvs dv : List Value} {js : List Job} (hd : DV c.w P T v t) (hz : sz t ≤ 300) (hj : JobsV c.w P T tvs js) (hjz : jsz js ≤ 1000) (hdz : dv.length ≤ 3000) :
    CallsC c (n + 2) 442 [v, .ref ja, .ref da] P [(ja, LstO tvs.reverse), (da, LstO dv)] (fun P' mu' r => Ex3 fun tvs' js' dv' => And6 (mu' = [(ja, LstO tvs'.reverse), (da, LstO dv')]) (JobsV c.w P' T tvs' js') (run js' dv'.length = run js (dv.length + 1)) (jsz js' < jsz js + 3 * sz t) (jsz js' + dv'.length ≤ jsz js + 3 * sz t + dv.length) (r = .none)) := by
  refine intro c.fx.is_strip_take [("datum", v), ("jobs", .ref ja), ("done", .ref da)] (fun _ _ _ _ _ _ _ _ => BindsTo.of_eq rfl) (locs rfl) (by decide +kernel) ?_
  intro env A' L' C' s₁ Qb Eb hE hA' S' B
  dsimp only [f_strip_take, fx_strip_take, binds0] at *
  have htp := sz_pos t
  have shape : ∀ {e : Value} {te : Thing} {s2 : Shared} {P2 : View} {Q E : Value → Shared → Prop}, DV c.w P2 T e te → Q (.bool false) s2 → wpAny c.M A' (compareOp .Is e .none) Q E s2 := by
    intro e te s2 P2 Q E he h
    rcases he.shape with ⟨i, u, rfl⟩ | ⟨a, rfl⟩
    · exact isNoneI h
    · exact isNoneR h
  rcases hd.vecOr with ⟨a, l, vs, ts, rfl, rfl, I, hl, hr⟩ | ⟨nV, hnv⟩
  · have hlen := hr.length
    have hsl := szs_len ts
    have hszv : sz (.vec ts) = 1 + szs ts := by simp only [sz]
    repeat walk_at "z"
    refine stAppend hE ?_
    walk_at "z"
    refine ⟨ja, rfl, ?_, ?_⟩
    · obtain ⟨n', hn'⟩ := St.lstO (a := ja) (xs := tvs.reverse) (by walk_at "as") (.head _)
      exact ⟨_, n', hn'⟩
    repeat walk_at "z"
    refine cB1 (by walk_at "as") hE (by decide +kernel) c.fx.b_len boot_len ?_
    repeat walk_at "z"
    refine lenL (by walk_at "as") (St.lstP (by walk_at "as") hl) (by lia) (fun t2 s2 S2 => ?_)
    with_reducible refine newTup S2 (fun t3 s3 P3 hP3 ht3 S3 => ?_) (by simp)
    refine ⟨_, _, _, _, _, tvs.reverse, by have := hj.len; simp; lia, S3, fun s7 S7 => ?_⟩
    walk_at "ds"
    rw [show tvs.reverse ++ [Value.ref t3] = (Value.ref t3 :: tvs).reverse by simp] at S7
    have hj3 : JobsV c.w P3 T (.ref t3 :: tvs) (.vec vs.length :: js) := .cons (.vec ht3) (hj.mono hP3)
    replace I := I.mono hP3
    have hl3 := hl.mono hP3
    have hr3 := hr.mono hP3 (List.prefix_refl _)
    repeat walk_at "z"
    refine wpAny_For ?_
    refine cRange (by walk_at "as") hE (by decide +kernel) ?_
    refine tW3 ?_
    repeat walk_at "z"
    refine cB1 (by walk_at "as") hE (by decide +kernel) c.fx.b_len boot_len ?_
    repeat walk_at "z"
    refine lenL (by walk_at "as") (St.lstP (by walk_at "as") hl3) (by lia) (fun t8 s8 S8 => ?_)
    repeat walk_at "z"
    refine rangeD (by lia) (by omega) (by walk_at "as") (fun r s9 S9 => ?_)
    refine iterR (n := vs.length) S9 (View.add_self _ _ _) ?_ ?_ ?_
    · exact small_down (by lia) (by omega)
    · exact size_down _
    intro it s4 hC W4 S4
    refine forS S4 hE (by decide +kernel) hA'.handled hC W4 (fun i P' m' mu' => m' (Str.ofString "datum") = some (.ref a) ∧ m' (Str.ofString "jobs") = some (.ref ja) ∧
      Ex1 fun tks => And3 (tks.length = i) (JobsV c.w P' T (tks ++ .ref t3 :: tvs) ((ts.drop (vs.length - i)).map .take ++ .vec vs.length :: js)) (mu' = [(ja, LstO (tks ++ .ref t3 :: tvs).reverse), (da, LstO dv)])) ?_ ?_ ?_
    · exact ⟨by walk_at "z lk", by walk_at "z lk", [], rfl, by rw [show ts.drop (vs.length - 0) = [] by rw [Nat.sub_zero, hlen, List.drop_length]]; exact hj3.mono (View.le_add _ _ _), rfl⟩
    · intro i v P' m' mu' s5 C5 E E2 hi hv hP hC5 hJ S5 hnext hret herr
      obtain ⟨e1, e2, tks, htk, hjs, rfl⟩ := hJ
      obtain ⟨t5, rfl⟩ := hv
      have kk := (View.le_add P3 r _).trans hP
      have hl5 := hl3.mono kk
      have I5 := I.mono kk
      have hidx : ((vs.length : Int) - 1 + (i : Int) * -1) = ((vs.length - 1 - i : Nat) : Int) := by omega
      obtain ⟨x5, hx5⟩ : ∃ x, vs[vs.length - 1 - i]? = some x := ⟨_, List.getElem?_eq_getElem (by omega)⟩
      obtain ⟨tx5, htx5, hdx5⟩ := hr3.get hx5
      rw [hlen] at htx5 hi
      have hds := drop_step hi htx5
      repeat walk_at "z"
      refine stAppend hE ?_
      walk_at "z"
      refine ⟨ja, rfl, ?_, ?_⟩
      · obtain ⟨n', hn'⟩ := St.lstO (a := ja) (xs := (tks ++ .ref t3 :: tvs).reverse) (by walk_at "as") (.head _)
        exact ⟨_, n', hn'⟩
      repeat walk_at "z"
      refine subL (x := x5) (St.lstP (by walk_at "as") hl5) (by lia) (by lia) (by rw [hidx]; exact hx5) ?_
      with_reducible refine newTup (by walk_at "as") (fun t6 s6 P6 hP6 ht6 S6 => ?_) (by simp)
      refine ⟨_, _, _, _, _, (tks ++ .ref t3 :: tvs).reverse, by have := hj.len; simp; lia, S6, fun s7 S7 => ?_⟩
      walk_at "ds"
      rw [show (tks ++ .ref t3 :: tvs).reverse ++ [Value.ref t6] = ((Value.ref t6 :: tks) ++ .ref t3 :: tvs).reverse by simp] at S7
      repeat walk_at "z"
      walk_at "nil"
      refine hnext hP6 ⟨by walk_at "z lk", by walk_at "z lk", .ref t6 :: tks, by simp [htk], ?_, rfl⟩ S7
      rw [hlen, hds]
      rw [hlen] at hjs
      exact .cons (.take ht6 (hdx5.mono (kk.trans hP6) (List.prefix_refl _))) (hjs.mono hP6)
    · intro P' m' mu' s5 hP hJ S5
      obtain ⟨e1, e2, tks, htk, hjs, rfl⟩ := hJ
      rw [Nat.sub_self, List.drop_zero] at hjs
      have h1 := jsz_takes ts (.vec vs.length :: js)
      simp only [jsz] at h1
      walk_at "ds"
      repeat (first | walk_at "z" | (with_reducible refine wpAny_execs_nil ?_; walk_at "ds"))
      refine B.nxt (hP3.trans ((View.le_add P3 r _).trans hP)) S5 ⟨_, _, dv, rfl, hjs, ?_, by omega, by lia, rfl⟩
      rw [run_takes]
      simp only [run]
      rw [if_pos (by lia)]
      congr 1; lia
  rcases hd.pairOr with ⟨a, x, y, tx1, ty1, rfl, rfl, I, hx, hy⟩ | ⟨nP, hnp⟩
  rotate_left
  · have nA := hd.notAlias
    repeat walk_at "z"
    refine stAppend hE ?_
    walk_at "z"
    refine ⟨da, rfl, ?_, ?_⟩
    · obtain ⟨n', hn'⟩ := St.lstO (a := da) (xs := dv) (by walk_at "as") (.tail _ (.head _))
      exact ⟨_, n', hn'⟩
    repeat walk_at "z"
    refine ⟨_, _, _, _, _, dv, by lia, swp (by walk_at "as"), fun s7 S7 => ?_⟩
    walk_at "ds"
    repeat (first | walk_at "z" | (with_reducible refine wpAny_execs_nil ?_; walk_at "ds"))
    exact B.nxt (View.le.refl _) (swp S7) ⟨tvs, js, dv ++ [_], rfl, hj, by simp, by lia, by simp; lia, rfl⟩
  obtain ⟨vs, ts, e, te, hrow, hds0, hde, hnp, hrw⟩ := DV.spine (.pair I hx hy)
  have hlen := hds0.length
  have hsl := szs_len ts
  have hsp := sz_row ts te
  rw [← hrw] at hsp
  have htep := sz_pos te
  have hts1 : 1 ≤ ts.length := by
    cases hrow with
    | nil => exact (hnp.not (St.fn S') (St.empty S') I).elim
    | cons _ _ => rw [List.length_cons] at hlen; lia
  repeat walk_at "z"
  refine unpack2 hE hA'.handled (by decide +kernel) (by decide +kernel) ?_
  walk_at "z c1"
  repeat walk_at "z"
  refine ⟨St.K (by walk_at "as"), ?_⟩
  refine cc0 (split_list_ (n := n) hrow hnp hds0.hi (by lia)) (rho := [_, _]) (by walk_at "as") (hA'.le (by walk_at "om")) ?_
  rintro v2 s2 P2 hP2 S2 ⟨t2, l, rfl, ht2, hl⟩
  refine ⟨_, _, _, _, t2, _, _, rfl, ht2, S2, fun s3 S3 => ?_⟩
  walk_at "ds"
  repeat walk_at "z"
  refine shape hde ?_
  repeat walk_at "z"
  walk_at "nil"
  repeat walk_at "z"
  refine stAppend hE ?_
  walk_at "z"
  refine ⟨ja, rfl, ?_, ?_⟩
  · obtain ⟨n', hn'⟩ := St.lstO (a := ja) (xs := tvs.reverse) (by walk_at "as") (.head _)
    exact ⟨_, n', hn'⟩
  repeat walk_at "z"
  refine cB1 (by walk_at "as") hE (by decide +kernel) c.fx.b_len boot_len ?_
  repeat walk_at "z"
  refine lenL (by walk_at "as") (St.lstP (by walk_at "as") hl) (by omega) (fun t4 s4 S4 => ?_)
  with_reducible refine newTup S4 (fun t5 s5 P5 hP5 ht5 S5 => ?_) (by simp)
  refine ⟨_, _, _, _, _, tvs.reverse, by have := hj.len; simp; lia, S5, fun s7 S7 => ?_⟩
  walk_at "ds"
  rw [show tvs.reverse ++ [Value.ref t5] = (Value.ref t5 :: tvs).reverse by simp] at S7
  repeat walk_at "z"
  refine stAppend hE ?_
  walk_at "z"
  refine ⟨ja, rfl, ?_, ?_⟩
  · obtain ⟨n', hn'⟩ := St.lstO (a := ja) (xs := (Value.ref t5 :: tvs).reverse) (by walk_at "as") (.head _)
    exact ⟨_, n', hn'⟩
  repeat walk_at "z"
  with_reducible refine newTup (by walk_at "as") (fun t6 s6 P6 hP6 ht6 S6 => ?_) (by simp)
  refine ⟨_, _, _, _, _, (Value.ref t5 :: tvs).reverse, by have := hj.len; simp; lia, S6, fun s7 S7 => ?_⟩
  walk_at "ds"
  rw [show (Value.ref t5 :: tvs).reverse ++ [Value.ref t6] = (Value.ref t6 :: Value.ref t5 :: tvs).reverse by simp] at S7
  have k26 := hP5.trans hP6
  have k6 := hP2.trans k26
  have hj3 : JobsV c.w P6 T (.ref t6 :: .ref t5 :: tvs) (.take te :: .list vs.length :: js) := .cons (.take ht6 (hde.mono k6 (List.prefix_refl _))) (.cons (.list (ht5.mono hP6)) (hj.mono k6))
  have hl3 := hl.mono k26
  have hr3 := hds0.mono k6 (List.prefix_refl _)
  repeat walk_at "z"
  refine wpAny_For ?_
  refine cRange (by walk_at "as") hE (by decide +kernel) ?_
  refine tW3 ?_
  repeat walk_at "z"
  refine cB1 (by walk_at "as") hE (by decide +kernel) c.fx.b_len boot_len ?_
  repeat walk_at "z"
  refine lenL (by walk_at "as") (St.lstP (by walk_at "as") hl3) (by omega) (fun t8 s8 S8 => ?_)
  repeat walk_at "z"
  refine rangeD (by lia) (by omega) (by walk_at "as") (fun r s9 S9 => ?_)
  refine iterR (n := vs.length) S9 (View.add_self _ _ _) ?_ ?_ ?_
  · exact small_down (by lia) (by omega)
  · exact size_down _
  intro it s4 hC W4 S4
  refine forS S4 hE (by decide +kernel) hA'.handled hC W4 (fun i P' m' mu' => m' (Str.ofString "items") = some (.ref l) ∧ m' (Str.ofString "jobs") = some (.ref ja) ∧
    Ex1 fun tks => And3 (tks.length = i) (JobsV c.w P' T (tks ++ .ref t6 :: .ref t5 :: tvs) ((ts.drop (vs.length - i)).map .take ++ .take te :: .list vs.length :: js)) (mu' = [(ja, LstO (tks ++ .ref t6 :: .ref t5 :: tvs).reverse), (da, LstO dv)])) ?_ ?_ ?_
  · exact ⟨by walk_at "z lk", by walk_at "z lk", [], rfl, by rw [show ts.drop (vs.length - 0) = [] by rw [Nat.sub_zero, hlen, List.drop_length]]; exact hj3.mono (View.le_add _ _ _), rfl⟩
  · intro i v P' m' mu' s5 C5 E E2 hi hv hP hC5 hJ S5 hnext hret herr
    obtain ⟨e1, e2, tks, htk, hjs, rfl⟩ := hJ
    obtain ⟨t5', rfl⟩ := hv
    have kk := (View.le_add P6 r _).trans hP
    have hl5 := hl3.mono kk
    have hidx : ((vs.length : Int) - 1 + (i : Int) * -1) = ((vs.length - 1 - i : Nat) : Int) := by lia
    obtain ⟨x5, hx5⟩ : ∃ x, vs[vs.length - 1 - i]? = some x := ⟨_, List.getElem?_eq_getElem (by omega)⟩
    obtain ⟨tx5, htx5, hdx5⟩ := hr3.get hx5
    rw [hlen] at htx5 hi
    have hds := drop_step hi htx5
    repeat walk_at "z"
    refine stAppend hE ?_
    walk_at "z"
    refine ⟨ja, rfl, ?_, ?_⟩
    · obtain ⟨n', hn'⟩ := St.lstO (a := ja) (xs := (tks ++ .ref t6 :: .ref t5 :: tvs).reverse) (by walk_at "as") (.head _)
      exact ⟨_, n', hn'⟩
    repeat walk_at "z"
    refine subL (x := x5) (St.lstP (by walk_at "as") hl5) (by lia) (by lia) (by rw [hidx]; exact hx5) ?_
    with_reducible refine newTup (by walk_at "as") (fun t9 s9 P9 hP9 ht9 S9 => ?_) (by simp)
    refine ⟨_, _, _, _, _, (tks ++ .ref t6 :: .ref t5 :: tvs).reverse, by have := hj.len; simp; lia, S9, fun s7 S7 => ?_⟩
    walk_at "ds"
    rw [show (tks ++ .ref t6 :: .ref t5 :: tvs).reverse ++ [Value.ref t9] = ((Value.ref t9 :: tks) ++ .ref t6 :: .ref t5 :: tvs).reverse by simp] at S7
    repeat walk_at "z"
    walk_at "nil"
    refine hnext hP9 ⟨by walk_at "z lk", by walk_at "z lk", .ref t9 :: tks, by simp [htk], ?_, rfl⟩ S7
    rw [hlen, hds]
    rw [hlen] at hjs
    exact .cons (.take ht9 (hdx5.mono (kk.trans hP9) (List.prefix_refl _))) (hjs.mono hP9)
  · intro P' m' mu' s5 hP hJ S5
    obtain ⟨e1, e2, tks, htk, hjs, rfl⟩ := hJ
    rw [Nat.sub_self, List.drop_zero] at hjs
    have h1 := jsz_takes ts (.take te :: .list vs.length :: js)
    simp only [jsz] at h1
    walk_at "ds"
    repeat (first | walk_at "z" | (with_reducible refine wpAny_execs_nil ?_; walk_at "ds"))
    refine B.nxt (k6.trans ((View.le_add P6 r _).trans hP)) S5 ⟨_, _, dv, rfl, hjs, ?_, by omega, by lia, rfl⟩
    rw [run_takes]
    simp only [run]
    rw [if_pos (by lia)]
    congr 1; lia
end
end TE14
section TE15
-- turned
section
variable {c : Cx} {P C : View} {L x dx tp : Addr} {m : Loc} {mu rho : Led} {s : Shared} {A : Around} {a b d : Value} {n : Nat} {W : Wld} {T : Tab} {bound : List Str}
theorem subLneg {xs : List Value} {value slice : PySem.Expr} {l : Addr} {t : Tok} {x : Value} {Q E : Value → Shared → Prop} (hl : s.heap.IsList l xs.toArray) (h0 : 0 < xs.length) (hx : xs[xs.length - 1]? = some x) (h : Q x s)
    (hs : subscripted slice false (.ref l) (.int (-1) t) = operate [.ref l, .int (-1) t] (getItem (.ref l) (.int (-1) t)) := by with_unfolding_all rfl) :
    wpAny c.M A (subscriptTail value slice (.ref l) (.int (-1) t)) Q E s :=
  subscriptTail_any (Heap.IsList.typeIs hl) list_getitem_lookup (wpAny_getItem_list_neg hl (by decide) (by simp; lia) (by decide) (by
    have : ((-1 : Int) + (xs.toArray.size : Int)).toNat = xs.length - 1 := by simp; lia
    rw [this]; simpa using hx) h) hs
theorem strip_ {v : Value} {t : Thing} (hd : DV c.w P T v t) (hz : sz t ≤ 250) : CallsC c (n + 6) 449 [v] P [] (fun P' mu' r => mu' = []) := by
  refine intro c.fx.is_strip [("datum", v)] (fun _ _ _ _ _ _ _ _ => BindsTo.of_eq rfl) (locs rfl) (by decide +kernel) ?_
  intro env A' L' C' s₁ Qb Eb hE hA' S' B
  dsimp only [f_strip, fx_strip, binds0] at *
  repeat walk_at "z"
  with_reducible refine newTup (by walk_at "as") (fun t2 s2 P2 hP2 ht2 S2 => ?_) (by simp)
  with_reducible refine newLst S2 (fun ja s3 _ S3 => ?_) (by simp)
  repeat walk_at "z"
  with_reducible refine newLst (by walk_at "as") (fun d0 s4 _ S4 => ?_) (by simp)
  have S5 := swp S4
  clear S4
  walk_at "z"
  repeat walk_at "z"
  rename_i sW SW
  refine whileS (fun k s => Ex6 fun P5 tvs js dn dv m' => And8 (jsz js = k) (P.le P5) (JobsV c.w P5 T tvs js) (run js dv.length = some 1) (jsz js + dv.length ≤ 800) (m' (Str.ofString "jobs") = some (.ref ja)) (m' (Str.ofString "done") = some (.ref dn)) (St c P5 C' L' m' [(ja, LstO tvs.reverse), (dn, LstO dv)] s)) ?_ (jsz [.take t])
    ⟨P2, [.ref t2], [.take t], d0, [], _, rfl, hP2, .cons (.take ht2 (hd.mono hP2 (List.prefix_refl _))) .nil, rfl, by simp [jsz]; lia, by walk_at "z lk", by walk_at "z lk", SW⟩
  rintro K E2 k s5 ⟨P5, tvs, js, dn, dv, m5, hk, hP5, hjs, hrun, hlen, e1, e2, S5⟩ hnx hrt
  have htl := hjs.len
  repeat walk_at "z"
  refine cB1 (by walk_at "as") hE (by decide +kernel) c.fx.b_len boot_len ?_
  repeat walk_at "z"
  refine lenL (xs := tvs.reverse) (by walk_at "as") (St.lst (by walk_at "as") (.head _)) (by simp; lia) (fun t8 s8 S8 => ?_)
  repeat walk_at "z"
  refine gtI ?_
  cases hjs with
  | nil =>
    first | with_reducible refine boF (decide_eq_false (by simp)) ?_ | with_reducible refine bnF (decide_eq_false (by simp)) ?_ | rw [decide_eq_false (by simp)]
    repeat walk_at "z"
    walk_at "nil"
    repeat walk_at "z"
    simp only [run, Option.some.injEq] at hrun
    obtain ⟨y, hy⟩ : ∃ y, dv[0]? = some y := ⟨_, List.getElem?_eq_getElem (by lia)⟩
    refine subL (x := y) (St.lst (by walk_at "as") (.tail _ (.head _))) (by decide) (by decide) hy ?_
    exact B.ret hP5 (St.drop (St.drop (by walk_at "as"))) rfl
  | @cons jv j tvs js hj hjs =>
    first | with_reducible refine boT (decide_eq_true (by simp)) ?_ | with_reducible refine bnT (decide_eq_true (by simp)) ?_ | rw [decide_eq_true (by simp)]
    repeat walk_at "z"
    refine unpack2 hE hA'.handled (by decide +kernel) (by decide +kernel) ?_
    repeat walk_at "z"
    rw [List.reverse_cons] at S8
    refine methL (St.lstO (xs := tvs.reverse ++ [jv]) (by walk_at "as") (.head _)) PySem.F.slot_list_pop PySem.F.type_list_pop ?_
    refine bW0 ?_
    refine popLast (by walk_at "as") (fun s11 S11 => ?_) (by simp; rw [List.length_cons] at htl; lia)
    cases hj with
    | @take a2 u2 d2 t2 ht hd2 =>
      refine ⟨_, _, _, _, a2, _, _, rfl, ht, S11, fun s12 S12 => ?_⟩
      walk_at "ds"
      simp only [jsz] at hk hlen
      repeat walk_at "z"
      refine wpAny_Expr ?_ hE.inter (by with_unfolding_all rfl)
      walk_at "z c3"
      repeat walk_at "z"
      refine ⟨St.K (by walk_at "as"), ?_⟩
      refine ccn (strip_take_ (n := n) (dv := dv) (tvs := tvs) hd2 (by lia) hjs (by lia) (by lia)) (by walk_at "as") (hA'.le (by walk_at "om")) ?_
      rintro v13 s13 P13 mu13 hP13 S13 ⟨tvs', js', dv', rfl, hjs', hrun', hlt, hle, rfl⟩
      walk_at "ds"
      repeat (first | walk_at "z" | (with_reducible refine wpAny_execs_nil ?_; walk_at "ds"))
      simp only [run] at hrun
      exact hnx (jsz js') _ (by lia) ⟨P13, tvs', js', dn, dv', _, rfl, hP5.trans hP13, hjs', hrun'.trans hrun, by lia, by walk_at "z lk", by walk_at "z lk", S13⟩
    | @list a2 u2 n2 k2 ht =>
      refine ⟨_, _, _, _, a2, _, _, rfl, ht, S11, fun s12 S12 => ?_⟩
      walk_at "ds"
      simp only [jsz] at hk hlen
      simp only [run] at hrun
      have hn2 : n2 + 1 ≤ dv.length := Decidable.byContradiction fun h => by rw [if_neg h] at hrun; cases hrun
      rw [if_pos hn2] at hrun
      have hf : (dv.length : Int) - (n2 : Int) - 1 = ((dv.length - n2 - 1 : Nat) : Int) := by omega
      have hf2 : (dv.length : Int) - (n2 : Int) - 1 + (n2 : Int) = ((dv.length - 1 : Nat) : Int) := by lia
      repeat walk_at "z"
      refine cB1 (by walk_at "as") hE (by decide +kernel) c.fx.b_len boot_len ?_
      repeat walk_at "z"
      refine lenL (xs := dv) (by walk_at "as") (St.lst (by walk_at "as") (.tail _ (.head _))) (by lia) (fun t13 s13 S13 => ?_)
      repeat walk_at "z"
      walk_at "z c2"
      repeat walk_at "z"
      rename_i sl s14 P14 hP14 hsl S14
      refine sliceT S14 (xs := dv) (ys := (dv.drop (dv.length - n2 - 1)).take (dv.length - 1 - (dv.length - n2 - 1))) (St.lst S14 (.tail _ (.head _))) hsl (.int _ _) (.int _ _) .none (by decide) ?_ (fun l15 s15 _ S15 => ?_) (by lia)
      · rw [hf2, hf]
        exact slicePick_run _ _ _ (by simp) (by omega)
      obtain ⟨P16, hP16, hl16, S16⟩ := S15.freezeL
      obtain ⟨y, hy⟩ : ∃ y, dv[dv.length - 1]? = some y := ⟨_, List.getElem?_eq_getElem (by lia)⟩
      repeat walk_at "z"
      refine subLneg (x := y) (St.lst (by walk_at "as") (.tail _ (.head _))) (by omega) hy ?_
      refine ⟨St.K (by walk_at "as"), ?_⟩
      refine cc0 (list_of2 (n := n + 2) hl16 (by simp; omega)) (rho := [_, _]) (by walk_at "as") (hA'.le (by walk_at "om")) ?_
      rintro v17 s17 P17 hP17 S17 _
      repeat walk_at "z"
      rename_i sl s18 P18 hP18 hsl S18
      refine sliceT S18 (xs := dv) (ys := dv.take (dv.length - n2 - 1)) (St.lst S18 (.tail _ (.head _))) hsl .none (.int _ _) .none (by decide) ?_ (fun l19 s19 _ S19 => ?_) (by lia)
      · rw [hf]
        exact slicePick_upto' _ _
      repeat walk_at "z"
      refine stAppend hE ?_
      walk_at "z"
      refine ⟨l19, rfl, ?_, ?_⟩
      · obtain ⟨n', hn'⟩ := St.lstO (a := l19) (xs := dv.take (dv.length - n2 - 1)) (by walk_at "as") (.head _)
        exact ⟨_, n', hn'⟩
      repeat walk_at "z"
      refine ⟨_, _, _, _, _, dv.take (dv.length - n2 - 1), by simp; omega, by walk_at "as", fun s20 S20 => ?_⟩
      walk_at "ds"
      repeat (first | walk_at "z" | (with_reducible refine wpAny_execs_nil ?_; walk_at "ds"))
      have k18 := hP14.trans (hP16.trans (hP17.trans hP18))
      have S21 := St.drop ((swp S20).perm (List.perm_append_comm (l₁ := [_, _]) (l₂ := [_])))
      refine hnx (jsz js) _ (by lia) ⟨P18, tvs, js, l19, _, _, rfl, hP5.trans k18, hjs.mono k18, ?_, ?_, by walk_at "z lk", by walk_at "z lk", S21⟩
      · rw [← hrun]; congr 1; simp; lia
      · simp; omega
    | @vec a2 u2 n2 k2 ht =>
      refine ⟨_, _, _, _, a2, _, _, rfl, ht, S11, fun s12 S12 => ?_⟩
      walk_at "ds"
      simp only [jsz] at hk hlen
      simp only [run] at hrun
      have hn2 : n2 ≤ dv.length := Decidable.byContradiction fun h => by rw [if_neg h] at hrun; cases hrun
      rw [if_pos hn2] at hrun
      have hf : (dv.length : Int) - (n2 : Int) = ((dv.length - n2 : Nat) : Int) := by omega
      repeat walk_at "z"
      refine cB1 (by walk_at "as") hE (by decide +kernel) c.fx.b_len boot_len ?_
      repeat walk_at "z"
      refine lenL (xs := dv) (by walk_at "as") (St.lst (by walk_at "as") (.tail _ (.head _))) (by lia) (fun t13 s13 S13 => ?_)
      repeat walk_at "z"
      walk_at "z c1"
      repeat walk_at "z"
      rename_i sl s14 P14 hP14 hsl S14
      refine sliceT S14 (xs := dv) (ys := dv.drop (dv.length - n2)) (St.lst S14 (.tail _ (.head _))) hsl (.int _ _) .none .none (by decide) ?_ (fun l15 s15 _ S15 => ?_) (by lia)
      · rw [hf]
        exact slicePick_from' _ _
      obtain ⟨P16, hP16, hl16, S16⟩ := S15.freezeL
      refine ⟨St.K (by walk_at "as"), ?_⟩
      refine make_Vector (n := n + 2) S16 (hA'.le (by walk_at "om")) (fun x17 s17 P17 hP17 S17 I17 => ?_)
      repeat walk_at "z"
      rename_i sl s18 P18 hP18 hsl S18
      refine sliceT S18 (xs := dv) (ys := dv.take (dv.length - n2)) (St.lst S18 (.tail _ (.head _))) hsl .none (.int _ _) .none (by decide) ?_ (fun l19 s19 _ S19 => ?_) (by lia)
      · rw [hf]
        exact slicePick_upto' _ _
      repeat walk_at "z"
      refine stAppend hE ?_
      walk_at "z"
      refine ⟨l19, rfl, ?_, ?_⟩
      · obtain ⟨n', hn'⟩ := St.lstO (a := l19) (xs := dv.take (dv.length - n2)) (by walk_at "as") (.head _)
        exact ⟨_, n', hn'⟩
      repeat walk_at "z"
      refine ⟨_, _, _, _, _, dv.take (dv.length - n2), by simp; omega, by walk_at "as", fun s20 S20 => ?_⟩
      walk_at "ds"
      repeat (first | walk_at "z" | (with_reducible refine wpAny_execs_nil ?_; walk_at "ds"))
      have k18 := hP14.trans (hP16.trans (hP17.trans hP18))
      have S21 := St.drop ((swp S20).perm (List.perm_append_comm (l₁ := [_, _]) (l₂ := [_])))
      refine hnx (jsz js) _ (by lia) ⟨P18, tvs, js, l19, _, _, rfl, hP5.trans k18, hjs.mono k18, ?_, ?_, by walk_at "z lk", by walk_at "z lk", S21⟩
      · rw [← hrun]; congr 1; simp
      · simp; omega
end
end TE15
section TE16
-- turned
noncomputable abbrev XO (t d : Addr) : Obj := { cls := .ref 223, dict := some d, data := .fields #[.ref t, .none, .none, .none, .bool false, .none] }
section
variable {c : Cx} {P C : View} {L x dx tp t : Addr} {m : Loc} {mu rho : Led} {s : Shared} {A : Around} {a b d v : Value} {n : Nat} {W : Wld} {T : Tab} {bound : List Str} {name : Str} {φ φd : Obj → Prop} {fs : Flds}
theorem St.turnNew {o' od : Obj} {h' : Heap} {tk : Nat} {y : Addr} (S : St c P C L m ((x, φ) :: mu) s) (hd : s.heap.get? y = none) (hda : y ≠ x) (ha' : h'.get? x = some o') (hd' : h'.get? y = some od) (hk : ∀ b o, b ≠ x → s.heap.get? b = some o → h'.get? b = some o) (q : φd od) :
    St c (P.add x o') C L m ((y, φd) :: mu) { s with heap := h', toks := tk } := by
  have hm : ∀ p ∈ mu, p.1 ≠ x := fun p hp e => (List.nodup_cons.mp S.nodup).1 (List.mem_map.mpr ⟨p, hp, e⟩)
  have S1 := S.extBut (tk := tk) hk
  have S2 := S1.addP ha' (S.muL (x, φ) (.head _)) hm S.muC
  refine S2.known hd' q ?_ ?_ ?_ ?_
  · intro o ho
    rcases ho with ho | ⟨e, _⟩
    · have := S.keep _ _ ho; rw [hd] at this; cases this
    · exact hda e
  · rintro rfl
    obtain ⟨_, _, _, hL, _⟩ := S.ns
    rw [hd] at hL; cases hL
  · intro p hp e
    obtain ⟨o, ho, _⟩ := S.mus p (.tail _ hp)
    rw [e, hd] at ho; cases ho
  · intro o ho
    have := S.kep _ _ ho; rw [hd] at this; cases this
theorem setX_first {Q : Unit → Shared → Prop} {E : Value → Shared → Prop} (S : St c P C L m ((x, fun o => o = excObj 223 t) :: mu) s) (F : ExcSet c.K 223 name)
    (h : ∀ y s', St c (P.add x (XO t y)) C L m ((y, IsDictO c.w [(name, v)]) :: mu) s' → Q () s') : wpAny c.M A (setAttr (.ref x) name v) Q E s := by
  obtain ⟨o, ho, rfl⟩ := S.mus _ (.head _)
  refine set_exc (ox := excObj 223 t) (od := none) S.K ⟨ho, rfl, rfl, trivial⟩ F ?_
  refine osa_exc_new (s := { s with toks := s.toks + 1 }) S.K ho rfl rfl rfl F fun h' y hy hyx hyd hxd hk => ?_
  exact h y _ (S.turnNew (tk := s.toks + 1 + 1) hy hyx hxd hyd hk ⟨_, _, rfl, .cons .nil⟩)
theorem setX {Q : Unit → Shared → Prop} {E : Value → Shared → Prop} {y : Addr} (S : St c P C L m ((y, IsDictO c.w fs) :: mu) s) (hx : P x (XO t y)) (F : ExcSet c.K 223 name) (hl : fs.length ≤ 900)
    (h : ∀ s', St c P C L m ((y, IsDictO c.w (setF name v fs)) :: mu) s' → Q () s') : wpAny c.M A (setAttr (.ref x) name v) Q E s := by
  obtain ⟨o, ho, es, n, rfl, he⟩ := S.mus _ (.head _)
  refine set_exc (ox := XO t y) (od := some (dictOf es n)) S.K ⟨S.keep _ _ hx, rfl, rfl, ho⟩ F ?_
  refine osa_exc_dict (s := { s with toks := s.toks + 1 }) S.K (S.keep _ _ hx) rfl rfl rfl ho F (by rw [he.getL]; rfl) ?_ fun h' hd hs => ?_
  · have h3 := (he.put (x := name) (t := s.toks + 1) (v := v)).len
    have h4 := setF_len name v fs
    show (putL name (PyData.keyHash c.w.params name) (.str name (s.toks + 1)) v es).length ≤ 1000
    lia
  · exact h _ (S.turn (tk := s.toks + 1 + 1) hs hd ⟨_, _, rfl, he.put⟩)
theorem init_SchemeError : CallsC c (n + 1) 200 [.ref x, a, b] P [(x, fun o => o = excObj 223 t)] (fun P' mu' v => (Ex1 fun y => P' x (XO t y) ∧ mu' = [(y, IsDictO c.w [("word", a), ("irritants", b)])]) ∧ v = .none) := by
  refine intro c.fx.is_SchemeError_init [("self", .ref x), ("word", a), ("irritants", b)] (fun _ _ _ _ _ _ _ _ => BindsTo.of_eq rfl) (locs rfl) (by decide +kernel) ?_
  intro env A' L' C' s₁ Qb Eb hE hA' S' B
  dsimp only [f_SchemeError_init, fx_SchemeError_init, binds0] at *
  repeat walk_at "z"
  refine setX_first S' c.fx.x_word (fun y s2 S2 => ?_)
  repeat walk_at "z"
  refine setX (by walk_at "as") (View.add_self _ _ _) c.fx.x_irritants (by simp) (fun s3 S3 => ?_)
  repeat walk_at "z"
  walk_at "nil"
  exact B.nxt (View.le_add _ _ _) S3 ⟨⟨y, View.add_self _ _ _, rfl⟩, rfl⟩
theorem FnIs.keep {K : Frag} {f : Addr} {F : Fn} (h : FnIs K f F) : keepIn K (.ref f) = true := by
  obtain ⟨_, _, _, _, _, _, _, _, _, _, e, _⟩ := h.at_
  unfold keepIn
  walk_at "ds"
  rw [e]
theorem init_SyntaxTrouble : CallsC c (n + 2) 220 [.ref x, a, b] P [(x, fun o => o = excObj 223 t)] (fun P' mu' v => (Ex2 fun y fs => P' x (XO t y) ∧ mu' = [(y, IsDictO c.w fs)]) ∧ v = .none) := by
  refine intro c.fx.is_SyntaxTrouble_init [("self", .ref x), ("reason", a), ("datum", b)] (fun _ _ _ _ _ _ _ _ => BindsTo.of_eq rfl) (locs rfl) (by decide +kernel) ?_
  intro env A' L' C' s₁ Qb Eb hE hA' S' B
  dsimp only [f_SyntaxTrouble_init, fx_SyntaxTrouble_init, binds0] at *
  have X := c.fx.exc
  walk_at "z"
  refine wpAny_Expr ?_ hE.inter (by with_unfolding_all rfl)
  repeat walk_at "z"
  refine method_cls S'.K X.ga (cls_value S'.K X.reads X.base rfl ?_)
  have S1 := S'.toks (s₁.toks + 1)
  refine cW3 (FnIs.keep c.fx.is_SchemeError_init) ?_
  repeat walk_at "z"
  with_reducible refine newLst (by walk_at "as") (fun l2 s2 _ S2 => ?_) (by simp)
  have S3 := S2.drop
  clear S2
  refine ⟨S3.K, ?_⟩
  refine ccn (init_SchemeError (n := n)) (by walk_at "as") (hA'.le (by walk_at "om")) ?_
  rintro v4 s4 P4 mu4 hP4 S4 ⟨⟨y, hx4, rfl⟩, rfl⟩
  walk_at "ds"
  repeat walk_at "z"
  refine setX S4 hx4 c.fx.x_reason (by simp) (fun s5 S5 => ?_)
  repeat walk_at "z"
  refine setX S5 hx4 c.fx.x_datum (Nat.le_trans (setF_len _ _ _) (by simp)) (fun s6 S6 => ?_)
  repeat walk_at "z"
  walk_at "nil"
  exact B.nxt hP4 S6 ⟨⟨y, _, hx4, rfl⟩, rfl⟩
/-- the exception is made -/
theorem make_exc {Q E : Value → Shared → Prop} (S : St c P C L m mu s) (hA : Room A (n + 3)) (h : ∀ x t y s' P', P.le P' → s.heap.get? x = none → St c P' C L m mu s' → P' x (XO t y) → Q (.ref x) s') : wpAny c.M A (call (.ref 223) [a, b]) Q E s := by
  obtain ⟨nm, q, N, bs, hdct, sn, sub, ab, col, dd, k0, k1, k2, k3, k5, hC⟩ := c.fx.exc.cls
  have X := S.K
  obtain ⟨hh, g, d, t, os⟩ := s
  have e0 : hh.get? hh.objs.size = none := Heap.get?_none_of_le (Nat.le_refl _)
  have kA : ∀ y o, hh.get? y = some o → (hh.push { cls := .type "tuple", data := .seq [a, b].toArray }).get? y = some o := fun y o e => Heap.get?_push_of_some _ e
  have S1 := S.grow (h' := hh.push { cls := .type "tuple", data := .seq [a, b].toArray }) (tk := t) kA
  have S2 := S1.pushMu (h' := (hh.push { cls := .type "tuple", data := .seq [a, b].toArray }).push (excObj 223 hh.objs.size)) (tk := t) (a := hh.objs.size + 1) (o := excObj 223 hh.objs.size) (φ := fun o => o = excObj 223 hh.objs.size)
    (Heap.get?_none_of_le (by show (hh.push _).objs.size ≤ _; rw [Heap.size_push]; exact Nat.le_refl _)) (fun b o e => Heap.get?_push_of_some _ e) (by heap_get) rfl
  refine exc_call PySem.F.excBase_Exception (by decide +kernel) (by decide +kernel) (by decide +kernel) X (X _ _ hC) c.fx.exc.init c.fx.exc.fn ?_ (by rw [sizeLine_eq]; simp)
  refine cc (init_SyntaxTrouble (n := n)) (rho := mu) S2 (hA.under 223 [a, b]) ?_
  rintro v s' P' mu' hP S' ⟨⟨y, fs, hx, rfl⟩, rfl⟩
  exact ⟨rfl, h (hh.objs.size + 1) hh.objs.size y s' P' hP (Heap.get?_none_of_le (Nat.le_succ _)) S'.drop hx⟩
end
end TE16
section TE17
-- turned
local macro_rules | `(tactic| walk_at "zu") => `(tactic| walk_at "z")
/-! rows of forms -/
noncomputable def carOf : Thing → Thing
  | .pair a _ => a
  | t => t
noncomputable def chain (M : List Str) (l : Nat) : List Thing → Form × Bool → Option (Form × Bool)
  | [], fb => some fb
  | t :: ts, fb => (chain M l ts fb).bind (link M l t (carOf t))
theorem told_pair {M : List Str} {l : Nat} {a d : Thing} (h : markOf M (.pair a d) = none) : told M l (.pair a d) = (told M l d).bind (link M l (.pair a d) a) := by
  rw [told, h]
  cases told M l d with
  | none => rfl
  | some fb => rfl
theorem told_chain {M : List Str} {l : Nat} {w : World} {P : View} {T : Tab} {vs : List Value} {v e : Value} {ts : List Thing} {t te : Thing} (h : SpV w P T vs v e ts t te) (hn : ∀ x ∈ ts, markOf M x = none) : told M l t = (told M l te).bind (chain M l ts) := by
  induction h with
  | nil _ => cases told M l _ <;> rfl
  | cons I d r ih =>
    rw [told_pair (hn _ (.head _)), ih fun x hx => hn x (.tail _ hx), Option.bind_assoc]
    rfl
theorem toldV_chain {M : List Str} {l : Nat} {w : World} {P : View} {T : Tab} {vs : List Value} {v e : Value} {ths : List Thing} {t te : Thing} (h : SpV w P T vs v e ths t te) : ∀ {ts : List Thing}, t = row ts .nil → te = .nil → toldV M l ts = chain M l ths (.quote .nil, true) := by
  induction h with
  | nil _ =>
    intro ts h1 h2
    cases ts with
    | nil => rw [toldV]; rfl
    | cons a r => rw [h2] at h1; cases h1
  | @cons a x r vs e tx ty ths te I d hr ih =>
    intro ts h1 h2
    cases ts with
    | nil => cases h1
    | cons b ts =>
      simp only [row, Thing.pair.injEq] at h1
      obtain ⟨rfl, rfl⟩ := h1
      rw [toldV, chain, ih rfl h2]
      cases chain M l ths (Form.quote Thing.nil, true) <;> rfl
theorem chain_none {M : List Str} {l : Nat} {fb : Form × Bool} : ∀ {ts : List Thing} {j : Nat}, chain M l (ts.drop j) fb = none → chain M l ts fb = none
  | ts, 0, h => h
  | [], j + 1, h => by simpa using h
  | t :: ts, j + 1, h => by
    rw [chain, chain_none (ts := ts) (j := j) (by simpa using h)]; rfl
theorem isMk_S {bound : List Str} {t : Thing} : isMk bound wS t = true → Ex1 fun x => t = .pair (.sym wS) (.pair x .nil) ∧ markOf (mkM bound) t = some (wS, x) := by
  intro h
  unfold isMk at h
  split at h
  · rename_i w x
    obtain ⟨rfl, hb⟩ := of_decide_eq_true h
    refine ⟨x, rfl, ?_⟩
    unfold markOf
    walk_at "ds"
    rw [if_pos]
    unfold mkM
    rw [List.mem_filter]
    exact ⟨by simp, by simpa using hb⟩
  · cases h
theorem isMk_S' {bound : List Str} {t : Thing} : isMk bound wS t = false → ∀ x, markOf (mkM bound) t ≠ some (wS, x) := by
  intro h x hm
  obtain ⟨e1, e2⟩ := markOf_some hm
  subst e1
  unfold mkM at e2
  rw [List.mem_filter] at e2
  unfold isMk at h
  have := of_decide_eq_false h
  exact this ⟨rfl, of_decide_eq_true e2.2⟩
theorem link_S {M : List Str} {t a x : Thing} {fb : Form × Bool} (h : markOf M a = some (wS, x)) : link M 1 t a fb = some (.append x fb.1, false) := by
  unfold link
  rw [if_pos rfl, h]
  walk_at "ds"
  rw [if_pos rfl]
theorem link_told {M : List Str} {l : Nat} {t a : Thing} {fb : Form × Bool} (h : l ≠ 1 ∨ ∀ x, markOf M a ≠ some (wS, x)) : link M l t a fb = (told M l a).map (glue t fb) := by
  unfold link
  rcases h with h | h
  · rw [if_neg h]
  · split
    · rename_i w x hm
      split
      · rename_i hw
        subst hw
        split at hm
        · exact absurd hm (h x)
        · cases hm
      · rfl
    · rfl
theorem QV.mono {c : Cx} {P P' : View} {W : Wld} {T T' : Tab} {v d : Value} (h : QV c P W T v d) (k : P.le P') (hT : T <+: T') : QV c P' W T' v d := let ⟨a, h1, h2⟩ := h; ⟨a, h1.mono k hT, h2.mono k⟩
/-- what is told of a datum v -/
noncomputable def ToldP (c : Cx) (W : Wld) (bound : List Str) (T : Tab) (v : Value) (res : Option (Form × Bool)) : View → Led → Value → Prop := fun P' mu' r =>
  Ex7 fun T' l' u' rt fv f b => And8 (T <+: T') (WK c P' W T' bound) (mu' = WL c W T' l' u') (r = .ref rt) (IsTp P' rt [fv, .bool b]) (FV c P' W T' fv f) ((b = true → QV c P' W T' fv v)) (res = some (f, b))
structure ToldC (c : Cx) (W : Wld) (bound : List Str) (tp : Addr) (k : Nat) : Prop where
  use : ∀ {P : View} {T : Tab} {v : Value} {t : Thing} {l : Nat} {last : Int} {lu u : Tok}, TmV c P W tp → WK c P W T bound → DV c.w P T v t → sz t ≤ k → 1 ≤ l →
    CallsX c (3 * k + 13) 505 [.ref tp, v, .int (l : Int) u] P (WL c W T last lu) (ToldP c W bound T v (told (mkM bound) l t)) (told (mkM bound) l t = none)
section
variable {c : Cx} {P C : View} {L x dx tp : Addr} {m : Loc} {mu rho : Led} {s : Shared} {A : Around} {a b d : Value} {n : Nat} {W : Wld} {T : Tab} {bound : List Str} {last : Int} {lu : Tok}
theorem raise_st {env : Env} {e : PySem.Expr} {pos : Pos} {Q : Flow → Shared → Prop} {E : Value → Shared → Prop} (hA : A.handled = none)
    (h : wpAny c.M A (eval e env) (fun v s1 => Ex8 fun x t y P C L m mu => And4 (v = .ref x) (St c P C L m mu s1) (P x (XO t y)) (E (.ref x) s1)) E s) : wpAny c.M A (exec (.Raise (some e) none pos) env) Q E s := by
  obtain ⟨nm, q, N, bs, hdct, sn, sub, ab, col, dd, k0, k1, k2, k3, k5, hC⟩ := c.fx.exc.cls
  rw [arm_exec_Raise]
  refine wpAny_bind (wpAny_standAt ?_)
  show wpAny c.M A (raiseStmt env (some (do let v ← eval e env; standAt pos; pure v)) none) Q E _
  refine exc_raise (C := 223) (bm := [.ref 203, .type "Exception", .type "BaseException", .type "object"]) (newId := "Exception.__new__") (nm := nm) (q := q) (N := N) (bs := bs) (hdct := hdct) (sn := sn) (sub := sub) (ab := ab) (col := col) (dd := dd) (k0 := k0) (k1 := k1) (k2 := k2) (k3 := k3) (k5 := k5) (by decide +kernel) hA
    (wpAny_bind (wpAny_mono h (fun v s1 h1 => wpAny_bind (wpAny_standAt (wpAny_pure ?_))) fun _ _ x => x))
  obtain ⟨x, t, y, P, C, L, m, mu, rfl, S, hx, hE⟩ := h1
  exact ⟨x, _, t, rfl, S.K _ _ hC, S.keep _ _ hx, rfl, rfl, hE⟩
end
end TE17
section TE18
-- turned
local macro_rules | `(tactic| walk_at "zu") => `(tactic| walk_at "z")
section
variable {c : Cx} {P C : View} {L x dx tp : Addr} {m : Loc} {mu rho : Led} {s : Shared} {A : Around} {a b d : Value} {n : Nat} {W : Wld} {T : Tab} {bound : List Str} {last : Int} {lu : Tok}
theorem tm_marked {k : Nat} (ih : ToldC c W bound tp k) {v : Value} {t y : Thing} {l : Nat} {w : Str} {u tk : Tok} (hT : TmV c P W tp) (hW : WK c P W T bound) (hd : DV c.w P T v t) (hz : sz t ≤ k + 1) (hk : k ≤ 200) (hl : 1 ≤ l) (hm : markOf (mkM bound) t = some (w, y)) :
    CallsX c (3 * k + 15) 512 [.ref tp, v, .str w tk, .int (l : Int) u] P (WL c W T last lu) (ToldP c W bound T v (told (mkM bound) l t)) (told (mkM bound) l t = none) := by
  refine introX c.fx.is_Template_marked [("self", .ref tp), ("template", v), ("text", .str w tk), ("level", .int (l : Int) u)] (fun _ _ _ _ _ _ _ _ => BindsTo.of_eq rfl) (locs rfl) (by decide +kernel) ?_
  intro env A' L' C' s₁ Qb Eb outer Bs hE hA' S' hX B hEb
  dsimp only [f_Template_marked, fx_Template_marked, binds0] at *
  obtain ⟨e1, e2⟩ := markOf_some hm
  subst e1
  obtain ⟨tu, gU⟩ := c.fx.g_UNQUOTE
  obtain ⟨ts, gS⟩ := c.fx.g_SPLICE
  obtain ⟨tq, gQ⟩ := c.fx.g_QUASIQUOTE
  have hd0 := hd
  obtain ⟨a0, x0, y0, rfl, I, hx, hy⟩ := hd.pairInv
  clear hd
  obtain ⟨a1, x1, y1, rfl, I1, hx1, hy1⟩ := hy.pairInv
  clear hy
  have hxi := hx.hi
  have hx1i := hx1.hi
  have hy1i := hy1.hi
  have htd : told (mkM bound) l (.pair (.sym w) (.pair y .nil)) = if l = 1 ∧ w = wU then some (.hole y, false) else if l = 1 ∧ w = wS then none else
      (told (mkM bound) (up w l) (.pair y .nil)).bind fun fb => if fb.2 then some (.quote (.pair (.sym w) (.pair y .nil)), true) else some (.cons (.quote (.sym w)) fb.1, false) := by
    conv => lhs; rw [told]
    rw [hm]
    walk_at "ds"
    split
    · rfl
    · split
      · rfl
      · cases told (mkM bound) (up w l) (.pair y .nil) <;> rfl
  -- deeper
  have deep : ∀ {s2 : Shared}, ¬ (l = 1 ∧ w = wU) → ¬ (l = 1 ∧ w = wS) → St c P C' L' (upd (upd (upd (upd noLoc (Str.ofString "self") (.ref tp)) (Str.ofString "template") (.ref a0)) (Str.ofString "text") (.str w tk)) (Str.ofString "level") (.int (l : Int) u)) (WL c W T last lu) s2 →
      wpAny c.M A' (execs (f_Template_marked.body.drop 2) env) Qb Eb s2 := by
    intro s2 h1 h2 S2
    dsimp only [f_Template_marked, fx_Template_marked, List.drop]
    have hup : 1 ≤ up w l := by
      unfold up
      split
      · lia
      · rename_i hq
        rcases mkM_ok bound w e2 with rfl | rfl | rfl
        · have : l ≠ 1 := fun e => h1 ⟨e, rfl⟩
          lia
        · have : l ≠ 1 := fun e => h2 ⟨e, rfl⟩
          omega
        · exact absurd rfl hq
    rw [if_neg h1, if_neg h2] at htd
    walk_at "z"
    refine unpack2 hE hA'.handled (by decide +kernel) (by decide +kernel) ?_
    repeat walk_at "z"
    refine methF (by walk_at "as") hT c.fx.m_Template_told (by rfl) ?_
    refine cW2 c.fx.m_Template_told.keep ?_
    walk_at "z"
    refine wpAny_mono (Q := fun v s' => Ex1 fun u3 => v = .int ((up w l : Nat) : Int) u3 ∧ St c P C' L' (upd (upd (upd (upd noLoc (Str.ofString "self") (.ref tp)) (Str.ofString "template") (.ref a0)) (Str.ofString "text") (.str w tk)) (Str.ofString "level") (.int (l : Int) u)) (WL c W T last lu) s') (E := fun _ _ => False) ?_ ?_ (fun _ _ h => h.elim)
    · repeat walk_at "zu"
      refine eqS ?_
      by_cases hq : w = wQ
      · first | with_reducible refine boT (decide_eq_true (show w = Str.ofString "quasiquote" from hq)) ?_ | with_reducible refine bnT (decide_eq_true (show w = Str.ofString "quasiquote" from hq)) ?_ | rw [decide_eq_true (show w = Str.ofString "quasiquote" from hq)]
        repeat walk_at "zu"
        have e : (l : Int) + 1 = ((up w l : Nat) : Int) := by unfold up; rw [if_pos hq]; lia
        exact ⟨_, congrArg (fun z => Value.int z _) e, (by walk_at "as")⟩
      · first | with_reducible refine boF (decide_eq_false (show ¬ w = Str.ofString "quasiquote" from hq)) ?_ | with_reducible refine bnF (decide_eq_false (show ¬ w = Str.ofString "quasiquote" from hq)) ?_ | rw [decide_eq_false (show ¬ w = Str.ofString "quasiquote" from hq)]
        repeat walk_at "zu"
        have e : (l : Int) - 1 = ((up w l : Nat) : Int) := by
          have : up w l = l - 1 := by unfold up; rw [if_neg hq]
          rw [this]
          omega
        exact ⟨_, congrArg (fun z => Value.int z _) e, (by walk_at "as")⟩
    rintro v4 s4 ⟨u4, rfl, S4⟩
    refine ⟨S4.K, ?_⟩
    refine ccxn (ih.use hT hW (.pair I1 hx1 hy1) (by simp only [sz] at hz ⊢; lia) hup) S4 (hA'.le (by walk_at "om")) hX ?_ (fun e s' hf ht => hEb e s' (by rw [htd, hf]; rfl) (ht.two under_le))
    rintro v5 s5 P5 mu5 hP5 S5 ⟨T5, l5, u5, rt, fv, f, bb, hT5, W5, rfl, rfl, hrt, hfv, hqv, htold⟩
    refine ⟨_, _, _, _, rt, _, _, rfl, hrt, S5, fun s6 S6 => ?_⟩
    walk_at "ds"
    rw [htold] at htd
    have hTm5 := Inst.mono hT hP5
    have hd5 := hd0.mono hP5 hT5
    have I5 := I.mono hP5
    cases bb with
    | true =>
      repeat walk_at "z"
      refine methF (by walk_at "as") hTm5 c.fx.m_Template_quoted (by rfl) ?_
      refine cW1 c.fx.m_Template_quoted.keep ?_
      repeat walk_at "z"
      refine ⟨St.K (by walk_at "as"), ?_⟩
      refine ccn (tm_quoted (n := 3 * k + 5) (v := .ref a0) hTm5 W5) (by walk_at "as") (hA'.le (by walk_at "om")) ?_
      rintro v7 s7 P7 mu7 hP7 S7 ⟨T7, l7, u7, hT7, W7, rfl, hq7⟩
      repeat walk_at "z"
      with_reducible refine newTup (by walk_at "as") (fun t8 s8 P8 hP8 ht8 S8 => ?_) (by simp)
      obtain ⟨qa, hqa1, hqa2⟩ := id hq7
      refine B.ret (hP5.trans (hP7.trans hP8)) S8 ⟨T7, l7, u7, t8, v7, .quote _, true, hT5.trans hT7, W7.mono hP8, rfl, rfl, ht8, ?_, fun _ => hq7.mono hP8 (List.prefix_refl _), htd⟩
      exact .quote (hqa1.mono hP8 (List.prefix_refl _)) (hqa2.mono hP8) (hd5.mono (hP7.trans hP8) hT7)
    | false =>
      repeat walk_at "z"
      walk_at "nil"
      repeat walk_at "z"
      refine methF (by walk_at "as") hTm5 c.fx.m_Template_consed (by rfl) ?_
      refine cW2 c.fx.m_Template_consed.keep ?_
      repeat walk_at "z"
      refine methF (by walk_at "as") hTm5 c.fx.m_Template_quoted (by rfl) ?_
      refine cW1 c.fx.m_Template_quoted.keep ?_
      repeat walk_at "z"
      refine ⟨St.K (by walk_at "as"), ?_⟩
      refine ccn (tm_quoted (n := 3 * k + 5) (v := x0) hTm5 W5) (by walk_at "as") (hA'.le (by walk_at "om")) ?_
      rintro v7 s7 P7 mu7 hP7 S7 ⟨T7, l7, u7, hT7, W7, rfl, hq7⟩
      repeat walk_at "z"
      refine ⟨St.K (by walk_at "as"), ?_⟩
      refine ccn (tm_consed (n := 3 * k + 5) (v := v7) (w := fv) (Inst.mono hTm5 hP7) W7) (by walk_at "as") (hA'.le (by walk_at "om")) ?_
      rintro v8 s8 P8 mu8 hP8 S8 ⟨T8, l8, u8, ca, hT8, W8, rfl, hw8, hr8⟩
      repeat walk_at "z"
      with_reducible refine newTup (by walk_at "as") (fun t9 s9 P9 hP9 ht9 S9 => ?_) (by simp)
      obtain ⟨qa, hqa1, hqa2⟩ := id hq7
      have k79 := hP7.trans (hP8.trans hP9)
      have k89 := hP8.trans hP9
      refine B.ret (hP5.trans k79) S9 ⟨T8, l8, u8, t9, v8, .cons (.quote (.sym w)) f, false, hT5.trans (hT7.trans hT8), W8.mono hP9, rfl, rfl, ht9, ?_, fun h => by (cases h), htd⟩
      exact .cons (hw8.mono hP9 (List.prefix_refl _)) (hr8.mono hP9) (.quote (hqa1.mono k89 hT8) (hqa2.mono k89) ((hx.mono hP5 hT5).mono k79 (hT7.trans hT8))) (hfv.mono k79 (hT7.trans hT8))
  repeat walk_at "z"
  refine eqI ?_
  by_cases h1 : (l : Int) = 1
  · have hl1 : l = 1 := by lia
    first | with_reducible refine boT (decide_eq_true h1) ?_ | with_reducible refine bnT (decide_eq_true h1) ?_ | rw [decide_eq_true h1]
    repeat walk_at "zu"
    refine eqS ?_
    by_cases hwU : w = wU
    · first | with_reducible refine boT (decide_eq_true (show w = Str.ofString "unquote" from hwU)) ?_ | with_reducible refine bnT (decide_eq_true (show w = Str.ofString "unquote" from hwU)) ?_ | rw [decide_eq_true (show w = Str.ofString "unquote" from hwU)]
      rw [if_pos ⟨hl1, hwU⟩] at htd
      repeat walk_at "zu"
      with_reducible refine newTup (by walk_at "as") (fun t9 s9 P9 hP9 ht9 S9 => ?_) (by simp)
      refine B.ret hP9 S9 ⟨T, last, lu, t9, x1, .hole y, false, List.prefix_refl _, hW.mono hP9, rfl, rfl, ht9, .hole (hx1.mono hP9 (List.prefix_refl _)), fun h => by (cases h), htd⟩
    · first | with_reducible refine boF (decide_eq_false (show ¬ w = Str.ofString "unquote" from hwU)) ?_ | with_reducible refine bnF (decide_eq_false (show ¬ w = Str.ofString "unquote" from hwU)) ?_ | rw [decide_eq_false (show ¬ w = Str.ofString "unquote" from hwU)]
      have hn1 : ¬ (l = 1 ∧ w = wU) := fun h => hwU h.2
      repeat walk_at "zu"
      walk_at "nil"
      repeat walk_at "zu"
      refine eqI ?_
      first | with_reducible refine boT (decide_eq_true h1) ?_ | with_reducible refine bnT (decide_eq_true h1) ?_ | rw [decide_eq_true h1]
      repeat walk_at "zu"
      refine eqS ?_
      by_cases hwS : w = wS
      · first | with_reducible refine boT (decide_eq_true (show w = Str.ofString "unquote-splicing" from hwS)) ?_ | with_reducible refine bnT (decide_eq_true (show w = Str.ofString "unquote-splicing" from hwS)) ?_ | rw [decide_eq_true (show w = Str.ofString "unquote-splicing" from hwS)]
        rw [if_neg hn1, if_pos ⟨hl1, hwS⟩] at htd
        repeat walk_at "zu"
        refine raise_st hA'.handled ?_
        walk_at "z c2"
        repeat walk_at "zu"
        walk_at "z c1"
        repeat walk_at "zu"
        refine ⟨St.K (by walk_at "as"), ?_⟩
        refine cc (strip_ (n := 3 * k + 7) hd0 (by lia)) (rho := WL c W T last lu) (by walk_at "as") (hA'.le (by walk_at "om")) ?_
        rintro v7 s7 P7 mu7 hP7 S7 rfl
        try simp only [List.nil_append] at S7
        refine ⟨S7.K, ?_⟩
        have hB7 := S7.stays_base (hX.mono hP7 (View.le.refl _))
        refine make_exc (n := 3 * k + 7) S7 (hA'.le (by walk_at "om")) (fun x8 t8 y8 s8 P8 hP8 hn8 S8 hx8 => ?_)
        refine ⟨x8, t8, y8, P8, C', L', _, _, rfl, S8, hx8, hEb _ _ htd ⟨S8.rest, Kept.of_keeps S8.kep, .inr (.inr ⟨S8.funFrames (hX.mono (hP7.trans hP8) (View.le.refl _)), S8.stays_base (hX.mono (hP7.trans hP8) (View.le.refl _)), ?_, _, _, t8, S8.keep _ _ hx8, rfl, rfl, rfl, rfl⟩)⟩⟩
        cases q : Bs.get? x8 with
        | none => rfl
        | some o => have := hB7 _ _ q; rw [hn8] at this; cases this
      · first | with_reducible refine boF (decide_eq_false (show ¬ w = Str.ofString "unquote-splicing" from hwS)) ?_ | with_reducible refine bnF (decide_eq_false (show ¬ w = Str.ofString "unquote-splicing" from hwS)) ?_ | rw [decide_eq_false (show ¬ w = Str.ofString "unquote-splicing" from hwS)]
        repeat walk_at "zu"
        walk_at "nil"
        exact deep hn1 (fun h => hwS h.2) (by walk_at "as")
  · first | with_reducible refine boF (decide_eq_false h1) ?_ | with_reducible refine bnF (decide_eq_false h1) ?_ | rw [decide_eq_false h1]
    repeat walk_at "zu"
    walk_at "nil"
    repeat walk_at "zu"
    refine eqI ?_
    first | with_reducible refine boF (decide_eq_false h1) ?_ | with_reducible refine bnF (decide_eq_false h1) ?_ | rw [decide_eq_false h1]
    repeat walk_at "zu"
    walk_at "nil"
    exact deep (fun h => h1 (by rw [h.1]; rfl)) (fun h => h1 (by rw [h.1]; rfl)) (by walk_at "as")
end
end TE18
section TE19
-- turned
local macro_rules | `(tactic| walk_at "zu") => `(tactic| walk_at "z")
section
variable {c : Cx} {P C : View} {L x dx tp : Addr} {m : Loc} {mu rho : Led} {s : Shared} {A : Around} {a b d : Value} {n : Nat} {W : Wld} {T : Tab} {bound : List Str} {last : Int} {lu : Tok}
theorem SpV.get {w : World} {P : View} {T : Tab} {vs : List Value} {v e : Value} {ts : List Thing} {t te : Thing} (h : SpV w P T vs v e ts t te) : ∀ {i : Nat} {y : Value}, vs[i]? = some y →
    Ex5 fun a x r tx ty => And5 (y = .ref a) (Inst w P a 146 [("car", x), ("cdr", r)]) (DV w P T x tx) (DV w P T (.ref a) (.pair tx ty)) (ts[i]? = some (.pair tx ty)) := by
  induction h with
  | nil _ => intro i y h; simp at h
  | @cons a x r vs e tx ty ts te I d hr ih =>
    intro i y h
    cases i with
    | zero => simp at h; exact ⟨a, x, r, tx, ty, h.symm, I, d, .pair I d hr.dv, rfl⟩
    | succ i => simp at h; simpa using ih h
theorem SpV.len {w : World} {P : View} {T : Tab} {vs : List Value} {v e : Value} {ts : List Thing} {t te : Thing} (h : SpV w P T vs v e ts t te) : vs.length = ts.length := by
  induction h with
  | nil _ => rfl
  | cons _ _ _ ih => simp [ih]
theorem SpV.tail_ {w : World} {P : View} {T : Tab} {vs : List Value} {v e : Value} {ts : List Thing} {t te : Thing} (h : SpV w P T vs v e ts t te) : DV w P T e te := by
  induction h with
  | nil d => exact d
  | cons _ _ _ ih => exact ih
theorem SpV.size {w : World} {P : View} {T : Tab} {vs : List Value} {v e : Value} {ts : List Thing} {t te : Thing} (h : SpV w P T vs v e ts t te) : sz te ≤ sz t ∧ ∀ y ∈ ts, sz (carOf y) + 1 ≤ sz t := by
  induction h with
  | nil _ => exact ⟨Nat.le_refl _, fun _ h => nomatch h⟩
  | @cons a x r vs e tx ty ts te I d hr ih =>
    have h1 := sz_pos tx
    have h2 := sz_pos ty
    have h3 : sz (Thing.pair tx ty) = 1 + sz tx + sz ty := by rw [sz]
    refine ⟨by have := ih.1; lia, fun y hy => ?_⟩
    rcases List.mem_cons.mp hy with rfl | hy
    · show sz tx + 1 ≤ _; lia
    · have := ih.2 y hy; lia
theorem chain_step {M : List Str} {l : Nat} {fb : Form × Bool} {ts : List Thing} {j : Nat} {t : Thing} (h : ts[j]? = some t) : chain M l (ts.drop j) fb = (chain M l (ts.drop (j + 1)) fb).bind (link M l t (carOf t)) := by
  obtain ⟨hj, e⟩ := List.getElem?_eq_some_iff.mp h
  rw [List.drop_eq_getElem_cons hj, chain, e]
/-- what a row of spots is told as -/
noncomputable def ChainP (c : Cx) (W : Wld) (bound : List Str) (T : Tab) (ss : List Value) (res : Option (Form × Bool)) : View → Led → Value → Prop := fun P' mu' r =>
  Ex7 fun T' l' u' rt fv f b => And8 (T <+: T') (WK c P' W T' bound) (mu' = WL c W T' l' u') (r = .ref rt) (IsTp P' rt [fv, .bool b]) (FV c P' W T' fv f) ((b = true → ∀ y, ss[0]? = some y → QV c P' W T' fv y)) (res = some (f, b))
theorem tm_chained {k : Nat} (ih : ToldC c W bound tp k) {sl : Addr} {ss : List Value} {v e tail : Value} {ths : List Thing} {t te : Thing} {l : Nat} {u : Tok} {f0 : Form} {b0 : Bool} (hT : TmV c P W tp) (hW : WK c P W T bound) (hs : IsLst P sl ss)
    (hsp : SpV c.w P T ss v e ths t te) (hz : ∀ y ∈ ths, sz (carOf y) ≤ k) (hlen : ss.length ≤ 901) (hk : k ≤ 200) (hl : 1 ≤ l) (hf : FV c P W T tail f0) :
    CallsX c (3 * k + 14) 547 [.ref tp, .ref sl, tail, .bool b0, .int (l : Int) u] P (WL c W T last lu) (ChainP c W bound T ss (chain (mkM bound) l ths (f0, b0))) (chain (mkM bound) l ths (f0, b0) = none) := by
  refine introX c.fx.is_Template_chained [("self", .ref tp), ("spots", .ref sl), ("tail", tail), ("is_tail_whole", .bool b0), ("level", .int (l : Int) u)] (fun _ _ _ _ _ _ _ _ => BindsTo.of_eq rfl) (locs rfl) (by decide +kernel) ?_
  intro env A' L' C' s₁ Qb Eb outer Bs hE hA' S' hX B hEb
  dsimp only [f_Template_chained, fx_Template_chained, binds0] at *
  obtain ⟨tS, gS⟩ := c.fx.g_SPLICE
  have hsl := hsp.len
  repeat walk_at "z"
  refine wpAny_For ?_
  repeat walk_at "z"
  rename_i sl1 s1 P1 hP1 hsl1 S1
  refine sliceT S1 (S1.lstP (hs.mono hP1)) hsl1 .none .none (.int _ _) (by decide) (krv_pick _) ?_ (by lia)
  intro D s2 _ S2
  obtain ⟨P2, hP2, hD, S3⟩ := S2.freezeL
  have hP02 := hP1.trans hP2
  refine iterL S3 (xs := ss.reverse) hD ?_
  intro it s4 hC W4 S4
  refine forS S4 hE (by decide +kernel) hA'.handled hC W4 (fun i P' m' mu' => m' (Str.ofString "self") = some (.ref tp) ∧ m' (Str.ofString "level") = some (.int (l : Int) u) ∧ Ex6 fun T' l' u' fv f b => And8 (T <+: T') (WK c P' W T' bound) (mu' = WL c W T' l' u') (m' (Str.ofString "found") = some fv) (m' (Str.ofString "is_whole") = some (.bool b)) (FV c P' W T' fv f) ((b = true → ∀ j y, j + i = ss.length → i ≠ 0 → ss[j]? = some y → QV c P' W T' fv y)) (chain (mkM bound) l (ths.drop (ss.length - i)) (f0, b0) = some (f, b))) ?_ ?_ ?_
  · refine ⟨by walk_at "z lk", by walk_at "z lk", T, last, lu, tail, f0, b0, List.prefix_refl _, hW.mono hP02, rfl, by walk_at "z lk", by walk_at "z lk", hf.mono hP02 (List.prefix_refl _), fun _ j y _ h => absurd rfl h, ?_⟩
    rw [Nat.sub_zero, hsl, List.drop_length]; rfl
  · intro i v5 P' m' mu' s5 C5 E E2 hi hv hP hC5 hJ S5 hnext hret herr
    obtain ⟨e1, e2, T5, l5, u5, fv, f, bb, hT5, W5, rfl, e3, e4, hfv, hqv, hch⟩ := hJ
    rw [List.length_reverse] at hi
    rw [List.getElem?_reverse hi] at hv
    obtain ⟨j, hj⟩ : ∃ j, ss.length - 1 - i = j := ⟨_, rfl⟩
    rw [hj] at hv
    have hj1 : ss.length - i = j + 1 := by lia
    rw [hj1] at hch
    obtain ⟨a0, x0, r0, tx, ty, rfl, I0, hx0, hd0, htj⟩ := hsp.get hv
    have kk := hP02.trans hP
    have I5 := I0.mono kk
    have hx5 := hx0.mono kk hT5
    have hd5 := hd0.mono kk hT5
    have hTm := Inst.mono hT kk
    have hxi := hx0.hi
    have hszx : sz tx ≤ k := hz _ (List.mem_of_getElem? htj)
    have hstep := chain_step (M := mkM bound) (l := l) (fb := (f0, b0)) htj
    rw [hch] at hstep
    simp only [Option.bind_some, carOf] at hstep
    walk_at "z"
    refine wpAny_mono (Q := fun r s' => Ex2 fun P6 T6 => And5 (P'.le P6) (T5 <+: T6) (WK c P6 W T6 bound) (r = (decide (l = 1) && isMk bound wS tx)) (St c P6 C5 L' (upd m' (Str.ofString "spot") (.ref a0)) (WL c W T6 l5 u5) s')) (E := fun _ _ => False) ?_ ?_ (fun _ _ h => h.elim)
    · repeat walk_at "zu"
      refine eqI ?_
      by_cases h1 : (l : Int) = 1
      · have hl1 : l = 1 := by lia
        first | with_reducible refine boT (decide_eq_true h1) ?_ | with_reducible refine bnT (decide_eq_true h1) ?_ | rw [decide_eq_true h1]
        repeat walk_at "zu"
        refine methF (by walk_at "as") hTm c.fx.m_Template_marks (by rfl) ?_
        refine cW2 c.fx.m_Template_marks.keep ?_
        repeat walk_at "zu"
        refine ⟨St.K (by walk_at "as"), ?_⟩
        refine ccn (tm_marks (n := 3 * k + 4) hTm W5 hx5 (by decide +kernel) (by decide +kernel)) (by walk_at "as") (hA'.le (by walk_at "om")) ?_
        rintro v8 s8 P8 mu8 hP8 S8 ⟨T8, hT8, W8, rfl, rfl⟩
        generalize hbm : isMk bound (Str.ofString "unquote-splicing") tx = bm
        have hbm' : isMk bound wS tx = bm := hbm
        cases bm
        · repeat walk_at "zu"
          exact ⟨P8, T8, hP8, hT8, W8, by rw [hbm', Bool.and_false], S8⟩
        · repeat walk_at "zu"
          exact ⟨P8, T8, hP8, hT8, W8, by rw [hbm', decide_eq_true hl1]; rfl, S8⟩
      · first | with_reducible refine boF (decide_eq_false h1) ?_ | with_reducible refine bnF (decide_eq_false h1) ?_ | rw [decide_eq_false h1]
        have hl1 : ¬ l = 1 := fun h => h1 (by rw [h]; rfl)
        repeat walk_at "zu"
        exact ⟨P', T5, View.le.refl _, List.prefix_refl _, W5, by rw [decide_eq_false hl1]; rfl, by walk_at "as"⟩
    rintro r s6 ⟨P6, T6, hP6, hT6, W6, rfl, S6⟩
    have I6 := I5.mono hP6
    have hx6 := hx5.mono hP6 hT6
    have hd6 := hd5.mono hP6 hT6
    have hTm6 := Inst.mono hTm hP6
    have hfv6 := hfv.mono hP6 hT6
    clear S5
    cases hcond : (decide (l = 1) && isMk bound wS tx) with
    | true =>
      rw [Bool.and_eq_true] at hcond
      have hl1 : l = 1 := of_decide_eq_true hcond.1
      obtain ⟨y, rfl, hm⟩ := isMk_S hcond.2
      rw [hl1, link_S hm, ← hl1] at hstep
      clear hx5 hx0
      obtain ⟨a1, x1, y1, rfl, I1, hx1, hy1⟩ := hx6.pairInv
      obtain ⟨a2, x2, y2, rfl, I2, hx2, hy2⟩ := hy1.pairInv
      have hx2i := hx2.hi
      repeat walk_at "z"
      walk_at "z c1"
      repeat walk_at "z"
      refine methF (by walk_at "as") hTm6 c.fx.m_Template_word (by rfl) ?_
      refine cW1 c.fx.m_Template_word.keep ?_
      repeat walk_at "z"
      refine ⟨St.K (by walk_at "as"), ?_⟩
      refine ccn (tm_word (n := 3 * k + 4) hTm6 W6 (by decide +kernel)) (by walk_at "as") (hA'.le (by walk_at "om")) ?_
      rintro v8 s8 P8 mu8 hP8 S8 ⟨T8, l8, u8, hT8, W8, rfl, hw8⟩
      have I6b := I6.mono hP8
      have I1b := I1.mono hP8
      have I2b := I2.mono hP8
      repeat walk_at "z"
      with_reducible refine newLst (by walk_at "as") (fun l9 s9 _ S9 => ?_) (by simp)
      obtain ⟨P9, hP9, hl9, S9⟩ := S9.freezeL
      refine ⟨S9.K, ?_⟩
      refine cc0 (list_of1 (n := 3 * k + 4) hl9 (by simp)) (rho := WL c W T8 l8 u8) S9 (hA'.le (by walk_at "om")) ?_
      rintro v10 s10 P10 hP10 S10 hr10
      have k810 := hP9.trans hP10
      repeat (first | walk_at "z" | (with_reducible refine wpAny_execs_nil ?_; walk_at "ds"))
      rename_i s11 S11
      refine hnext (hP6.trans (hP8.trans k810)) ⟨by walk_at "z lk", by walk_at "z lk", T8, l8, u8, v10, .append y f, false, hT5.trans (hT6.trans hT8), W8.mono k810, rfl, by walk_at "z lk", by walk_at "z lk", ?_, fun h => by (cases h), ?_⟩ S11
      · exact .append (hw8.mono k810 (List.prefix_refl _)) hr10 (hx2.mono (hP8.trans k810) hT8) (hfv6.mono (hP8.trans k810) hT8)
      · rw [show ss.length - (i + 1) = j by lia]; exact hstep
    | false =>
      have hnot : l ≠ 1 ∨ ∀ x, markOf (mkM bound) tx ≠ some (wS, x) := by
        rw [Bool.and_eq_false_iff] at hcond
        rcases hcond with h | h
        · exact .inl (of_decide_eq_false h)
        · exact .inr (isMk_S' h)
      rw [link_told hnot] at hstep
      repeat walk_at "z"
      refine unpack2 hE hA'.handled (by decide +kernel) (by decide +kernel) ?_
      repeat walk_at "z"
      refine methF (by walk_at "as") hTm6 c.fx.m_Template_told (by rfl) ?_
      refine cW2 c.fx.m_Template_told.keep ?_
      repeat walk_at "z"
      refine ⟨St.K (by walk_at "as"), ?_⟩
      refine ccxn (ih.use hTm6 W6 hx6 hszx hl) (by walk_at "as") (hA'.le (by walk_at "om")) (hX.mono (kk.trans hP6) hC5) ?_
        (fun e s' hf ht => herr _ _ <| loop_err (E := Eb) hX.frames hX.fr (ht.sub (hC5.trans under_le)) fun s'' h2 => hEb e s'' (chain_none (j := j) (by rw [hstep, hf]; rfl)) h2)
      rintro v8 s8 P8 mu8 hP8 S8 ⟨T8, l8, u8, rt, fv8, f8, b8, hT8, W8, rfl, rfl, hrt, hfv8, hqv8, htold⟩
      rw [htold] at hstep
      simp only [Option.map_some, glue] at hstep
      refine ⟨_, _, _, _, rt, _, _, rfl, hrt, S8, fun s9 S9 => ?_⟩
      walk_at "ds"
      have hTm8 := Inst.mono hTm6 hP8
      have hd8 := hd6.mono hP8 hT8
      have hfv68 := hfv6.mono hP8 hT8
      obtain ⟨bw, hbw⟩ : ∃ bw, (bb && b8) = bw := ⟨_, rfl⟩
      rw [hbw] at hstep
      walk_at "z"
      refine wpAny_mono (Q := fun v s' => v = .bool bw ∧ s' = s9) (E := fun _ _ => False) ?_ ?_ (fun _ _ h => h.elim)
      · subst hbw
        cases bb <;> cases b8 <;> (repeat walk_at "z") <;> exact ⟨rfl, rfl⟩
      rintro _ _ ⟨rfl, rfl⟩
      cases bw with
      | true =>
        repeat walk_at "z"
        refine methF (by walk_at "as") hTm8 c.fx.m_Template_quoted (by rfl) ?_
        refine cW1 c.fx.m_Template_quoted.keep ?_
        repeat walk_at "z"
        refine ⟨St.K (by walk_at "as"), ?_⟩
        refine ccn (tm_quoted (n := 3 * k + 4) (v := .ref a0) hTm8 W8) (by walk_at "as") (hA'.le (by walk_at "om")) ?_
        rintro v10 s10 P10 mu10 hP10 S10 ⟨T10, l10, u10, hT10, W10, rfl, hq10⟩
        repeat (first | walk_at "z" | (with_reducible refine wpAny_execs_nil ?_; walk_at "ds"))
        rename_i s11 S11
        obtain ⟨qa, hqa1, hqa2⟩ := id hq10
        refine hnext (hP6.trans (hP8.trans hP10)) ⟨by walk_at "z lk", by walk_at "z lk", T10, l10, u10, v10, .quote (.pair tx ty), true, hT5.trans (hT6.trans (hT8.trans hT10)), W10, rfl, by walk_at "z lk", by walk_at "z lk", ?_, fun _ j' y h1 _ h2 => ?_, ?_⟩ S11
        · exact .quote hqa1 hqa2 (hd8.mono hP10 hT10)
        · have : j' = j := by lia
          subst this
          rw [hv] at h2
          cases h2
          exact hq10
        · rw [show ss.length - (i + 1) = j by lia]; exact hstep
      | false =>
        repeat walk_at "z"
        refine methF (by walk_at "as") hTm8 c.fx.m_Template_consed (by rfl) ?_
        refine cW2 c.fx.m_Template_consed.keep ?_
        repeat walk_at "z"
        refine ⟨St.K (by walk_at "as"), ?_⟩
        refine ccn (tm_consed (n := 3 * k + 4) (v := fv8) (w := fv) hTm8 W8) (by walk_at "as") (hA'.le (by walk_at "om")) ?_
        rintro v10 s10 P10 mu10 hP10 S10 ⟨T10, l10, u10, ca, hT10, W10, rfl, hw10, hr10⟩
        repeat (first | walk_at "z" | (with_reducible refine wpAny_execs_nil ?_; walk_at "ds"))
        rename_i s11 S11
        refine hnext (hP6.trans (hP8.trans hP10)) ⟨by walk_at "z lk", by walk_at "z lk", T10, l10, u10, v10, .cons f8 f, false, hT5.trans (hT6.trans (hT8.trans hT10)), W10, rfl, by walk_at "z lk", by walk_at "z lk", ?_, fun h => by (cases h), ?_⟩ S11
        · exact .cons hw10 hr10 (hfv8.mono hP10 hT10) (hfv68.mono hP10 hT10)
        · rw [show ss.length - (i + 1) = j by lia]; exact hstep
  · intro P' m' mu' s5 hP hJ S5
    obtain ⟨e1, e2, T5, l5, u5, fv, f, bb, hT5, W5, rfl, e3, e4, hfv, hqv, hch⟩ := hJ
    rw [List.length_reverse] at hqv hch
    rw [Nat.sub_self, List.drop_zero] at hch
    walk_at "ds"
    repeat walk_at "z"
    with_reducible refine newTup (by walk_at "as") (fun t9 s9 P9 hP9 ht9 S9 => ?_) (by simp)
    refine B.ret (hP02.trans (hP.trans hP9)) S9 ⟨T5, l5, u5, t9, fv, f, bb, hT5, W5.mono hP9, rfl, rfl, ht9, hfv.mono hP9 (List.prefix_refl _), fun hb y hy => ?_, hch⟩
    exact (hqv hb 0 y (by lia) (by have := (List.getElem?_eq_some_iff.mp hy).1; lia) hy).mono hP9 (List.prefix_refl _)
end
end TE19
section TE20
-- turned
section
variable {c : Cx} {P C : View} {L x dx tp : Addr} {m : Loc} {mu rho : Led} {s : Shared} {A : Around} {a b d : Value} {n : Nat} {W : Wld} {T : Tab} {bound : List Str} {last : Int} {lu : Tok}
theorem told_vec {M : List Str} {l : Nat} {ts : List Thing} : told M l (.vec ts) = (toldV M l ts).bind fun fb => if fb.2 then some (.quote (.vec ts), true) else some (.l2v fb.1, false) := by
  conv => lhs; rw [told]
  cases toldV M l ts <;> rfl
theorem told_atom {M : List Str} {l : Nat} {t : Thing} (h1 : ∀ ts, t ≠ .vec ts) (h2 : ∀ a d, t ≠ .pair a d) : told M l t = some (.quote t, true) := by
  cases t with
  | vec => exact absurd rfl (h1 _)
  | pair => exact absurd rfl (h2 _ _)
  | _ => rw [told]
theorem tm_row {k : Nat} (ih : ToldC c W bound tp k) {a0 : Addr} {x0 y0 : Value} {tx ty : Thing} {l : Nat} {u : Tok} (hT : TmV c P W tp) (hW : WK c P W T bound) (I : Inst c.w P a0 146 [("car", x0), ("cdr", y0)]) (hx : DV c.w P T x0 tx) (hy : DV c.w P T y0 ty)
    (hz : sz (.pair tx ty) ≤ k + 1) (hk : k ≤ 200) (hl : 1 ≤ l) (hm : markOf (mkM bound) (.pair tx ty) = none) :
    CallsX c (3 * k + 15) 540 [.ref tp, .ref a0, .int (l : Int) u] P (WL c W T last lu) (ToldP c W bound T (.ref a0) (told (mkM bound) l (.pair tx ty))) (told (mkM bound) l (.pair tx ty) = none) := by
  refine introX c.fx.is_Template_row [("self", .ref tp), ("template", .ref a0), ("level", .int (l : Int) u)] (fun _ _ _ _ _ _ _ _ => BindsTo.of_eq rfl) (locs rfl) (by decide +kernel) ?_
  intro env A' L' C' s₁ Qb Eb outer Bs hE hA' S' hX B hEb
  dsimp only [f_Template_row, fx_Template_row, binds0] at *
  have hsp0 := sz_pos tx
  have hsz : sz (Thing.pair tx ty) = 1 + sz tx + sz ty := by rw [sz]
  walk_at "z"
  refine unpack2 hE hA'.handled (by decide +kernel) (by decide +kernel) ?_
  repeat walk_at "z"
  refine methF (by walk_at "as") hT c.fx.m_Template_spots (by rfl) ?_
  refine cW1 c.fx.m_Template_spots.keep ?_
  repeat walk_at "z"
  refine ⟨St.K (by walk_at "as"), ?_⟩
  refine ccn (tm_spots (n := 3 * k + 3) hT hW I hx hy (by lia)) (by walk_at "as") (hA'.le (by walk_at "om")) ?_
  rintro v3 s3 P3 mu3 hP3 S3 ⟨T3, t3, k3, ss, e, ths, te, hT3, W3, rfl, rfl, ht3, hk3, hsp, hends, hno, hlen⟩
  refine ⟨_, _, _, _, t3, _, _, rfl, ht3, S3, fun s4 S4 => ?_⟩
  walk_at "ds"
  have htd := told_chain (l := l) hsp (by
    intro y hy
    rcases List.mem_cons.mp hy with rfl | hy
    · exact hm
    · exact hno y hy)
  have hsize := hsp.size
  have hte : sz te ≤ k := by
    cases hsp with
    | cons _ _ hr => have := hr.size.1; lia
  have hTm3 := Inst.mono hT hP3
  walk_at "z"
  refine unpack2 hE hA'.handled (by decide +kernel) (by decide +kernel) ?_
  repeat walk_at "z"
  refine methF (by walk_at "as") hTm3 c.fx.m_Template_told (by rfl) ?_
  refine cW2 c.fx.m_Template_told.keep ?_
  repeat walk_at "z"
  refine ⟨St.K (by walk_at "as"), ?_⟩
  refine ccxn (ih.use hTm3 W3 hsp.tail_ hte hl) (by walk_at "as") (hA'.le (by walk_at "om")) (hX.mono hP3 (View.le.refl _)) ?_ (fun e s' hf ht => hEb e s' (by rw [htd, hf]; rfl) (ht.two under_le))
  rintro v5 s5 P5 mu5 hP5 S5 ⟨T5, l5, u5, rt, fv, f, bb, hT5, W5, rfl, rfl, hrt, hfv, hqv, htold⟩
  refine ⟨_, _, _, _, rt, _, _, rfl, hrt, S5, fun s6 S6 => ?_⟩
  walk_at "ds"
  rw [htold] at htd
  simp only [Option.bind_some] at htd
  have hTm5 := Inst.mono hTm3 hP5
  repeat walk_at "z"
  refine methF (by walk_at "as") hTm5 c.fx.m_Template_chained (by rfl) ?_
  refine cW4 c.fx.m_Template_chained.keep ?_
  repeat walk_at "z"
  refine ⟨St.K (by walk_at "as"), ?_⟩
  refine ccxn (tm_chained (k := k) (u := u) ih hTm5 W5 (hk3.mono hP5) (hsp.mono hP5 hT5) (fun y hy => by have := hsize.2 y hy; lia) (by rw [List.length_cons]; lia) hk hl hfv) (by walk_at "as") (hA'.le (by walk_at "om")) (hX.mono (hP3.trans hP5) (View.le.refl _)) ?_
    (fun e s' hf ht => hEb e s' (by rw [htd, hf]) (ht.two under_le))
  rintro v7 s7 P7 mu7 hP7 S7 ⟨T7, l7, u7, rt7, fv7, f7, b7, hT7, W7, rfl, rfl, hrt7, hfv7, hqv7, hch⟩
  refine B.ret (hP3.trans (hP5.trans hP7)) S7 ⟨T7, l7, u7, rt7, fv7, f7, b7, hT3.trans (hT5.trans hT7), W7, rfl, rfl, hrt7, hfv7, fun hb => hqv7 hb _ rfl, ?_⟩
  rw [htd, hch]
theorem tm_vector {k : Nat} (ih : ToldC c W bound tp k) {a0 al : Addr} {vs : List Value} {ts : List Thing} {l : Nat} {u : Tok} (hT : TmV c P W tp) (hW : WK c P W T bound) (I : Inst c.w P a0 167 [("things", .ref al)]) (hal : IsLst P al vs) (hd : DVs c.w P T vs ts)
    (hz : sz (.vec ts) ≤ k + 1) (hk : k ≤ 200) (hl : 1 ≤ l) :
    CallsX c (3 * k + 15) 519 [.ref tp, .ref a0, .int (l : Int) u] P (WL c W T last lu) (ToldP c W bound T (.ref a0) (told (mkM bound) l (.vec ts))) (told (mkM bound) l (.vec ts) = none) := by
  refine introX c.fx.is_Template_vector [("self", .ref tp), ("template", .ref a0), ("level", .int (l : Int) u)] (fun _ _ _ _ _ _ _ _ => BindsTo.of_eq rfl) (locs rfl) (by decide +kernel) ?_
  intro env A' L' C' s₁ Qb Eb outer Bs hE hA' S' hX B hEb
  dsimp only [f_Template_vector, fx_Template_vector, binds0] at *
  have hsz : sz (Thing.vec ts) = 1 + szs ts := by rw [sz]
  have hrow := sz_row ts .nil
  have hnil : sz Thing.nil = 1 := by rw [sz]
  have hvl := hd.length
  have hsl := szs_len ts
  have hd0 : DV c.w P T (.ref a0) (.vec ts) := .vec I hal hd
  repeat walk_at "z"
  refine methF (by walk_at "as") hT c.fx.m_Template_spots_of (by rfl) ?_
  refine cW1 c.fx.m_Template_spots_of.keep ?_
  repeat walk_at "z"
  refine ⟨St.K (by walk_at "as"), ?_⟩
  refine cc0 (tm_spots_of (n := 3 * k + 3) hal hd (by lia)) (rho := WL c W T last lu) (by walk_at "as") (hA'.le (by walk_at "om")) ?_
  rintro v3 s3 P3 hP3 S3 ⟨k3, ss, v0, ths, rfl, hk3, hsp, hl1, hl2⟩
  have htd := toldV_chain (M := mkM bound) (l := l) hsp (ts := ts) rfl rfl
  have hsize := hsp.size
  have hTm3 := Inst.mono hT hP3
  have W3 := hW.mono hP3
  repeat walk_at "z"
  refine unpack2 hE hA'.handled (by decide +kernel) (by decide +kernel) ?_
  repeat walk_at "z"
  refine methF (by walk_at "as") hTm3 c.fx.m_Template_chained (by rfl) ?_
  refine cW4 c.fx.m_Template_chained.keep ?_
  repeat walk_at "z"
  refine methF (by walk_at "as") hTm3 c.fx.m_Template_quoted (by rfl) ?_
  refine cW1 c.fx.m_Template_quoted.keep ?_
  repeat walk_at "z"
  refine ⟨St.K (by walk_at "as"), ?_⟩
  refine ccn (tm_quoted (n := 3 * k + 5) (v := .ref 44) hTm3 W3) (by walk_at "as") (hA'.le (by walk_at "om")) ?_
  rintro v4 s4 P4 mu4 hP4 S4 ⟨T4, l4, u4, hT4, W4, rfl, ⟨qa, hqa1, hqa2⟩⟩
  repeat walk_at "z"
  refine ⟨St.K (by walk_at "as"), ?_⟩
  refine ccxn (tm_chained (k := k) (u := u) (f0 := .quote .nil) ih (Inst.mono hTm3 hP4) W4 (hk3.mono hP4) (hsp.mono hP4 hT4) (fun y hy => by have := hsize.2 y hy; lia) (by lia) hk hl (.quote hqa1 hqa2 .nil)) (by walk_at "as") (hA'.le (by walk_at "om")) (hX.mono (hP3.trans hP4) (View.le.refl _)) ?_
    (fun e s' hf ht => hEb e s' (by rw [told_vec, htd, hf]; rfl) (ht.two under_le))
  rintro v5 s5 P5 mu5 hP5 S5 ⟨T5, l5, u5, rt, fv, f, bb, hT5, W5, rfl, rfl, hrt, hfv, _, hch⟩
  refine ⟨_, _, _, _, rt, _, _, rfl, hrt, S5, fun s6 S6 => ?_⟩
  walk_at "ds"
  have k35 := hP3.trans (hP4.trans hP5)
  have t35 := hT4.trans hT5
  have htold : told (mkM bound) l (.vec ts) = if bb then some (.quote (.vec ts), true) else some (.l2v f, false) := by rw [told_vec, htd, hch]; rfl
  have hTm5 := Inst.mono hT k35
  cases bb with
  | true =>
    repeat walk_at "z"
    refine methF (by walk_at "as") hTm5 c.fx.m_Template_quoted (by rfl) ?_
    refine cW1 c.fx.m_Template_quoted.keep ?_
    repeat walk_at "z"
    refine ⟨St.K (by walk_at "as"), ?_⟩
    refine ccn (tm_quoted (n := 3 * k + 5) (v := .ref a0) hTm5 W5) (by walk_at "as") (hA'.le (by walk_at "om")) ?_
    rintro v7 s7 P7 mu7 hP7 S7 ⟨T7, l7, u7, hT7, W7, rfl, hq7⟩
    repeat walk_at "z"
    with_reducible refine newTup (by walk_at "as") (fun t8 s8 P8 hP8 ht8 S8 => ?_) (by simp)
    obtain ⟨qb, hqb1, hqb2⟩ := id hq7
    refine B.ret (k35.trans (hP7.trans hP8)) S8 ⟨T7, l7, u7, t8, v7, .quote (.vec ts), true, t35.trans hT7, W7.mono hP8, rfl, rfl, ht8, ?_, fun _ => hq7.mono hP8 (List.prefix_refl _), htold⟩
    exact .quote (hqb1.mono hP8 (List.prefix_refl _)) (hqb2.mono hP8) ((hd0.mono k35 t35).mono (hP7.trans hP8) hT7)
  | false =>
    repeat (first | walk_at "z" | (with_reducible refine wpAny_execs_nil ?_; walk_at "ds"))
    walk_at "z c1"
    repeat walk_at "z"
    refine methF (by walk_at "as") hTm5 c.fx.m_Template_word (by rfl) ?_
    refine cW1 c.fx.m_Template_word.keep ?_
    repeat walk_at "z"
    refine ⟨St.K (by walk_at "as"), ?_⟩
    refine ccn (tm_word (n := 3 * k + 5) hTm5 W5 (by decide +kernel)) (by walk_at "as") (hA'.le (by walk_at "om")) ?_
    rintro v7 s7 P7 mu7 hP7 S7 ⟨T7, l7, u7, hT7, W7, rfl, hw7⟩
    repeat walk_at "z"
    with_reducible refine newLst (by walk_at "as") (fun l8 s8 _ S8 => ?_) (by simp)
    obtain ⟨P8, hP8, hl8, S8⟩ := S8.freezeL
    refine ⟨S8.K, ?_⟩
    refine cc0 (list_of1 (n := 3 * k + 5) hl8 (by simp)) (rho := WL c W T7 l7 u7) S8 (hA'.le (by walk_at "om")) ?_
    rintro v9 s9 P9 hP9 S9 hr9
    repeat walk_at "z"
    with_reducible refine newTup (by walk_at "as") (fun t10 s10 P10 hP10 ht10 S10 => ?_) (by simp)
    have k810 := hP8.trans (hP9.trans hP10)
    refine B.ret (k35.trans (hP7.trans k810)) S10 ⟨T7, l7, u7, t10, v9, .l2v f, false, t35.trans hT7, W7.mono k810, rfl, rfl, ht10, ?_, fun h => by (cases h), htold⟩
    exact .l2v (hw7.mono k810 (List.prefix_refl _)) (hr9.mono hP10) (hfv.mono (hP7.trans k810) hT7)
theorem tm_told (tp : Addr) : ∀ k : Nat, k ≤ 200 → ToldC c W bound tp k := by
  intro k
  induction k with
  | zero =>
    intro _
    constructor
    intro P T v t l last lu u _ _ _ hk; have := sz_pos t; omega
  | succ k ih =>
  intro hk
  have ih := ih (by lia)
  have hk' : k ≤ 200 := by lia
  constructor
  intro P T v t l last lu u hT hW hd hz hl
  refine introX c.fx.is_Template_told [("self", .ref tp), ("template", v), ("level", .int (l : Int) u)] (fun _ _ _ _ _ _ _ _ => BindsTo.of_eq rfl) (locs rfl) (by decide +kernel) ?_
  intro env A' L' C' s₁ Qb Eb outer Bs hE hA' S' hX B hEb
  replace hA' : Room A' (3 * k + 15) := hA'.le (by lia)
  dsimp only [f_Template_told, fx_Template_told, binds0] at *
  have hd0 := hd
  rcases hd.vecOr with ⟨a0, al, vs, ts, rfl, rfl, I, hal, hr⟩ | ⟨nV, hnv⟩
  · repeat walk_at "z"
    refine methF (by walk_at "as") hT c.fx.m_Template_vector (by rfl) ?_
    refine cW2 c.fx.m_Template_vector.keep ?_
    repeat walk_at "z"
    refine ⟨St.K (by walk_at "as"), ?_⟩
    refine ccxn (tm_vector (u := u) ih hT hW I hal hr hz hk' hl) (by walk_at "as") (hA'.le (by walk_at "om")) hX ?_ (fun e s' hf ht => hEb e s' hf (ht.two under_le))
    rintro v7 s7 P7 mu7 hP7 S7 h7
    exact B.ret hP7 S7 h7
  rcases hd.pairOr with ⟨a0, x0, y0, tx, ty, rfl, rfl, I, hx, hy⟩ | ⟨nP, hnp⟩
  rotate_left
  · repeat (first | walk_at "z" | (with_reducible refine wpAny_execs_nil ?_; walk_at "ds"))
    refine methF (by walk_at "as") hT c.fx.m_Template_quoted (by rfl) ?_
    refine cW1 c.fx.m_Template_quoted.keep ?_
    repeat walk_at "z"
    refine ⟨St.K (by walk_at "as"), ?_⟩
    refine ccn (tm_quoted (n := 3 * k + 5) (v := v) hT hW) (by walk_at "as") (hA'.le (by walk_at "om")) ?_
    rintro v7 s7 P7 mu7 hP7 S7 ⟨T7, l7, u7, hT7, W7, rfl, hq7⟩
    repeat walk_at "z"
    with_reducible refine newTup (by walk_at "as") (fun t8 s8 P8 hP8 ht8 S8 => ?_) (by simp)
    obtain ⟨qb, hqb1, hqb2⟩ := id hq7
    refine B.ret (hP7.trans hP8) S8 ⟨T7, l7, u7, t8, v7, .quote _, true, hT7, W7.mono hP8, rfl, rfl, ht8, .quote (hqb1.mono hP8 (List.prefix_refl _)) (hqb2.mono hP8) (hd0.mono (hP7.trans hP8) hT7), fun _ => hq7.mono hP8 (List.prefix_refl _), told_atom hnv hnp⟩
  repeat (first | walk_at "z" | (with_reducible refine wpAny_execs_nil ?_; walk_at "ds"))
  refine methF (by walk_at "as") hT c.fx.m_Template_mark (by rfl) ?_
  refine cW1 c.fx.m_Template_mark.keep ?_
  repeat walk_at "z"
  refine ⟨St.K (by walk_at "as"), ?_⟩
  refine ccn (tm_mark (n := 3 * k + 5) hT hW hd0) (by walk_at "as") (hA'.le (by walk_at "om")) ?_
  rintro v7 s7 P7 mu7 hP7 S7 ⟨T7, hT7, W7, rfl, u7, rfl⟩
  have hT7' := Inst.mono hT hP7
  have hd7 := hd0.mono hP7 hT7
  generalize hw0 : wordOf (mkM bound) (.pair tx ty) = w0
  repeat walk_at "z"
  refine eqS ?_
  cases hm : markOf (mkM bound) (.pair tx ty) with
  | none =>
    have e : w0 = Str.ofString "" := by rw [← hw0]; unfold wordOf; rw [hm]
    first | with_reducible refine boT (decide_eq_true e) ?_ | with_reducible refine bnT (decide_eq_true e) ?_ | rw [decide_eq_true e]
    repeat walk_at "z"
    refine methF (by walk_at "as") hT7' c.fx.m_Template_row (by rfl) ?_
    refine cW2 c.fx.m_Template_row.keep ?_
    repeat walk_at "z"
    refine ⟨St.K (by walk_at "as"), ?_⟩
    refine ccxn (tm_row (u := u) ih hT7' W7 (I.mono hP7) (hx.mono hP7 hT7) (hy.mono hP7 hT7) hz hk' hl hm) (by walk_at "as") (hA'.le (by walk_at "om")) (hX.mono hP7 (View.le.refl _)) ?_ (fun e s' hf ht => hEb e s' hf (ht.two under_le))
    rintro v8 s8 P8 mu8 hP8 S8 ⟨T8, l8, u8, rt8, fv8, f8, b8, hT8, q2, q3, q4, q5, q6, q7, q8⟩
    exact B.ret (hP7.trans hP8) S8 ⟨T8, l8, u8, rt8, fv8, f8, b8, hT7.trans hT8, q2, q3, q4, q5, q6, q7, q8⟩
  | some wx =>
    obtain ⟨w, y⟩ := wx
    have ew : w0 = w := hw0.symm.trans (wordOf_some hm)
    subst ew
    have hwne : w0 ≠ Str.ofString "" := by
      rcases mkM_ok bound w0 (markOf_some hm).2 with h | h | h <;> rw [h] <;> decide +kernel
    first | with_reducible refine boF (decide_eq_false hwne) ?_ | with_reducible refine bnF (decide_eq_false hwne) ?_ | rw [decide_eq_false hwne]
    repeat (first | walk_at "z" | (with_reducible refine wpAny_execs_nil ?_; walk_at "ds"))
    refine methF (by walk_at "as") hT7' c.fx.m_Template_marked (by rfl) ?_
    refine cW3 c.fx.m_Template_marked.keep ?_
    repeat walk_at "z"
    refine ⟨St.K (by walk_at "as"), ?_⟩
    refine ccxn (tm_marked (u := u) ih hT7' W7 hd7 hz hk' hl hm) (by walk_at "as") (hA'.le (by walk_at "om")) (hX.mono hP7 (View.le.refl _)) ?_ (fun e s' hf ht => hEb e s' hf (ht.two under_le))
    rintro v8 s8 P8 mu8 hP8 S8 ⟨T8, l8, u8, rt8, fv8, f8, b8, hT8, q2, q3, q4, q5, q6, q7, q8⟩
    exact B.ret (hP7.trans hP8) S8 ⟨T8, l8, u8, rt8, fv8, f8, b8, hT7.trans hT8, q2, q3, q4, q5, q6, q7, q8⟩
/-- quasi -/
theorem quasi_ {v : Value} {t : Thing} (hW : WK c P W T bound) (hd : DV c.w P T v t) (hz : sz t ≤ 200) :
    CallsX c 620 561 [v, .ref W.sx, .ref W.wx] P (WL c W T last lu) (fun P' mu' r => Ex5 fun T' l' u' f b => And6 (T <+: T') (WK c P' W T' bound) (mu' = WL c W T' l' u') (FV c P' W T' r f) ((b = true → QV c P' W T' r v)) (told (mkM bound) 1 t = some (f, b))) (told (mkM bound) 1 t = none) := by
  refine introX (n := 619) c.fx.is_quasi [("template", v), ("scope", .ref W.sx), ("world", .ref W.wx)] (fun _ _ _ _ _ _ _ _ => BindsTo.of_eq rfl) (locs rfl) (by decide +kernel) ?_
  intro env A' L' C' s₁ Qb Eb outer Bs hE hA' S' hX B hEb
  dsimp only [f_quasi, fx_quasi, binds0] at *
  repeat walk_at "z"
  walk_at "z c2"
  repeat walk_at "z"
  refine ⟨St.K (by walk_at "as"), ?_⟩
  refine make_Template (n := 600) (by walk_at "as") (hA'.le (by walk_at "om")) (fun x2 s2 P2 hP2 S2 I2 => ?_)
  refine methF S2 I2 c.fx.m_Template_told (by rfl) ?_
  refine cW2 c.fx.m_Template_told.keep ?_
  repeat walk_at "z"
  refine ⟨St.K (by walk_at "as"), ?_⟩
  refine ccxn ((tm_told x2 200 (Nat.le_refl _)).use (l := 1) I2 (hW.mono hP2) (hd.mono hP2 (List.prefix_refl _)) hz (Nat.le_refl _)) (by walk_at "as") (hA'.le (by walk_at "om")) (hX.mono hP2 (View.le.refl _)) ?_ (fun e s' hf ht => hEb e s' hf (ht.two under_le))
  rintro v5 s5 P5 mu5 hP5 S5 ⟨T5, l5, u5, rt, fv, f, bb, hT5, W5, rfl, rfl, hrt, hfv, hqv, htold⟩
  have hfi := hfv.hi
  repeat walk_at "z"
  exact B.ret (hP2.trans hP5) (by walk_at "as") ⟨T5, l5, u5, f, bb, hT5, W5, rfl, hfv, hqv, htold⟩
end
end TE20
section TL2
-- turned
/-! sizes -/
mutual
theorem msz_fr : ∀ t : Thing, msz (frozen t) ≤ sz t
  | .int _ => by unfold frozen; simp only [msz, sz]; omega
  | .sym _ => by unfold frozen; simp only [msz, sz]; omega
  | .nil => by unfold frozen; simp only [msz, sz]; omega
  | .vec ts => by have := msz_frs ts; unfold frozen; simp only [msz, sz]; lia
  | .pair a d => by have := msz_fr a; have := msz_fr d; unfold frozen; simp only [msz, sz]; lia
theorem msz_frs : ∀ ts : List Thing, msz (frozens ts) ≤ szs ts
  | [] => by unfold frozens; simp only [msz, szs]; omega
  | t :: r => by have := msz_fr t; have := msz_frs r; unfold frozens; simp only [msz, szs]; lia
end
theorem msz_pos : ∀ m : Mean, 1 ≤ msz m := by intro m; cases m <;> simp only [msz] <;> lia
theorem msz_mrow : ∀ a d : Mean, msz (mrow (spine a).1 d) + msz (spine a).2 = msz a + msz d
  | .int _, d => by simp only [spine, mrow]; lia
  | .sym _, d => by simp only [spine, mrow]; lia
  | .nil, d => by simp only [spine, mrow]; lia
  | .vecOf _, d => by simp only [spine, mrow]; lia
  | .call _, d => by simp only [spine, mrow]; lia
  | .joined _ _, d => by simp only [spine, mrow]; lia
  | .pair x y, d => by have := msz_mrow y d; simp only [spine, mrow, msz]; lia
theorem msz_joined (a d : Mean) : msz (joined a d) ≤ 1 + msz a + msz d := by
  have h := msz_mrow a d
  unfold joined
  split
  · lia
  · simp only [msz]; lia
noncomputable def fsz : Form → Nat
  | .hole t => 10 + sz t
  | .quote t => sz t
  | .cons f g => 1 + fsz f + fsz g
  | .append t g => 11 + sz t + fsz g
  | .l2v f => 1 + fsz f
theorem msz_done : ∀ f : Form, msz (done f) ≤ fsz f
  | .hole t => by unfold done fsz; exact msz_hole t
  | .quote t => by unfold done fsz; exact msz_fr t
  | .cons f g => by have := msz_done f; have := msz_done g; unfold done fsz; simp only [msz]; lia
  | .append t g => by
    have h1 := msz_done g
    have h2 := msz_hole t
    have h3 := msz_joined (hole t) (done g)
    unfold done fsz; lia
  | .l2v f => by have := msz_done f; unfold done fsz; simp only [msz]; lia
theorem depth_encM : ∀ m : Mean, (encM m).depth ≤ 2 * msz m
  | .int _ => by unfold encM; simp only [PyData.depth]; lia
  | .sym _ => by unfold encM; simp only [PyData.depth, PyData.depthAll, msz]; lia
  | .nil => by unfold encM; simp only [PyData.depth, PyData.depthAll, msz]; lia
  | .vecOf m => by have := depth_encM m; unfold encM; simp only [PyData.depth, PyData.depthAll, msz]; lia
  | .pair a d => by have := depth_encM a; have := depth_encM d; unfold encM; simp only [PyData.depth, PyData.depthAll, msz]; lia
  | .call t => by have := depth_enc t; unfold encM; simp only [PyData.depth, PyData.depthAll, msz]; lia
  | .joined a d => by have := depth_encM a; have := depth_encM d; unfold encM; simp only [PyData.depth, PyData.depthAll, msz]; lia
/-! what is told is in bounds -/
theorem TOk_row : ∀ {ts : List Thing}, PyData.canLayAll0 (encs ts) = true → TOk (row ts .nil)
  | [], _ => by unfold TOk row enc; decide +kernel
  | t :: r, h => by
    simp only [encs, PyData.canLayAll0, Bool.and_eq_true] at h
    have h1 := h.1
    have h2 := TOk_row h.2
    unfold TOk at h2 ⊢
    simp only [row, enc, PyData.canLay0, PyData.canLayAll0, h1, h2]; decide +kernel
theorem TOk.mk {w : Str} {x : Thing} (h : TOk (.pair (.sym w) (.pair x .nil))) : TOk x := h.pair.2.pair.1
theorem link_fok {M : List Str} {l N N2 : Nat} {t a : Thing} {fb : Form × Bool} {f : Form} {b : Bool} (ha : ∀ f b, told M l a = some (f, b) → fok f ∧ fdep f ≤ sz a ∧ fsz f ≤ 12 * sz a) (oa : TOk a) (za : sz a ≤ 200) (ot : TOk t) (zt : sz t ≤ 200)
    (hf : fok fb.1) (h1 : sz a + 1 ≤ N) (h2 : fdep fb.1 + 1 ≤ N) (n1 : sz t ≤ N2) (n2 : 1 + 12 * sz a + fsz fb.1 ≤ N2) (h : link M l t a fb = some (f, b)) : fok f ∧ fdep f ≤ N ∧ fsz f ≤ N2 := by
  have main : (told M l a).map (glue t fb) = some (f, b) → fok f ∧ fdep f ≤ N ∧ fsz f ≤ N2 := by
    intro h
    obtain ⟨ob, h3, h4⟩ := Option.map_eq_some_iff.mp h
    obtain ⟨k1, k2, k3⟩ := ha ob.1 ob.2 h3
    unfold glue at h4
    split at h4
    · cases h4
      exact ⟨⟨ot, zt⟩, by unfold fdep; lia, by unfold fsz; omega⟩
    · cases h4
      exact ⟨⟨k1, hf⟩, by unfold fdep; lia, by unfold fsz; lia⟩
  unfold link at h
  split at h
  · rename_i w x hm
    split at h
    · cases h
      split at hm
      · obtain ⟨e, _⟩ := markOf_some hm
        subst e
        have hz : sz (Thing.pair (.sym w) (.pair x .nil)) = 1 + 1 + (1 + sz x + 1) := by simp only [sz]
        exact ⟨⟨⟨oa.mk, by lia⟩, hf⟩, by unfold fdep; lia, by unfold fsz; lia⟩
      · cases hm
    · exact main h
  · exact main h
mutual
theorem told_fok {M : List Str} : ∀ (l : Nat) (t : Thing), TOk t → sz t ≤ 200 → ∀ f b, told M l t = some (f, b) → fok f ∧ fdep f ≤ sz t ∧ fsz f ≤ 12 * sz t
  | l, .int i, ok, hz, f, b, h => by rw [told] at h; cases h; exact ⟨⟨ok, hz⟩, sz_pos _, by unfold fsz; lia⟩
  | l, .sym i, ok, hz, f, b, h => by rw [told] at h; cases h; exact ⟨⟨ok, hz⟩, sz_pos _, by unfold fsz; lia⟩
  | l, .nil, ok, hz, f, b, h => by rw [told] at h; cases h; exact ⟨⟨ok, hz⟩, sz_pos _, by unfold fsz; lia⟩
  | l, .vec ts, ok, hz, f, b, h => by
    have hs : sz (.vec ts) = 1 + szs ts := by rw [sz]
    have ih := toldV_fok (M := M) l ts ok.vec (by lia)
    rw [told_vec] at h
    obtain ⟨fb, h1, h2⟩ := Option.bind_eq_some_iff.mp h
    obtain ⟨k1, k2, k3⟩ := ih fb.1 fb.2 h1
    split at h2
    · cases h2; exact ⟨⟨ok, hz⟩, sz_pos _, by unfold fsz; lia⟩
    · cases h2
      exact ⟨k1, by unfold fdep; lia, by unfold fsz; lia⟩
  | l, .pair a d, ok, hz, f, b, h => by
    have hs : sz (.pair a d) = 1 + sz a + sz d := by rw [sz]
    have pa := sz_pos a
    have pd := sz_pos d
    have iha := told_fok (M := M) l a ok.pair.1 (by lia)
    have ihd := fun l' => told_fok (M := M) l' d ok.pair.2 (by lia)
    cases hm : markOf M (.pair a d) with
    | none =>
      rw [told_pair hm] at h
      obtain ⟨fb, h1, h2⟩ := Option.bind_eq_some_iff.mp h
      obtain ⟨k1, k2, k3⟩ := ihd l fb.1 fb.2 h1
      exact link_fok iha ok.pair.1 (by lia) ok hz k1 (by lia) (by lia) (by lia) (by lia) h2
    | some wx =>
      obtain ⟨w, x⟩ := wx
      obtain ⟨e, _⟩ := markOf_some hm
      rw [told, hm] at h
      dsimp only at h
      split at h
      · cases h
        cases e
        exact ⟨⟨ok.mk, by simp only [sz] at hs hz ⊢; lia⟩, by unfold fdep; lia, by unfold fsz; simp only [sz]; lia⟩
      · split at h
        · cases h
        · split at h
          · cases h
          · rename_i f1 b1 h1
            obtain ⟨k1, k2, k3⟩ := ihd _ f1 b1 h1
            split at h
            · cases h; exact ⟨⟨ok, hz⟩, sz_pos _, by unfold fsz; lia⟩
            · cases h
              have e1 : fdep (Form.quote a) = 1 := rfl
              have e2 : fsz (Form.quote a) = sz a := rfl
              exact ⟨⟨⟨ok.pair.1, by lia⟩, k1⟩, by unfold fdep; lia, by unfold fsz; lia⟩
theorem toldV_fok {M : List Str} : ∀ (l : Nat) (ts : List Thing), PyData.canLayAll0 (encs ts) = true → szs ts ≤ 200 → ∀ f b, toldV M l ts = some (f, b) → fok f ∧ fdep f ≤ szs ts ∧ fsz f ≤ 12 * szs ts
  | l, [], ok, hz, f, b, h => by
    rw [toldV] at h; cases h
    exact ⟨⟨by unfold TOk enc; decide +kernel, by decide⟩, by decide, by decide⟩
  | l, a :: ts, ok, hz, f, b, h => by
    have hs : szs (a :: ts) = 1 + sz a + szs ts := by rw [szs]
    have hr := sz_row (a :: ts) .nil
    have hn : sz Thing.nil = 1 := by rw [sz]
    have okr := TOk_row ok
    simp only [encs, PyData.canLayAll0, Bool.and_eq_true] at ok
    have iha := told_fok (M := M) l a ok.1 (by lia)
    have iht := toldV_fok (M := M) l ts ok.2 (by lia)
    have e : toldV M l (a :: ts) = (toldV M l ts).bind (link M l (row (a :: ts) .nil) a) := by
      rw [toldV]
      cases toldV M l ts <;> rfl
    rw [e] at h
    obtain ⟨fb, h1, h2⟩ := Option.bind_eq_some_iff.mp h
    obtain ⟨k1, k2, k3⟩ := iht fb.1 fb.2 h1
    have pa := sz_pos a
    have ps : 1 ≤ szs ts := by cases ts <;> simp only [szs] <;> lia
    exact link_fok iha ok.1 (by lia) okr (by lia) k1 (by lia) (by lia) (by lia) (by lia) h2
end
/-! what is frozen is what it is -/
theorem eqv_vecOf {m y : Mean} (h : PyData.eqv (encM m) (encM (.vecOf y)) = true) : Ex1 fun x => m = .vecOf x ∧ PyData.eqv (encM x) (encM y) = true := by
  cases m with
  | vecOf m => exact ⟨m, rfl, eqv_one (eqv_tag (a := "vector-of") (b := "vector-of") h).2⟩
  | int i => exact absurd (show false = true from h) (by decide)
  | sym s => exact absurd (eqv_tag (a := "sym") (b := "vector-of") h).1 (by decide +kernel)
  | nil => exact absurd (eqv_tag (a := "nil") (b := "vector-of") h).1 (by decide +kernel)
  | pair a d => exact absurd (eqv_tag (a := "pair") (b := "vector-of") h).1 (by decide +kernel)
  | call t => exact absurd (eqv_tag (a := "call") (b := "vector-of") h).1 (by decide +kernel)
  | joined a d => exact absurd (eqv_tag (a := "joined") (b := "vector-of") h).1 (by decide +kernel)
theorem eqv_pr {m a d : Mean} (h : PyData.eqv (encM m) (encM (.pair a d)) = true) : Ex2 fun x y => And3 (m = .pair x y) (PyData.eqv (encM x) (encM a) = true) (PyData.eqv (encM y) (encM d) = true) := by
  cases m with
  | pair x y => exact ⟨x, y, rfl, (eqv_two (eqv_tag (a := "pair") (b := "pair") h).2).1, (eqv_two (eqv_tag (a := "pair") (b := "pair") h).2).2⟩
  | int i => exact absurd (show false = true from h) (by decide)
  | sym s => exact absurd (eqv_tag (a := "sym") (b := "pair") h).1 (by decide +kernel)
  | nil => exact absurd (eqv_tag (a := "nil") (b := "pair") h).1 (by decide +kernel)
  | vecOf m => exact absurd (eqv_tag (a := "vector-of") (b := "pair") h).1 (by decide +kernel)
  | call t => exact absurd (eqv_tag (a := "call") (b := "pair") h).1 (by decide +kernel)
  | joined a d => exact absurd (eqv_tag (a := "joined") (b := "pair") h).1 (by decide +kernel)
theorem eqv_i {m : Mean} {i : Int} (h : PyData.eqv (encM m) (encM (.int i)) = true) : m = .int i := by
  cases m <;> simp [encM, PyData.eqv] at h ⊢
  exact h
theorem eqv_s {m : Mean} {s : Str} (h : PyData.eqv (encM m) (encM (.sym s)) = true) : m = .sym s := by
  cases m with
  | sym x =>
    have h' : (x == s) = true := eqv_one (eqv_tag (a := "sym") (b := "sym") h).2
    rw [eq_of_beq h']
  | int i => exact absurd (show false = true from h) (by decide)
  | nil => exact absurd (eqv_tag (a := "nil") (b := "sym") h).1 (by decide +kernel)
  | pair a d => exact absurd (eqv_tag (a := "pair") (b := "sym") h).1 (by decide +kernel)
  | vecOf m => exact absurd (eqv_tag (a := "vector-of") (b := "sym") h).1 (by decide +kernel)
  | call t => exact absurd (eqv_tag (a := "call") (b := "sym") h).1 (by decide +kernel)
  | joined a d => exact absurd (eqv_tag (a := "joined") (b := "sym") h).1 (by decide +kernel)
theorem eqv_n {m : Mean} (h : PyData.eqv (encM m) (encM .nil) = true) : m = .nil := by
  cases m with
  | nil => rfl
  | int i => exact absurd (show false = true from h) (by decide)
  | sym s => exact absurd (eqv_tag (a := "sym") (b := "nil") h).1 (by decide +kernel)
  | pair a d => exact absurd (eqv_tag (a := "pair") (b := "nil") h).1 (by decide +kernel)
  | vecOf m => exact absurd (eqv_tag (a := "vector-of") (b := "nil") h).1 (by decide +kernel)
  | call t => exact absurd (eqv_tag (a := "call") (b := "nil") h).1 (by decide +kernel)
  | joined a d => exact absurd (eqv_tag (a := "joined") (b := "nil") h).1 (by decide +kernel)
mutual
theorem eqv_fr : ∀ (t : Thing) (m : Mean), PyData.eqv (encM m) (encM (frozen t)) = true → m = frozen t
  | .int i, m, h => by
    unfold frozen at h ⊢; exact eqv_i h
  | .sym s, m, h => by
    unfold frozen at h ⊢; exact eqv_s h
  | .nil, m, h => by
    unfold frozen at h ⊢; exact eqv_n h
  | .vec ts, m, h => by
    have ih := eqv_frs ts
    unfold frozen at h ⊢
    obtain ⟨x, e, h1⟩ := eqv_vecOf h
    rw [e, ih x h1]
  | .pair a d, m, h => by
    have iha := eqv_fr a
    have ihd := eqv_fr d
    unfold frozen at h ⊢
    obtain ⟨x, y, e, h1, h2⟩ := eqv_pr h
    rw [e, iha x h1, ihd y h2]
theorem eqv_frs : ∀ (ts : List Thing) (m : Mean), PyData.eqv (encM m) (encM (frozens ts)) = true → m = frozens ts
  | [], m, h => by
    unfold frozens at h ⊢; exact eqv_n h
  | a :: ts, m, h => by
    have iha := eqv_fr a
    have ihd := eqv_frs ts
    unfold frozens at h ⊢
    obtain ⟨x, y, e, h1, h2⟩ := eqv_pr h
    rw [e, iha x h1, ihd y h2]
end
/-! its text is short -/
structure Shrt (d : PyData) (n : Nat) : Prop where
  lv : d.leavesShort 13 = true
  bk : d.bulk ≤ 40 * n
  sh : d.showable = true
theorem univ_short : ∀ x ∈ Univ, (x.cps.toList.all fun c => decide (c < 16 ^ 8)) = true ∧ x.cps.size ≤ 16 := by decide +kernel
theorem Shrt.tag {w : Str} {d : PyData} {n : Nat} (hw : (w.cps.toList.all fun c => decide (c < 16 ^ 8)) = true ∧ w.cps.size ≤ 16) (h : Shrt d n) : Shrt (.tuple [.str w, d]) (n + 1) := by
  refine ⟨?_, ?_, ?_⟩
  · simp only [PyData.leavesShort, PyData.leavesShortAll, h.lv, hw.1]; rfl
  · have := h.bk; have := hw.2; simp only [PyData.bulk, PyData.bulkAll]; lia
  · simp only [PyData.showable, PyData.showableAll, h.sh]; rfl
theorem Shrt.pr {w : Str} {d e : PyData} {n k : Nat} (hw : (w.cps.toList.all fun c => decide (c < 16 ^ 8)) = true ∧ w.cps.size ≤ 16) (h : Shrt d n) (h' : Shrt e k) : Shrt (.tuple [.str w, d, e]) (n + k + 1) := by
  refine ⟨?_, ?_, ?_⟩
  · simp only [PyData.leavesShort, PyData.leavesShortAll, h.lv, h'.lv, hw.1]; rfl
  · have := h.bk; have := h'.bk; have := hw.2; simp only [PyData.bulk, PyData.bulkAll]; lia
  · simp only [PyData.showable, PyData.showableAll, h.sh, h'.sh]; rfl
theorem Shrt.le {d : PyData} {n k : Nat} (h : Shrt d n) (e : n ≤ k) : Shrt d k := ⟨h.lv, Nat.le_trans h.bk (Nat.mul_le_mul_left _ e), h.sh⟩
theorem nil_short : Shrt (.tuple [.str "nil"]) 1 := ⟨by decide +kernel, by decide +kernel, by decide +kernel⟩
theorem w_pair : (((Str.ofString "pair").cps.toList.all fun c => decide (c < 16 ^ 8)) = true ∧ (Str.ofString "pair").cps.size ≤ 16) := by decide +kernel
theorem w_vec : (((Str.ofString "vector-of").cps.toList.all fun c => decide (c < 16 ^ 8)) = true ∧ (Str.ofString "vector-of").cps.size ≤ 16) := by decide +kernel
theorem w_sym : (((Str.ofString "sym").cps.toList.all fun c => decide (c < 16 ^ 8)) = true ∧ (Str.ofString "sym").cps.size ≤ 16) := by decide +kernel
mutual
theorem fr_short : ∀ t : Thing, okT t → Shrt (encM (frozen t)) (sz t)
  | .int i, h => by
    unfold okT at h
    unfold frozen encM
    refine ⟨?_, by simp only [PyData.bulk]; lia, ?_⟩
    · simp only [PyData.leavesShort, decide_eq_true_eq]
      exact PyData.shown_int_le2 (by lia) (by lia)
    · simp only [PyData.showable, decide_eq_true_eq]
      have h1 : i.natAbs < 10 := by lia
      have h2 : i.natAbs.log2 ≤ i.natAbs := Nat.log2_le_self _
      omega
  | .sym s, h => by
    unfold okT at h
    obtain ⟨h1, h2⟩ := univ_short s h
    unfold frozen encM
    refine ⟨?_, ?_, ?_⟩
    · simp only [PyData.leavesShort, PyData.leavesShortAll, h1, w_sym.1]; rfl
    · have := w_sym.2; simp only [PyData.bulk, PyData.bulkAll, sz]; lia
    · simp only [PyData.showable, PyData.showableAll]; rfl
  | .nil, _ => by unfold frozen encM; exact nil_short
  | .vec ts, h => by
    unfold okT at h
    have ih := frs_short ts h
    unfold frozen encM
    exact (Shrt.tag w_vec ih).le (by rw [sz]; lia)
  | .pair a d, h => by
    unfold okT at h
    have iha := fr_short a h.1
    have ihd := fr_short d h.2
    unfold frozen encM
    exact (Shrt.pr w_pair iha ihd).le (by rw [sz]; lia)
theorem frs_short : ∀ ts : List Thing, okTs ts → Shrt (encM (frozens ts)) (szs ts)
  | [], _ => by unfold frozens encM; exact nil_short
  | t :: r, h => by
    unfold okTs at h
    have iha := fr_short t h.1
    have ihd := frs_short r h.2
    unfold frozens encM
    exact (Shrt.pr w_pair iha ihd).le (by rw [szs]; lia)
end
/-! the depth of what is frozen -/
mutual
theorem depth_fr : ∀ t : Thing, (encM (frozen t)).depth ≤ 2 * sz t
  | .int i => by unfold frozen encM; simp only [PyData.depth]; lia
  | .sym s => by unfold frozen encM; simp only [PyData.depth, PyData.depthAll, sz]; lia
  | .nil => by unfold frozen encM; simp only [PyData.depth, PyData.depthAll, sz]; lia
  | .vec ts => by have := depth_frs ts; unfold frozen encM; simp only [PyData.depth, PyData.depthAll, sz]; lia
  | .pair a d => by have := depth_fr a; have := depth_fr d; unfold frozen encM; simp only [PyData.depth, PyData.depthAll, sz]; lia
theorem depth_frs : ∀ ts : List Thing, (encM (frozens ts)).depth ≤ 2 * szs ts
  | [] => by unfold frozens encM; simp only [PyData.depth, PyData.depthAll, szs]; lia
  | t :: r => by have := depth_fr t; have := depth_frs r; unfold frozens encM; simp only [PyData.depth, PyData.depthAll, szs]; lia
end
end TL2
section TL3
-- turned
local macro_rules | `(tactic| walk_at "zx") => `(tactic| first | walk_at "z" | (with_reducible refine wpAny_execs_nil ?_; walk_at "ds"))
noncomputable def fx_law : { F : Arguments × List Stmt × PySem.Scope // fnAt PySem.Challenge.pw_nt0188_01.main.body [56] = some F } := ⟨_, rfl⟩
noncomputable abbrev f_law : Fn := ⟨fx_law.1.1, fx_law.1.2.1, fx_law.1.2.2, .none, .none⟩
noncomputable def forBody : List Stmt → List Stmt
  | .For _ _ b _ _ :: _ => b
  | _ => []
noncomputable abbrev lawBody : List Stmt := forBody (f_law.body.drop 1)
/-- an int or an object -/
noncomputable def NN (v : Value) : Prop := (Ex2 fun i t => v = .int i t) ∨ ∃ a, v = .ref a
theorem DV.nn {w : World} {P : View} {T : Tab} {v : Value} {t : Thing} (h : DV w P T v t) : NN v := h.shape
theorem FV.nn {c : Cx} {P : View} {W : Wld} {T : Tab} {v : Value} {f : Form} (h : FV c P W T v f) : NN v := by
  cases h with
  | hole d => exact d.nn
  | quote _ r _ => obtain ⟨_, _, rfl, -, -⟩ := r.consInv; exact .inr ⟨_, rfl⟩
  | cons _ r _ _ => obtain ⟨_, _, rfl, -, -⟩ := r.consInv; exact .inr ⟨_, rfl⟩
  | append _ r _ _ => obtain ⟨_, _, rfl, -, -⟩ := r.consInv; exact .inr ⟨_, rfl⟩
  | l2v _ r _ => obtain ⟨_, _, rfl, -, -⟩ := r.consInv; exact .inr ⟨_, rfl⟩
theorem MV.nn {P : View} {v : Value} {m : Mean} (h : MV P v m) : NN v := MV.shape h
section
variable {c : Cx} {P C : View} {L x dx tp : Addr} {m : Loc} {mu rho : Led} {s : Shared} {A : Around} {a b d v : Value} {n : Nat} {W : Wld} {T : Tab} {bound : List Str}
theorem isNN {Q E : Value → Shared → Prop} (hv : NN v) (h : Q (.bool false) s) : wpAny c.M A (compareOp .Is v .none) Q E s := by
  rcases hv with ⟨i, t, rfl⟩ | ⟨a, rfl⟩
  · exact isNoneI h
  · exact isNoneR h
theorem isNotNN {Q E : Value → Shared → Prop} (hv : NN v) (h : Q (.bool true) s) : wpAny c.M A (compareOp .IsNot v .none) Q E s := by
  rcases hv with ⟨i, t, rfl⟩ | ⟨a, rfl⟩
  · exact wpAny_isNot_other rfl (by intro e; cases e) h
  · exact isNotNoneR h
theorem neB {x : Bool} {Q E : Value → Shared → Prop} (S : St c P C L m mu s) (hA : Room A (n + 1)) (h : Q (.bool false) s) : wpAny c.M A (compareOp .NotEq (.bool x) (.bool x)) Q E s := by
  refine neR S (.bool _) (.bool _) rfl rfl ?_ (by rw [SeqAt.eqv_refl _ rfl]; exact h)
  have := hA.u (k := 8) (by lia)
  have h2 : (PyData.bool x).depth ≤ 2 := by simp only [PyData.depth]; lia
  lia
theorem FV.head {c : Cx} {P : View} {W : Wld} {T : Tab} {v : Value} {f : Form} (h : FV c P W T v f) : (Ex1 fun t => f = .hole t ∧ DV c.w P T v t) ∨ Ex4 fun a a1 r1 w => And4 (v = .ref a) (Inst c.w P a 146 [("car", a1), ("cdr", r1)]) (WdV c P W T a1 w) ((w = "quote" → ∃ t, f = .quote t)) := by
  cases h with
  | hole d => exact .inl ⟨_, rfl, d⟩
  | quote hw r _ =>
    obtain ⟨_, _, rfl, I, -⟩ := r.consInv
    exact .inr ⟨_, _, _, _, rfl, I, hw, fun _ => ⟨_, rfl⟩⟩
  | cons hw r _ _ =>
    obtain ⟨_, _, rfl, I, -⟩ := r.consInv
    exact .inr ⟨_, _, _, _, rfl, I, hw, fun e => absurd e (by decide +kernel)⟩
  | append hw r _ _ =>
    obtain ⟨_, _, rfl, I, -⟩ := r.consInv
    exact .inr ⟨_, _, _, _, rfl, I, hw, fun e => absurd e (by decide +kernel)⟩
  | l2v hw r _ =>
    obtain ⟨_, _, rfl, I, -⟩ := r.consInv
    exact .inr ⟨_, _, _, _, rfl, I, hw, fun e => absurd e (by decide +kernel)⟩
/-- behind the try: nothing was told, nothing is due -/
theorem law_tail_none {env : Env} {cl : List (Str × Addr)} {Q : Flow → Shared → Prop} {E : Value → Shared → Prop} (hE : EnvOk env f_law.scope L cl) (hA : Room A (n + 1)) (e1 : m (Str.ofString "form") = some .none) (e2 : m (Str.ofString "due") = some .none)
    (S : St c P C L m mu s) (next : ∀ s', St c P C L m mu s' → Q .next s') : wpAny c.M A (execs (lawBody.drop 6) env) Q E s := by
  dsimp only [lawBody, f_law, fx_law, List.drop, forBody] at *
  repeat walk_at "zx"
  refine neB (by walk_at "as") hA ?_
  repeat walk_at "zx"
  exact next _ (by walk_at "as")
/-- behind the try: a form was told -/
theorem law_tail_some {env : Env} {cl : List (Str × Addr)} {Q : Flow → Shared → Prop} {E : Value → Shared → Prop} {f : Form} {bb : Bool} {t : Thing} {fv dv tv vv : Value} (hE : EnvOk env f_law.scope L cl) (hA : Room A 600) (hg : A.guards = some [])
    (hW : WK c P W T bound) (hf : FV c P W T fv f) (hd : MV P dv (done f)) (ht : TV P tv t) (hv : DV c.w P T vv t) (hok : okT t) (hz : sz t ≤ 150) (hfo : fok f) (hfd : fdep f ≤ 150) (hfs : fsz f ≤ 1800) (hb1 : bb = true → QV c P W T fv vv) (hb2 : bb = false → ∀ x, f ≠ .quote x)
    (e1 : m (Str.ofString "form") = some fv) (e2 : m (Str.ofString "due") = some dv) (e3 : m (Str.ofString "thing") = some tv) (e4 : m (Str.ofString "datum") = some vv) (e5 : m (Str.ofString "scope") = some (.ref W.sx))
    (S : St c P C L m mu s) (next : ∀ P' s', P.le P' → St c P' C L m mu s' → Q .next s') : wpAny c.M A (execs (lawBody.drop 6) env) Q E s := by
  dsimp only [lawBody, f_law, fx_law, List.drop, forBody] at *
  have hmok := MOk_done hfo
  have hmsz := msz_done f
  have hdep := depth_encM (done f)
  have htok := hok.tok
  repeat walk_at "zx"
  refine isNN hf.nn ?_
  repeat walk_at "zx"
  refine isNN hd.nn ?_
  repeat walk_at "zx"
  refine neB (by walk_at "as") (hA.le (Nat.le_refl 600)) ?_
  repeat walk_at "zx"
  refine isNotNN hf.nn ?_
  repeat walk_at "zx"
  walk_at "z c2"
  repeat walk_at "zx"
  refine ⟨St.K (by walk_at "as"), ?_⟩
  refine cc ((law_done 150).use hfd hfo hW hf) (rho := mu) (by walk_at "as") (hA.le (by walk_at "om")) ?_
  rintro v3 s3 P3 mu3 hP3 S3 ⟨rfl, h3⟩
  try simp only [List.nil_append] at S3
  have hd3 := hd.mono hP3
  have ht3 := ht.mono hP3
  have hv3 := hv.mono hP3 (List.prefix_refl _)
  repeat walk_at "zx"
  refine neR (by walk_at "as") h3 hd3 hmok hmok (by have := hA.u (k := 4800) (by lia); lia) ?_
  rw [SeqAt.eqv_refl _ hmok]
  repeat walk_at "zx"
  walk_at "z c1"
  repeat walk_at "zx"
  refine ⟨St.K (by walk_at "as"), ?_⟩
  refine cc0 (law_back' (by lia) hv3) (rho := mu) (by walk_at "as") (hA.le (by walk_at "om")) ?_
  rintro v4 s4 P4 hP4 S4 h4
  have hd4 := hd3.mono hP4
  have ht4 := ht3.mono hP4
  have hv4 := hv3.mono hP4 (List.prefix_refl _)
  have htd := depth_enc t
  repeat walk_at "zx"
  refine neR (by walk_at "as") h4 ht4 htok htok (by have := hA.u (k := 4800) (by lia); lia) ?_
  rw [SeqAt.eqv_refl _ htok]
  repeat walk_at "zx"
  refine isNotNN hd.nn ?_
  repeat walk_at "zx"
  walk_at "z c1"
  repeat walk_at "zx"
  refine ⟨St.K (by walk_at "as"), ?_⟩
  refine cc0 (law_frozen' (by lia) ht4) (rho := mu) (by walk_at "as") (hA.le (by walk_at "om")) ?_
  rintro v5 s5 P5 hP5 S5 h5
  have k35 := hP3.trans (hP4.trans hP5)
  have hd5 := hd4.mono hP5
  have hv5 := hv4.mono hP5 (List.prefix_refl _)
  have hfdp := depth_fr t
  repeat walk_at "zx"
  refine eqR (by walk_at "as") hd5 h5 hmok (MOk_frozen htok) (by have := hA.u (k := 4800) (by lia); lia) ?_
  cases he : PyData.eqv (encM (done f)) (encM (frozen t)) with
  | false =>
    repeat walk_at "zx"
    exact next _ _ k35 (by walk_at "as")
  | true =>
    have em := eqv_fr t _ he
    have hsh := fr_short t hok
    rw [← em] at hsh
    repeat walk_at "zx"
    refine cB1 (by walk_at "as") hE (by decide +kernel) c.fx.b_repr boot_repr ?_
    repeat walk_at "zx"
    refine reprR (by walk_at "as") hd5 hd.nn hsh.sh (PyData.hasDict_of_canLay _ hmok) hg (by have := hA.u (k := 4800) (by lia); lia) hsh.lv (Nat.le_trans hsh.bk (by have : (2:Nat)^20 = 1048576 := (by decide); lia)) (fun x6 u6 s6 S6 => ?_)
    repeat walk_at "zx"
    refine PySem.P.notIn_str ?_
    generalize hb7 : (!(!(PySem.Builtin.Str.occurrences x6 (Str.ofString "call") 0 x6.length 1).isEmpty)) = b7
    cases b7 with
    | false =>
      repeat walk_at "zx"
      exact next _ _ k35 (by walk_at "as")
    | true =>
      clear hv hv3 hv4
      rcases hv5.pairOr with ⟨ad, xd, yd, txd, tyd, rfl, -, Id, hxd, hyd⟩ | ⟨nP, -⟩
      rotate_left
      · repeat walk_at "zx"
        exact next _ _ k35 (by walk_at "as")
      repeat walk_at "zx"
      rcases (hf.mono k35 (List.prefix_refl _)).head with ⟨t8, -, hd8⟩ | ⟨a8, a1, r1, w8, rfl, I8, hw8, hq8⟩
      · rcases hd8.pairOr with ⟨a0, x0, y0, tx0, ty0, rfl, -, I0, hx0, hy0⟩ | ⟨nP8, -⟩
        · have hxi := hx0.hi
          have nA := hx0.notAlias
          repeat walk_at "zx"
          exact next _ _ k35 (by walk_at "as")
        · repeat walk_at "zx"
          exact next _ _ k35 (by walk_at "as")
      · obtain ⟨ba, n1, hn, hs, hal⟩ := hw8
        have hal' := hal
        obtain ⟨ia, j, ju, rfl, Ia⟩ := hal'
        repeat walk_at "zx"
        walk_at "z c1"
        repeat walk_at "zx"
        refine ⟨St.K (by walk_at "as"), ?_⟩
        refine cc (root_symbol_ (n := 200) hal hs) (rho := mu) (by walk_at "as") (hA.le (by walk_at "om")) ?_
        rintro v9 s9 P9 mu9 hP9 S9 ⟨rfl, rfl, rfl⟩
        try simp only [List.nil_append] at S9
        obtain ⟨kx, ux, Is⟩ := id hs
        repeat walk_at "zx"
        refine eqS ?_
        by_cases hq : w8 = Str.ofString "quote"
        · first | with_reducible refine boT (decide_eq_true hq) ?_ | with_reducible refine bnT (decide_eq_true hq) ?_ | rw [decide_eq_true hq]
          obtain ⟨t9, rfl⟩ := hq8 hq
          have hbb : bb = true := by
            cases bb with
            | true => rfl
            | false => exact absurd rfl (hb2 rfl t9)
          obtain ⟨qa, hq1, hq2⟩ := (hb1 hbb).mono k35 (List.prefix_refl _)
          clear I8
          obtain ⟨_, r2, e9, I9, hr9⟩ := hq2.consInv
          cases e9
          obtain ⟨a10, r10, rfl, I10, hr10⟩ := hr9.consInv
          repeat walk_at "zx"
          refine wpAny_isNot_ref_self ?_
          repeat walk_at "zx"
          exact next _ _ k35 (by walk_at "as")
        · first | with_reducible refine boF (decide_eq_false hq) ?_ | with_reducible refine bnF (decide_eq_false hq) ?_ | rw [decide_eq_false hq]
          repeat walk_at "zx"
          exact next _ _ k35 (by walk_at "as")
end
end TL3
section TL4
-- turned
local macro_rules | `(tactic| walk_at "zx") => `(tactic| first | walk_at "z" | (with_reducible refine wpAny_execs_nil ?_; walk_at "ds"))
theorem any_str (bound : List Str) (w : Str) : ((bound.map PyData.str).any fun y => PyData.eqv y (.str w)) = decide (w ∈ bound) := by
  induction bound with
  | nil => rfl
  | cons x r ih =>
    rw [List.map_cons, List.any_cons, ih]
    show ((x == w) || _) = _
    by_cases h : x = w
    · subst h; simp
    · have : (x == w) = false := beq_eq_false_iff_ne.mpr h
      rw [this]
      simp [Ne.symm h]
theorem canLay_strs : ∀ {bound : List Str}, (∀ t ∈ bound, t ∈ Univ) → PyData.canLayAll0 (bound.map .str) = true
  | [], _ => rfl
  | x :: r, h => by
    have h1 := univ_ok x (h x (.head _))
    have h2 := canLay_strs (bound := r) fun t ht => h t (.tail _ ht)
    simp only [List.map_cons, PyData.canLayAll0, PyData.canLay0, h1, h2]; rfl
theorem clos0 {env : Env} {sc : PySem.Scope} {L : Addr} {cl : List (Str × Addr)} {k : ScopeKind} {g1 g2 : Bool} {x1 x2 x4 : Str} {a1 : Addr} (hE : EnvOk env sc L cl) (h1 : cl.lookup x4 = some a1) :
    closureFor { kind := k, names := [(x1, .local), (x2, .local), (x4, .free)], isGenerator := g1, isCoroutine := g2 } env = pure [(x4, a1)] := by
  unfold closureFor
  simp [cellOf, hE.cells, h1]
theorem mkM_step {bound : List Str} {i : Nat} {w : Str} (h : [wU, wS, wQ][i]? = some w) : (([wU, wS, wQ].take (i + 1)).filter fun w => decide (w ∉ bound)) = (([wU, wS, wQ].take i).filter fun w => decide (w ∉ bound)) ++ (if w ∈ bound then [] else [w]) := by
  rw [List.take_add_one, h, List.filter_append]
  congr 1
  by_cases hb : w ∈ bound
  · rw [if_pos hb]; simp [hb]
  · rw [if_neg hb]; simp [hb]
section
variable {c : Cx} {P C : View} {L x dx tp : Addr} {m : Loc} {mu rho : Led} {s : Shared} {A : Around} {a b d v : Value} {n : Nat} {W : Wld} {T : Tab} {bound : List Str}
/-- from the world on -/
theorem law_turn3 {env : Env} {cl : List (Str × Addr)} {Q : Flow → Shared → Prop} {E : Value → Shared → Prop} {dk ca lb ml : Addr} {oc : Obj} {bv : List Value} {t : Thing} {tv : Value} (hE : EnvOk env f_law.scope L cl) (hA : Room A 690) (hg : A.guards = some []) (hfr : A.frames = some [env]) (hf : env.frame = some L)
    (hcl : cl.lookup (Str.ofString "bound") = some ca) (hoc : C ca oc) (hod : oc.data = .cell (some (.ref lb))) (hlb : IsLst P lb bv) (hrb : RdAll P bv (bound.map .str)) (hU : ∀ t ∈ bound, t ∈ Univ) (nd : bound.Nodup) (hbz : bound.length ≤ 100)
    (hmk : MkV P ml (mkM bound)) (ht : TV P tv t) (hok : okT t) (hz : sz t ≤ 119)
    (e1 : m (Str.ofString "deck") = some (.ref dk)) (e2 : m (Str.ofString "marks") = some (.ref ml)) (e3 : m (Str.ofString "thing") = some tv) (S : St c P C L m [(dk, DeckO)] s)
    (next : ∀ {P' s' m'}, P.le P' → m' (Str.ofString "deck") = some (.ref dk) → St c P' C L m' [(dk, DeckO)] s' → Q .next s') : wpAny c.M A (execs (lawBody.drop 3) env) Q E s := by
  have none_ := @law_tail_none
  have some_ := @law_tail_some
  dsimp only [lawBody, f_law, fx_law, List.drop, forBody] at *
  have htok := hok.tok
  walk_at "z"
  refine unpack2 hE hA.handled (by decide +kernel) (by decide +kernel) ?_
  walk_at "z c1"
  refine nm_cellC (a := ca) (o := oc) (v := .ref lb) S hE (by decide +kernel) hcl hoc hod ?_
  refine ⟨S.K, ?_⟩
  refine cc (law_world (n := 100) hlb hrb hU nd hbz) (rho := [_]) S (hA.le (by walk_at "om")) ?_
  rintro v3 s3 P3 mu3 hP3 S3 ⟨W, T3, l3, u3, wt, rfl, hwt, W3, rfl⟩
  refine ⟨_, _, _, _, wt, _, _, rfl, hwt, S3, fun s4 S4 => ?_⟩
  walk_at "ds"
  walk_at "z"
  refine unpack2S (by cases env with | mk a b c d e f g h i => have hsc := hE.scope; dsimp only at hsc; subst hsc; rfl) hE hA.handled (by decide +kernel) (by decide +kernel) ?_
  repeat walk_at "z"
  walk_at "z c2"
  repeat walk_at "z"
  refine ⟨St.K (by walk_at "as"), ?_⟩
  refine cc ((law_datum 150 (by decide)).use (by lia) hok (ht.mono hP3) W3) (rho := [_]) S4 (hA.le (by walk_at "om")) ?_
  rintro v5 s5 P5 mu5 hP5 S5 ⟨T5, hT5, W5, rfl, hd5⟩
  have k05 := hP3.trans hP5
  repeat walk_at "z"
  walk_at "z c3"
  repeat walk_at "z"
  refine ⟨St.K (by walk_at "as"), ?_⟩
  refine cc0 (law_means (c := c) 150 (l := 1) (by lia) (by decide) (ht.mono k05) htok (Nat.le_refl _) (hmk.mono k05)) (rho := WL c W T5 l3 u3 ++ [(dk, DeckO)]) (by walk_at "as") (hA.le (by walk_at "om")) ?_
  rintro v7 s7 P7 hP7 S7 hm7
  with_reducible refine newTup S7 (fun t8 s8 P8 hP8 ht8 S8 => ?_) (by simp)
  refine ⟨_, _, _, _, t8, _, _, rfl, ht8, S8, fun s9 S9 => ?_⟩
  walk_at "ds"
  have k58 := hP7.trans hP8
  have k08 := k05.trans k58
  have W8 := W5.mono k58
  have hd8 := hd5.mono k58 (List.prefix_refl _)
  have hm8 := OMV.mono hm7 hP8
  -- the deck set aside, all else stands
  have S10 := S9.perm (List.perm_append_comm (l₂ := [(dk, DeckO)]))
  have hCd := S10.muC
  obtain ⟨od, qd, S11⟩ := S10.hide
  obtain ⟨P12, hP12, S12, hall⟩ := S11.all
  have k012 := k08.trans hP12
  have W12 := W8.mono hP12
  have hd12 := hd8.mono hP12 (List.prefix_refl _)
  have hm12 := OMV.mono hm8 hP12
  have hcaL : ∀ b, b ∈ L :: (WL c W T5 l3 u3).map (·.1) → ∀ o, ¬ P12 b o ∧ ¬ (C.add dk od) b o := by
    intro b hb o
    rcases List.mem_cons.mp hb with rfl | hb
    · exact ⟨S12.offL o, fun h => (S12.offC _ o h).2.1 rfl⟩
    · obtain ⟨p, hp, rfl⟩ := List.mem_map.mp hb
      exact ⟨S12.offmu p hp o, fun h => (S12.offC _ o h).2.2 p hp rfl⟩
  have hX : ErrOk (hideAll s9.heap (L :: (WL c W T5 l3 u3).map (·.1))) P12 (C.add dk od) L A env [] := by
    refine ⟨fun b o hb => ?_, hfr, hf, ?_, hideAll_none _ (.head _), trivial⟩
    · have h1 := of_hideAll _ hb
      have h2 : b ∉ L :: (WL c W T5 l3 u3).map (·.1) := fun h => by rw [hideAll_none _ h] at hb; cases hb
      exact hall b o h1 (fun e => h2 (by rw [e]; exact .head _)) fun p hp e => h2 (.tail _ (List.mem_map.mpr ⟨p, hp, e⟩))
    · rw [hE.scope, hE.kind]; intro h; cases h
  have hB : ∀ b o, s9.heap.get? b = some o → (P12 b o ∨ (C.add dk od) b o) → (hideAll s9.heap (L :: (WL c W T5 l3 u3).map (·.1))).get? b = some o := fun b o h1 h2 =>
    hideAll_get _ h1 fun h => by
      obtain ⟨k1, k2⟩ := hcaL b h o
      exact h2.elim k1 k2
  clear S3 S4 S5 S7 S8 S9 S10 S11
  walk_at "z"
  refine wpAny_Try_except ?_
  repeat walk_at "z"
  walk_at "z c3"
  repeat walk_at "z"
  refine ⟨S12.K, ?_⟩
  refine ccxn (quasi_ W12 hd12 (by lia)) S12 (hA.le (by walk_at "om")) hX ?_ ?_
  · rintro v13 s13 P13 mu13 hP13 S13 ⟨T13, l13, u13, f, bb, hT13, W13, rfl, hfv, hqv, htold⟩
    refine ⟨_, _, _, _, S13, fun s14 S14 => ?_⟩
    walk_at "ds"
    walk_at "nil"
    walk_at "nil"
    obtain ⟨g1, g2, g3⟩ := told_fok 1 t htok (by lia) f bb htold
    obtain ⟨q1, q2⟩ := says (mkM_ok bound) 1 t
    rw [htold] at q1
    rw [← q1] at hm12
    have k013 := k012.trans hP13
    refine some_ (f := f) (bb := bb) (t := t) (fv := v13) (dv := v7) (tv := tv) (vv := v5) hE (hA.le (by walk_at "om")) hg W13 hfv (Rd.mono hP13 hm12) (ht.mono k013) (hd12.mono hP13 hT13) hok (by lia) g1 (by lia) (by lia) hqv (fun hb => (q2 f bb htold).2 hb)
      (by walk_at "z lk") (by walk_at "z lk") (by walk_at "z lk") (by walk_at "z lk") (by walk_at "z lk") S14 ?_
    intro P15 s15 hP15 S15
    refine next (k013.trans hP15) ?_ ((St.dropTail (mu := []) S15).unhide qd hCd)
    walk_at "z lk"
  · intro e s13 hnone hthrown
    refine caught_ (rho := []) hfr hE hf (by decide +kernel) c.fx.g_SyntaxTrouble S12 hB hthrown (fun s14 S14 => ?_)
    repeat walk_at "z"
    walk_at "nil"
    obtain ⟨q1, q2⟩ := says (mkM_ok bound) 1 t
    rw [hnone] at q1
    rw [← q1] at hm12
    have hv7 : v7 = .none := hm12
    subst hv7
    refine none_ (n := 600) hE (hA.le (by walk_at "om")) ?_ ?_ (by walk_at "as") ?_
    · walk_at "z lk"
    · walk_at "z lk"
    intro s16 S16
    refine next k012 ?_ (S16.unhide qd hCd)
    walk_at "z lk"
/-- from the marks on -/
theorem law_turn2 {env : Env} {cl : List (Str × Addr)} {Q : Flow → Shared → Prop} {E : Value → Shared → Prop} {dk ca lb : Addr} {oc : Obj} {bv : List Value} (hE : EnvOk env f_law.scope L cl) (hA : Room A 690) (hg : A.guards = some []) (hfr : A.frames = some [env]) (hf : env.frame = some L)
    (hcl : cl.lookup (Str.ofString "bound") = some ca) (hoc : C ca oc) (hod : oc.data = .cell (some (.ref lb))) (hlb : IsLst P lb bv) (hrb : RdAll P bv (bound.map .str)) (hU : ∀ t ∈ bound, t ∈ Univ) (nd : bound.Nodup) (hbz : bound.length ≤ 100)
    (e1 : m (Str.ofString "deck") = some (.ref dk)) (S : St c P C L m [(dk, DeckO)] s)
    (next : ∀ {P' s' m'}, P.le P' → m' (Str.ofString "deck") = some (.ref dk) → St c P' C L m' [(dk, DeckO)] s' → Q .next s') : wpAny c.M A (execs (lawBody.drop 1) env) Q E s := by
  have turn3 := @law_turn3
  dsimp only [lawBody, f_law, fx_law, List.drop, forBody] at *
  walk_at "z"
  refine compAT (by cases env with | mk a b c d e f g h i => have hsc := hE.scope; dsimp only at hsc; subst hsc; rfl) hE (by decide +kernel) (clos0 hE hcl) (by decide +kernel) (by decide +kernel) rfl (by decide +kernel) hA.handled ?_
  repeat walk_at "z"
  with_reducible refine newLst (by walk_at "as") (fun l2 s2 _ S2 => ?_) (by simp)
  obtain ⟨P2, hP2, hl2, S2⟩ := S2.freezeL
  refine iterL S2 hl2 ?_
  intro it s4 hC W4 S4
  have hlen3 : ([wU, wS, wQ]).length = 3 := rfl
  refine ⟨it, _, _, _, _, _, _, _, fun i P' mu' ys => mu' = [(dk, DeckO)] ∧ RdAll P' ys ((([wU, wS, wQ].take i).filter fun w => decide (w ∉ bound)).map .str), rfl, S4, W4, self_list, by simp, hC, ⟨rfl, .nil⟩, ?_, ?_⟩
  · intro i v P' mu' ys s' Lc m' C5 cenv N E5 Eb5 hi hv hP hC5 hJ hEc hm' S5 hyes hno
    obtain ⟨rfl, hys⟩ := hJ
    obtain ⟨w, hw, tk, rfl⟩ : Ex1 fun w => [wU, wS, wQ][i]? = some w ∧ ∃ tk, v = .str w tk := by
      rcases i with _ | _ | _ | i
      · exact ⟨wU, rfl, _, (Option.some.inj hv).symm⟩
      · exact ⟨wS, rfl, _, (Option.some.inj hv).symm⟩
      · exact ⟨wQ, rfl, _, (Option.some.inj hv).symm⟩
      · simp at hv
    have hwU : w ∈ Univ := by
      have := List.mem_of_getElem? hw
      simp only [List.mem_cons, List.not_mem_nil, or_false] at this
      rcases this with rfl | rfl | rfl <;> decide +kernel
    have kk := hP2.trans hP
    repeat walk_at "z"
    refine nm_cellC (a := ca) (o := oc) (v := .ref lb) S5 hEc (by decide +kernel) (by rw [List.lookup_cons]; simp) (hC5 _ _ hoc) hod ?_
    refine notInR S5 (.list (hlb.mono kk) (hrb.mono kk)) (.str w tk) (canLay_strs hU) (univ_ok w hwU) (by have := hA.u (k := 16) (by lia); have h2 : (PyData.str w).depth ≤ 2 := (by simp only [PyData.depth]; lia); lia) ?_
    rw [any_str]
    by_cases hb : w ∈ bound
    · first | with_reducible refine boT (decide_eq_true hb) ?_ | with_reducible refine bnT (decide_eq_true hb) ?_ | rw [decide_eq_true hb]
      repeat walk_at "z"
      refine hno (View.le.refl _) ⟨rfl, ?_⟩ S5
      rw [mkM_step hw, if_pos hb, List.append_nil]; exact hys
    · first | with_reducible refine boF (decide_eq_false hb) ?_ | with_reducible refine bnF (decide_eq_false hb) ?_ | rw [decide_eq_false hb]
      repeat walk_at "z"
      refine hyes (View.le.refl _) ⟨rfl, ?_⟩ S5
      rw [mkM_step hw, if_neg hb, List.map_append]
      exact hys.snoc (.str w tk)
  intro ml P5 mu5 ys s5 hP5 hJ hl5 S5
  obtain ⟨rfl, hys⟩ := hJ
  obtain ⟨P6, hP6, hml, S6⟩ := S5.freezeL
  have k06 := hP2.trans (hP5.trans hP6)
  have hmk : MkV P6 ml (mkM bound) := ⟨⟨ys, hml, hys.mono hP6⟩, Nat.le_trans (List.length_filter_le _ _) (by decide), fun w hw => by
    have := (List.mem_filter.mp hw).1
    simp only [List.mem_cons, List.not_mem_nil, or_false] at this
    rcases this with rfl | rfl | rfl <;> decide +kernel, mkM_ok bound⟩
  walk_at "ds"
  -- the thing
  repeat walk_at "z"
  walk_at "z c3"
  repeat walk_at "z"
  refine ⟨St.K (by walk_at "as"), ?_⟩
  refine ccMn (LawTemplate.use (law_template (c := c) 3) (e := 3) (by rfl)) (by walk_at "as") (hA.le (by walk_at "om")) ?_
  rintro v7 s7 P7 hP7 S7 ⟨t, hv7, hok, hsz⟩
  have hsz : sz t ≤ 119 := hsz
  have htok := hok.tok
  have k07 := k06.trans hP7
  refine ⟨_, _, _, _, S7, fun s8 S8 => ?_⟩
  walk_at "ds"
  exact turn3 hE hA hg hfr hf hcl hoc hod (hlb.mono k07) (hrb.mono k07) hU nd hbz (hmk.mono hP7) hv7 hok hsz (by walk_at "z lk") (by walk_at "z lk") (by walk_at "z lk") S8 (fun hP' => next (k07.trans hP'))
end
end TL4
section TL5
-- turned
local macro_rules | `(tactic| walk_at "zx") => `(tactic| first | walk_at "z" | (with_reducible refine wpAny_execs_nil ?_; walk_at "ds"))
section
variable {c : Cx} {P C : View} {L x dx tp : Addr} {m : Loc} {mu rho : Led} {s : Shared} {A : Around} {a b d v : Value} {n : Nat} {W : Wld} {T : Tab} {bound : List Str}
/-- one turn -/
theorem law_turn {env : Env} {cl : List (Str × Addr)} {Q : Flow → Shared → Prop} {E : Value → Shared → Prop} {dk ca : Addr} (hE : EnvOk env f_law.scope L cl) (hA : Room A 690) (hg : A.guards = some []) (hfr : A.frames = some [env]) (hf : env.frame = some L)
    (hcl : cl.lookup (Str.ofString "bound") = some ca) (e1 : m (Str.ofString "deck") = some (.ref dk)) (S : St c P C L m [(dk, DeckO), (ca, AnyCel)] s)
    (next : ∀ {P' s' m'}, P.le P' → m' (Str.ofString "deck") = some (.ref dk) → St c P' C L m' [(dk, DeckO), (ca, AnyCel)] s' → Q .next s') : wpAny c.M A (execs lawBody env) Q E s := by
  have turn2 := @law_turn2
  dsimp only [lawBody, f_law, fx_law, List.drop, forBody] at *
  walk_at "z"
  with_reducible refine xAssignC hE (by decide +kernel) hcl ?_ (by with_unfolding_all rfl)
  walk_at "z"
  refine List_ ?_
  repeat walk_at "z"
  with_reducible refine newLst S (fun l1 s1 _ S1 => ?_) (by simp)
  obtain ⟨P1, hP1, hl1, S1⟩ := S1.freezeL
  walk_at "z"
  refine List_ ?_
  repeat walk_at "z"
  with_reducible refine newLst (by walk_at "as") (fun l2 s2 _ S2 => ?_) (by simp)
  obtain ⟨P2, hP2, hl2, S2⟩ := S2.freezeL
  repeat walk_at "z"
  with_reducible refine newLst (by walk_at "as") (fun l3 s3 _ S3 => ?_) (by simp)
  obtain ⟨P3, hP3, hl3, S3⟩ := S3.freezeL
  walk_at "z"
  refine List_ ?_
  repeat walk_at "z"
  with_reducible refine newLst (by walk_at "as") (fun l4 s4 _ S4 => ?_) (by simp)
  obtain ⟨P4, hP4, hl4, S4⟩ := S4.freezeL
  repeat walk_at "z"
  with_reducible refine newLst (by walk_at "as") (fun l5 s5 _ S5 => ?_) (by simp)
  obtain ⟨P5, hP5, hl5, S5⟩ := S5.freezeL
  walk_at "z c2"
  repeat walk_at "z"
  refine ⟨St.K (by walk_at "as"), ?_⟩
  refine ccM (law_draw (n := 600) (by decide) (by decide)) (rho := [(ca, AnyCel)]) (by walk_at "as") (hA.le (by walk_at "om")) ?_
  rintro v6 s6 P6 hP6 S6 ⟨k, u6, rfl, hk⟩
  have k56 := hP5.trans hP6
  have k46 := hP4.trans k56
  have k36 := hP3.trans k46
  have k26 := hP2.trans k36
  have k16 := hP1.trans k26
  have key : Ex3 fun lb bv bound => And6 ([Value.ref l1, .ref l2, .ref l3, .ref l4][k]? = some (.ref lb)) (IsLst P6 lb bv) (RdAll P6 bv ((bound : List Str).map .str)) ((∀ t ∈ bound, t ∈ Univ)) bound.Nodup (bound.length ≤ 100) := by
    rcases k with _ | _ | _ | _ | k
    · exact ⟨l1, _, [], rfl, hl1.mono k26, .nil, (fun t h => nomatch h), List.nodup_nil, by decide⟩
    · exact ⟨l2, _, ["quote", "%cons", "%append", "%list->vector"], rfl, hl2.mono k36, .cons (.str _ _) (.cons (.str _ _) (.cons (.str _ _) (.cons (.str _ _) .nil))), by decide +kernel, by decide +kernel, by decide⟩
    · exact ⟨l3, _, ["unquote-splicing"], rfl, hl3.mono k46, .cons (.str _ _) .nil, by decide +kernel, by decide +kernel, by decide⟩
    · exact ⟨l4, _, ["unquote", "unquote-splicing", "quasiquote", "quote"], rfl, hl4.mono k56, .cons (.str _ _) (.cons (.str _ _) (.cons (.str _ _) (.cons (.str _ _) .nil))), by decide +kernel, by decide +kernel, by decide⟩
    · omega
  obtain ⟨lb, bv, bound, hget, hlb, hrb, hU, nd, hbz⟩ := key
  refine subL (S6.lstP (hl5.mono hP6)) (by lia) (by omega) (by simpa using hget) ?_ (by with_unfolding_all rfl)
  refine ⟨_, _, _, _, swp S6, fun s7 S7 => ?_⟩
  walk_at "ds"
  have hCa := S7.muC
  obtain ⟨oc, hoc, S8⟩ := S7.hide
  have hod : oc.data = .cell (some (.ref lb)) := hoc
  have hCa2 : (C.add ca oc) ca oc := View.add_self _ _ _
  with_reducible refine turn2 hE hA hg hfr hf hcl hCa2 hod hlb hrb hU nd hbz e1 S8 ?_
  intro P9 s9 m9 hP9 e9 S9
  exact next (k16.trans hP9) e9 (swp (S9.unhide (φ := AnyCel) ⟨_, hoc⟩ hCa))
/-- the law's body -/
theorem law_body {env : Env} {cl : List (Str × Addr)} {R : Flow → Shared → Prop} {E : Value → Shared → Prop} {ca sl : Addr} {os : Obj} {vs : List Value} {ns : List Int} {k : Nat} (hE : EnvOk env f_law.scope L cl) (hA : Room A 690) (hg : A.guards = some []) (hfr : A.frames = some [env]) (hf : env.frame = some L)
    (hcl : cl.lookup (Str.ofString "bound") = some ca) (hsl : P sl os) (hoc : os.cls = .type "list") (hod : os.data = .seq vs.toArray k) (hi : IntsV vs ns) (hz : vs.length ≤ 1000) (e1 : m (Str.ofString "script") = some (.ref sl)) (S : St c P C L m [(ca, AnyCel)] s)
    (ret : ∀ {P' s' m' mu'}, P.le P' → St c P' C L m' mu' s' → R (.ret (.bool true)) s') : wpAny c.M A (execs f_law.body env) R E s := by
  have turn := @law_turn
  dsimp only [lawBody, f_law, fx_law, List.drop, forBody] at *
  repeat walk_at "z"
  walk_at "z c1"
  repeat walk_at "z"
  refine ⟨S.K, ?_⟩
  refine cc (law_deck (n := 600) hsl hoc hod hi hz) (rho := [_]) S (hA.le (by walk_at "om")) ?_
  rintro v3 s3 P3 mu3 hP3 S3 ⟨dk, rfl, rfl⟩
  refine ⟨_, _, _, _, S3, fun s4 S4 => ?_⟩
  walk_at "ds"
  repeat walk_at "z"
  refine wpAny_For ?_
  refine cRange S4 hE (by decide +kernel) ?_
  refine tW1 ?_
  repeat walk_at "z"
  refine range1 (by walk_at "as") (fun r u5 w5 s5 S5 => ?_)
  refine iterR (n := 3) S5 (View.add_self _ _ _) (small_up (by decide) (by decide)) (by decide +kernel) ?_
  intro it s6 hC W6 S6
  refine forS S6 hE (by decide +kernel) hA.handled hC W6 (fun i P' m' mu' => m' (Str.ofString "deck") = some (.ref dk) ∧ mu' = [(dk, DeckO), (ca, AnyCel)]) ⟨by walk_at "z lk", rfl⟩ ?_ ?_
  · intro i v P' m' mu' s7 C7 E E2 hi hv hP hC7 hJ S7 hnext hret herr
    obtain ⟨e1, rfl⟩ := hJ
    with_reducible refine turn hE hA hg hfr hf hcl (by walk_at "z lk") S7 ?_
    intro P8 s8 m8 hP8 e8 S8
    exact hnext hP8 ⟨e8, rfl⟩ S8
  · intro P' m' mu' s7 hP hJ S7
    walk_at "ds"
    repeat walk_at "z"
    exact ret ((hP3.trans (View.le_add _ _ _)).trans hP) S7
/-- the law's call -/
theorem law_call {fa sl : Addr} {o os : Obj} {fd : FuncData} {vs : List Value} {ns : List Int} {k : Nat} (heq : c.g = c.r.heap) (ho : c.r.heap.get? fa = some o) (hd : o.data = .func fd) (hcd : c.r.heap.CodeRec fd.code fd.qualname) (hbody : fd.body = .stmts f_law.body)
    (hscope : fd.scope = f_law.scope) (hbind : bindArgs fd ⟨[.ref sl], []⟩ = pure [(Str.ofString "script", Value.ref sl)]) (hclo : fd.closure = []) (hglob : fd.globals = mainGlobals) (hblt : fd.builtins = builtinsNs)
    (hsl : c.r.heap.get? sl = some os) (hoc : os.cls = .type "list") (hod : os.data = .seq vs.toArray k) (hi : IntsV vs ns) (hz : vs.length ≤ 1000) :
    codeAny c.M callerA (.call (.ref fa) ⟨[.ref sl], []⟩) (fun r s' => r = .ok (.ret (.bool true)) ∧ (∀ b o, c.r.heap.get? b = some o → s'.heap.get? b = some o) ∧ s'.os = c.r.os ∧ s'.gens = c.r.gens) c.r := by
  have hs : Splits f_law.scope.names [(Str.ofString "script", Value.ref sl)] [(Str.ofString "script", Value.ref sl)] [] := .loc (by decide +kernel) .nil
  have hlim : c.r.heap.NoLimit := heq ▸ c.top.nolimit
  refine codeAny_call_cells (fd := fd) (body := f_law.body) (binds := [("script", .ref sl)]) (by decide) ho hd hlim hcd hbody hbind hclo (by rw [hscope]; exact hs.kind) (fun s₁ X => ?_) (by rw [hscope]; rfl) (by rw [hscope]; rfl) (by rw [hscope]; rfl)
  have hkk : ∀ y, (callEnvC fd c.r.heap.objs.size fa).kindOf y = f_law.scope.names.lookup y := fun y => by
    show fd.scope.names.lookup y = _
    rw [hscope]
  rw [hs.bindL hkk, hs.bindC hkk] at X
  obtain ⟨h', tk, e, hk⟩ := X.done
  have hns := X.toInCall.ns
  have hcells : (callEnvC fd c.r.heap.objs.size fa).cells = [((Str.ofString "bound"), c.r.heap.objs.size + 1)] := by
    show cellsFrom (c.r.heap.objs.size + 1) fd.scope.names [] = _
    rw [hscope]; rfl
  have hcl : (callEnvC fd c.r.heap.objs.size fa).cells.lookup (Str.ofString "bound") = some (c.r.heap.objs.size + 1) := by rw [hcells]; simp
  have hcell := X.cell _ _ hcl
  subst e
  have hE : EnvOk (callEnvC fd c.r.heap.objs.size fa) f_law.scope c.r.heap.objs.size (callEnvC fd c.r.heap.objs.size fa).cells := ⟨hscope, rfl, rfl, hglob, hblt, rfl⟩
  have hnone : ∀ j, c.r.heap.objs.size ≤ j → ∀ o, ¬ c.g.get? j = some o := fun j hj o h => by
    rw [heq, Heap.get?_none_of_le hj] at h; cases h
  obtain ⟨ob, hob1, hob2⟩ := hcell
  have S : St c (fun b o => c.g.get? b = some o) (fun _ _ => False) c.r.heap.objs.size (binds0 noLoc [("script", .ref sl)]) [(c.r.heap.objs.size + 1, AnyCel)] { c.r with heap := h', toks := tk } := by
    refine ⟨hns, fun b o h => hk b o (heq ▸ h), fun _ _ h => h.elim, fun b o h => h, fun p hp => ?_, fun o => hnone _ (Nat.le_refl _) o, fun p hp o => ?_, fun _ _ h => h.elim, fun p hp => ?_, by simp, rfl, rfl, rfl⟩
    · simp only [List.mem_singleton] at hp; subst hp; exact ⟨ob, hob1, _, hob2⟩
    · simp only [List.mem_singleton] at hp; subst hp; exact hnone _ (Nat.le_succ _) o
    · simp only [List.mem_singleton] at hp; subst hp; exact Nat.succ_ne_self _
  have hA : Room (callerA.deeper (callEnvC fd c.r.heap.objs.size fa)) 690 := ⟨by show (1 + claimMargin) + 1 + 690 < 1000; decide, by show 4 + 3 + 8 * 690 < 9900; decide, rfl⟩
  with_reducible refine law_body hE hA rfl rfl rfl hcl (show c.g.get? sl = some os from heq ▸ hsl) hoc hod hi hz upd_same S ?_
  intro P' s' m' mu' hP S'
  exact ⟨rfl, fun b o h => S'.stays b o (heq ▸ h), S'.rest.2.2, S'.rest.1⟩
end
end TL5
section TL6
-- turned
theorem intsV_of {vs : List Value} {ns : List Int} (h : IntsAre vs ns) : IntsV vs ns := by
  induction h with
  | nil => exact .nil
  | cons n t _ ih => exact .cons n t ih
theorem IntsAre.len_ {vs : List Value} {ns : List Int} (h : IntsAre vs ns) : vs.length = ns.length := by
  induction h with
  | nil => rfl
  | cons n t _ ih => exact congrArg Nat.succ ih
/-- the law's call, over the head -/
theorem walk {K : Frag} {w : World} {s₀ s₁ : Shared} {p : Program} {loose : List Str} {mean : ExcName → Option Value} {mg mb : Str → Option Value} {fa sl : Addr} {o : Obj} {fd : FuncData} {vs : List Value} {ns : List Int} {args : List WData}
    (KX : K.In s₁.heap) (T : Top p loose mean mg mb s₁.heap) (hg : s₁.gens = #[]) (ho : s₁.heap.get? fa = some o) (hd : o.data = .func fd) (hcd : s₁.heap.CodeRec fd.code fd.qualname) (hL : s₁.heap.IsList sl vs.toArray) (hI : IntsAre vs ns) (hz : ¬ (63 : Int) < ns.length)
    (hbody : fd.body = .stmts f_law.body) (hscope : fd.scope = f_law.scope) (hbind : bindArgs fd ⟨[.ref sl], []⟩ = pure [(Str.ofString "script", Value.ref sl)]) (hclo : fd.closure = []) (hglob : fd.globals = mainGlobals) (hblt : fd.builtins = builtinsNs) (FX : Facts K) :
    wpAny (model PySem.Challenge.rw_nt0188_01.row.prog w) callerA (call (.ref fa) [.ref sl])
      (fun v s' => GoodWG PySem.Challenge.rw_nt0188_01.row.claim (classAt s₀.heap) (ExcName.means s₀.heap) args s₁ (.ok (.ret v)) s')
      (fun e s' => GoodWG PySem.Challenge.rw_nt0188_01.row.claim (classAt s₀.heap) (ExcName.means s₀.heap) args s₁ (.error e) s') s₁ := by
  obtain ⟨os, h1, h2, k, h3⟩ := hL
  have top : Top0 K s₁.heap := ⟨KX, ⟨mg, T.g⟩, ⟨mb, T.b, T.builtins⟩, T.nolimit⟩
  refine wpAny_call (codeAny_mono (law_call (c := ⟨PySem.Challenge.rw_nt0188_01.row.prog, w, K, FX, s₁.heap, s₁, top⟩) rfl ho hd hcd hbody hscope hbind hclo hglob hblt h1 h2 h3 (intsV_of hI) (by have := IntsAre.len_ hI; lia)) ?_)
  rintro r s' ⟨rfl, hk, hos, hgens⟩
  have hpost : PySem.Challenge.rw_nt0188_01.row.claim.post args (.bool true) args = true := postW_of (by wrow_shape) (by wtm_val) (by rfl)
  refine GoodW.toG ⟨.inl ⟨.bool true, .bool true, [], rfl, fun cls => rfl, .bool true, hpost, fun _ => ⟨List.nodup_nil, fun a h => nomatch h⟩⟩, hk, hos, hgens.trans hg⟩
end TL6
end Mine
theorem Mine.top.tw2601905985415302144 : True := trivial
theorem Mine.top.tw16238753720851828768 : True := trivial
theorem Mine.top.tw11582926029173025856 : True := trivial
theorem Mine.top.tw14142502885225118848 : True := trivial
theorem Mine.top.tw984902984118615328 : True := trivial
theorem Mine.top.tw13370185576492129568 : True := trivial
theorem Mine.top.tw2218668502564051296 : True := trivial
theorem Mine.top.tw15542334942015070624 : True := trivial
theorem Mine.top.tw13160728816969591200 : True := trivial
theorem Mine.top.tw13223034962123697568 : True := trivial
theorem Mine.top.tw14168018189251442112 : True := trivial
theorem Mine.top.tw2417791160451022400 : True := trivial
theorem Mine.top.tw76412952228603488 : True := trivial
theorem Mine.top.tw2741389259953327712 : True := trivial
theorem Mine.top.tw1732150942055357024 : True := trivial
theorem Mine.top.tw15874363893724204672 : True := trivial
theorem Mine.top.tw1971433849790844608 : True := trivial
theorem Mine.top.tw7847650389618582240 : True := trivial
theorem Mine.top.tw3474246075231452896 : True := trivial
theorem Mine.top.tw4468942710605802240 : True := trivial
theorem Mine.top.tw16104615914030681952 : True := trivial
theorem Mine.top.tw114735475811551136 : True := trivial
theorem Mine.top.tw12973084742139787200 : True := trivial
theorem Mine.top.tw17953984050398360512 : True := trivial
theorem Mine.top.tw11613256710310857696 : True := trivial
theorem Mine.top.tw5984054676000910304 : True := trivial
theorem Mine.top.tw2847958352784047137 : True := trivial
theorem Mine.top.tw9666326922614434849 : True := trivial
theorem Mine.top.tw17795014544551873601 : True := trivial
theorem Mine.top.tw7761843605638006849 : True := trivial
theorem Mine.top.tw9953747333497923681 : True := trivial
theorem Mine.top.tw1400011881503588481 : True := trivial
theorem Mine.top.tw7213333562754528385 : True := trivial
theorem Mine.top.tw8507776931139520737 : True := trivial
theorem Mine.top.tw2770563814800254177 : True := trivial
theorem Mine.top.tw1068965626710143233 : True := trivial
theorem Mine.top.tw4859757453598101857 : True := trivial
theorem Mine.top.tw1584292188352093569 : True := trivial
theorem Mine.top.tw18289109515434150305 : True := trivial
theorem Mine.top.tw15177526630643400193 : True := trivial
theorem Mine.top.tw7128477653932159489 : True := trivial
theorem Mine.top.tw13985988839938425345 : True := trivial
theorem Mine.top.tw11377482038585738817 : True := trivial
theorem Mine.top.tw5892708079436301921 : True := trivial
theorem Mine.top.tw11045010717311733409 : True := trivial
theorem Mine.top.tw229094368610388673 : True := trivial
theorem Mine.top.tw11845233108574324481 : True := trivial
theorem Mine.top.tw1601500998369573665 : True := trivial
theorem Mine.top.tw9016798869158615873 : True := trivial
theorem Mine.top.tw462939625794472801 : True := trivial
theorem Mine.top.tw3696473221133414273 : True := trivial
theorem Mine.top.tw9272544492142499777 : True := trivial
theorem Mine.top.tw5647976800219259906 : True := trivial
theorem Mine.top.tw4856909995586565122 : True := trivial
theorem Mine.top.tw2405475915293451298 : True := trivial
theorem Mine.top.tw15508944514630427714 : True := trivial
theorem Mine.top.tw9601329371697537090 : True := trivial
theorem Mine.top.tw4177254973167742082 : True := trivial
theorem Mine.top.tw2029088862249889922 : True := trivial
theorem Mine.top.tw5552270689369575618 : True := trivial
theorem Mine.top.tw728428047077509346 : True := trivial
theorem Mine.top.tw3217022616335106338 : True := trivial
theorem Mine.top.tw16315627841946644802 : True := trivial
theorem Mine.top.tw2972514686349903234 : True := trivial
theorem Mine.top.tw3767615275625035234 : True := trivial
theorem Mine.top.tw1291508964198565346 : True := trivial
theorem Mine.top.tw17545328352263074274 : True := trivial
theorem Mine.top.tw1016984595167383106 : True := trivial
theorem Mine.top.tw11620634932572840514 : True := trivial
theorem Mine.top.tw15254643099363442306 : True := trivial
theorem Mine.top.tw15823732540823425666 : True := trivial
theorem Mine.top.tw9739860059890490050 : True := trivial
theorem Mine.top.tw5728218623943512802 : True := trivial
theorem Mine.top.tw7538252964068480738 : True := trivial
theorem Mine.top.tw12425085872883035938 : True := trivial
theorem Mine.top.tw4392038535549328194 : True := trivial
theorem Mine.top.tw17103177528636943170 : True := trivial
theorem Mine.top.tw16878204669230926818 : True := trivial
theorem Mine.top.tw2988451766255067171 : True := trivial
theorem Mine.top.tw14263998999751124003 : True := trivial
theorem Mine.top.tw8321918168302905379 : True := trivial
theorem Mine.top.tw2665807947273092163 : True := trivial
theorem Mine.top.tw14235281626263879747 : True := trivial
theorem Mine.top.tw9961057766049560675 : True := trivial
theorem Mine.top.tw9503340733035011235 : True := trivial
theorem Mine.top.tw10414433010598505635 : True := trivial
theorem Mine.top.tw8311017846404947139 : True := trivial
theorem Mine.top.tw6756868429301003459 : True := trivial
theorem Mine.top.tw4010397242664982755 : True := trivial
theorem Mine.top.tw15696354942287192291 : True := trivial
theorem Mine.top.tw15073315481182737699 : True := trivial
theorem Mine.top.tw15687709949711836451 : True := trivial
theorem Mine.top.tw1212798325632107971 : True := trivial
theorem Mine.top.tw3871027444623705763 : True := trivial
theorem Mine.top.tw17474498911051797155 : True := trivial
theorem Mine.top.tw9149571693438533347 : True := trivial
theorem Mine.top.tw14632489290957082403 : True := trivial
theorem Mine.top.tw15740088241188596515 : True := trivial
theorem Mine.top.tw14796646475526232899 : True := trivial
theorem Mine.top.tw13305523845174962083 : True := trivial
theorem Mine.top.tw1297684725254868899 : True := trivial
theorem Mine.top.tw16054190913257422852 : True := trivial
theorem Mine.top.tw14608685727046917156 : True := trivial
theorem Mine.top.tw2287823674025257028 : True := trivial
theorem Mine.top.tw6292954644110606532 : True := trivial
theorem Mine.top.tw12787338502077490372 : True := trivial
theorem Mine.top.tw15212760480394562756 : True := trivial
theorem Mine.top.tw16734371015571099844 : True := trivial
theorem Mine.top.tw14450715343900746980 : True := trivial
theorem Mine.top.tw8281120267493503204 : True := trivial
theorem Mine.top.tw13710211086531791108 : True := trivial
theorem Mine.top.tw3831216023754155268 : True := trivial
theorem Mine.top.tw10694878333477680388 : True := trivial
theorem Mine.top.tw401921906979044612 : True := trivial
theorem Mine.top.tw16541100652227675460 : True := trivial
theorem Mine.top.tw146815374380898660 : True := trivial
theorem Mine.top.tw14987219478266130788 : True := trivial
theorem Mine.top.tw7033079012710635876 : True := trivial
theorem Mine.top.tw1717825165581474212 : True := trivial
theorem Mine.top.tw7817637940432870852 : True := trivial
theorem Mine.top.tw15525995667512963556 : True := trivial
theorem Mine.top.tw12764151676501842404 : True := trivial
theorem Mine.top.tw16058212318047004132 : True := trivial
theorem Mine.top.tw370947364307004932 : True := trivial
theorem Mine.top.tw13012589842206080548 : True := trivial
theorem Mine.top.tw14459580976405569124 : True := trivial
theorem Mine.top.tw12483720753089274532 : True := trivial
theorem Mine.top.tw814325599930780420 : True := trivial
theorem Mine.top.tw18064794426631996164 : True := trivial
theorem Mine.top.tw2834867161891130308 : True := trivial
theorem Mine.top.tw7671549972530922468 : True := trivial
theorem Mine.top.tw4656485037274611717 : True := trivial
theorem Mine.top.tw15646934709686841381 : True := trivial
theorem Mine.top.tw17810072253543177317 : True := trivial
theorem Mine.top.tw6505410396798821541 : True := trivial
theorem Mine.top.tw4691186174975459493 : True := trivial
theorem Mine.top.tw3796891538752321733 : True := trivial
theorem Mine.top.tw8892184565913893157 : True := trivial
theorem Mine.top.tw2685012915969955173 : True := trivial
theorem Mine.top.tw13001836021917841797 : True := trivial
theorem Mine.top.tw9227541089923242437 : True := trivial
theorem Mine.top.tw3976154599441133093 : True := trivial
theorem Mine.top.tw81815255157605957 : True := trivial
theorem Mine.top.tw196536941598035525 : True := trivial
theorem Mine.top.tw7313339093194340965 : True := trivial
theorem Mine.top.tw8212240652046128837 : True := trivial
theorem Mine.top.tw17033825039287860005 : True := trivial
theorem Mine.top.tw9685713192446186341 : True := trivial
theorem Mine.top.tw8363718466572441477 : True := trivial
theorem Mine.top.tw3669314199184481253 : True := trivial
theorem Mine.top.tw1294077662247117797 : True := trivial
theorem Mine.top.tw16600302727076016134 : True := trivial
theorem Mine.top.tw10006222313960134694 : True := trivial
theorem Mine.top.tw4840481374290595910 : True := trivial
theorem Mine.top.tw12879618353801967718 : True := trivial
theorem Mine.top.tw16736118626332596326 : True := trivial
theorem Mine.top.tw6520327441239513222 : True := trivial
theorem Mine.top.tw13501252493785611398 : True := trivial
theorem Mine.top.tw3140898538269762758 : True := trivial
theorem Mine.top.tw297971269722091814 : True := trivial
theorem Mine.top.tw11383000496634168614 : True := trivial
theorem Mine.top.tw6749217079512962374 : True := trivial
theorem Mine.top.tw8435561252592420358 : True := trivial
theorem Mine.top.tw5969682004907312646 : True := trivial
theorem Mine.top.tw14042817526060737062 : True := trivial
theorem Mine.top.tw10617020205504526918 : True := trivial
theorem Mine.top.tw10706379575450619462 : True := trivial
theorem Mine.top.tw18186074749648716422 : True := trivial
theorem Mine.top.tw8420165910927482534 : True := trivial
theorem Mine.top.tw1736530178072539846 : True := trivial
theorem Mine.top.tw7715697345341360870 : True := trivial
theorem Mine.top.tw9614876229902214918 : True := trivial
theorem Mine.top.tw14526540143163920134 : True := trivial
theorem Mine.top.tw4835499133494076262 : True := trivial
theorem Mine.top.tw168773606155904870 : True := trivial
theorem Mine.top.tw14671331368771545958 : True := trivial
theorem Mine.top.tw5860347150701562758 : True := trivial
theorem Mine.top.tw2506305409684761478 : True := trivial
theorem Mine.top.tw10783980745131425670 : True := trivial
theorem Mine.top.tw8679839319945467846 : True := trivial
theorem Mine.top.tw10467260515200827399 : True := trivial
theorem Mine.top.tw3195968871104189447 : True := trivial
theorem Mine.top.tw16578455231714176007 : True := trivial
theorem Mine.top.tw16840627104734473223 : True := trivial
theorem Mine.top.tw11189890337720088615 : True := trivial
theorem Mine.top.tw6491118196486620199 : True := trivial
theorem Mine.top.tw860223938195835975 : True := trivial
theorem Mine.top.tw11459358961799972967 : True := trivial
theorem Mine.top.tw12256363837256957063 : True := trivial
theorem Mine.top.tw953821971998124167 : True := trivial
theorem Mine.top.tw8043003576528973991 : True := trivial
theorem Mine.top.tw53344730913325255 : True := trivial
theorem Mine.top.tw11443710868159068359 : True := trivial
theorem Mine.top.tw1697544655201012999 : True := trivial
theorem Mine.top.tw6459276657848829223 : True := trivial
theorem Mine.top.tw9759319705405543751 : True := trivial
theorem Mine.top.tw6176384092110617959 : True := trivial
theorem Mine.top.tw2731995056826638727 : True := trivial
theorem Mine.top.tw6286779285267259847 : True := trivial
theorem Mine.top.tw14214845130331304391 : True := trivial
theorem Mine.top.tw9165953624949470791 : True := trivial
theorem Mine.top.tw12545222027267286695 : True := trivial
theorem Mine.top.tw6883741973766446791 : True := trivial
theorem Mine.top.tw1209819496270969543 : True := trivial
theorem Mine.top.tw10864713392326063847 : True := trivial
theorem Mine.top.tw13090165191389475591 : True := trivial
theorem Mine.top.tw13968125046926948103 : True := trivial
theorem Mine.top.tw5186518429493523239 : True := trivial
theorem Mine.top.tw775762912060472103 : True := trivial
theorem Mine.top.tw12819366960792805191 : True := trivial
theorem Mine.top.tw13385244156195431271 : True := trivial
theorem Mine.top.tw10361075674979980167 : True := trivial
theorem Mine.top.tw3581848524822189991 : True := trivial
theorem Mine.top.tw2859833716702649255 : True := trivial
theorem Mine.top.tw14145802354927516647 : True := trivial
theorem Mine.top.tw7657828476027519975 : True := trivial
theorem Mine.top.tw3484022092364678248 : True := trivial
theorem Mine.top.tw16982378080980825192 : True := trivial
theorem Mine.top.tw13994475860397038760 : True := trivial
theorem Mine.top.tw10643057118474118344 : True := trivial
theorem Mine.top.tw14615657086365298920 : True := trivial
theorem Mine.top.tw16439428074185983240 : True := trivial
theorem Mine.top.tw13864677062968915208 : True := trivial
theorem Mine.top.tw708234853630380328 : True := trivial
theorem Mine.top.tw6344908462629032296 : True := trivial
theorem Mine.top.tw3261557481417251176 : True := trivial
theorem Mine.top.tw4205137553216949640 : True := trivial
theorem Mine.top.tw18063644159110109576 : True := trivial
theorem Mine.top.tw83393220934416808 : True := trivial
theorem Mine.top.tw6370870915552960936 : True := trivial
theorem Mine.top.tw1486479319815781832 : True := trivial
theorem Mine.top.tw12622177474791663080 : True := trivial
theorem Mine.top.tw16414630628198896168 : True := trivial
theorem Mine.top.tw10657950659306570408 : True := trivial
theorem Mine.top.tw5667650583090716360 : True := trivial
theorem Mine.top.tw10648311167861321448 : True := trivial
theorem Mine.top.tw594810645892935528 : True := trivial
theorem Mine.top.tw517144808224063464 : True := trivial
theorem Mine.top.tw4916261283513009128 : True := trivial
theorem Mine.top.tw6906291655842520137 : True := trivial
theorem Mine.top.tw13177472732611162249 : True := trivial
theorem Mine.top.tw2047500489365003465 : True := trivial
theorem Mine.top.tw15878805988109762761 : True := trivial
theorem Mine.top.tw10548783162686979305 : True := trivial
theorem Mine.top.tw15860264024139754761 : True := trivial
theorem Mine.top.tw13303987763403120937 : True := trivial
theorem Mine.top.tw12287887523310495049 : True := trivial
theorem Mine.top.tw3909029901177050473 : True := trivial
theorem Mine.top.tw17103585973383926153 : True := trivial
theorem Mine.top.tw2580922434103091657 : True := trivial
theorem Mine.top.tw16123964013534891561 : True := trivial
theorem Mine.top.tw4555866861457887817 : True := trivial
theorem Mine.top.tw15569959144833144457 : True := trivial
theorem Mine.top.tw13290321428070320777 : True := trivial
theorem Mine.top.tw16782997733028217545 : True := trivial
theorem Mine.top.tw8637452081102412489 : True := trivial
theorem Mine.top.tw7845129631348957993 : True := trivial
theorem Mine.top.tw3087888393795971977 : True := trivial
theorem Mine.top.tw9326722878772556681 : True := trivial
theorem Mine.top.tw3378803678994701225 : True := trivial
theorem Mine.top.tw17788931634197215145 : True := trivial
theorem Mine.top.tw516228168201391017 : True := trivial
theorem Mine.top.tw4671429814451907529 : True := trivial
theorem Mine.top.tw7855079511596107753 : True := trivial
theorem Mine.top.tw10915162052029792233 : True := trivial
theorem Mine.top.tw2770239361232196585 : True := trivial
theorem Mine.top.tw13187519465064655849 : True := trivial
theorem Mine.top.tw8622502720953521162 : True := trivial
theorem Mine.top.tw9990226795618131978 : True := trivial
theorem Mine.top.tw339143206060000330 : True := trivial
theorem Mine.top.tw2732273902793177162 : True := trivial
theorem Mine.top.tw3315250197877816394 : True := trivial
theorem Mine.top.tw16674975167109581930 : True := trivial
theorem Mine.top.tw9500101231901548682 : True := trivial
theorem Mine.top.tw9059672392935016618 : True := trivial
theorem Mine.top.tw12166907935582030026 : True := trivial
theorem Mine.top.tw10187724287525710026 : True := trivial
theorem Mine.top.tw8523463495250067690 : True := trivial
theorem Mine.top.tw7204493036743257322 : True := trivial
theorem Mine.top.tw14317375437502057738 : True := trivial
theorem Mine.top.tw9233715247699887402 : True := trivial
theorem Mine.top.tw5058314954733539658 : True := trivial
theorem Mine.top.tw342308947776675178 : True := trivial
theorem Mine.top.tw501154541418245514 : True := trivial
theorem Mine.top.tw16004416686337608138 : True := trivial
theorem Mine.top.tw14372152842798730730 : True := trivial
theorem Mine.top.tw2369445192022557226 : True := trivial
theorem Mine.top.tw15976228082101565994 : True := trivial
theorem Mine.top.tw8184561461823581802 : True := trivial
theorem Mine.top.tw17085176360113175178 : True := trivial
theorem Mine.top.tw12461197088210718378 : True := trivial
theorem Mine.top.tw9919435345466941130 : True := trivial
theorem Mine.top.tw7717162694582976202 : True := trivial
theorem Mine.top.tw17469865338272021226 : True := trivial
theorem Mine.top.tw13889309363888878346 : True := trivial
theorem Mine.top.tw16068562728529669930 : True := trivial
theorem Mine.top.tw1142465760834251562 : True := trivial
theorem Mine.top.tw1655259298481077034 : True := trivial
theorem Mine.top.tw1321871150748368714 : True := trivial
theorem Mine.top.tw14724332232928298890 : True := trivial
theorem Mine.top.tw8443935842833279946 : True := trivial
theorem Mine.top.tw9951221954081769418 : True := trivial
theorem Mine.top.tw5513142621748847562 : True := trivial
theorem Mine.top.tw6624316729101989866 : True := trivial
theorem Mine.top.tw14248925298954806443 : True := trivial
theorem Mine.top.tw6919701780365589675 : True := trivial
theorem Mine.top.tw13370750898655102155 : True := trivial
theorem Mine.top.tw2683898200743741643 : True := trivial
theorem Mine.top.tw3002795768020413707 : True := trivial
theorem Mine.top.tw10328360990557673835 : True := trivial
theorem Mine.top.tw6812286434817487243 : True := trivial
theorem Mine.top.tw6431110157172167083 : True := trivial
theorem Mine.top.tw13706816188851595723 : True := trivial
theorem Mine.top.tw6430265229019958763 : True := trivial
theorem Mine.top.tw6674990990233134667 : True := trivial
theorem Mine.top.tw7587601194962177611 : True := trivial
theorem Mine.top.tw16415559393655328363 : True := trivial
theorem Mine.top.tw10252623693936335467 : True := trivial
theorem Mine.top.tw13272337422414781067 : True := trivial
theorem Mine.top.tw1522322319653140107 : True := trivial
theorem Mine.top.tw8140125068956082859 : True := trivial
theorem Mine.top.tw956942650209027819 : True := trivial
theorem Mine.top.tw17315540178315561739 : True := trivial
theorem Mine.top.tw7673058066778466091 : True := trivial
theorem Mine.top.tw14282377253939248939 : True := trivial
theorem Mine.top.tw15271675978053873483 : True := trivial
theorem Mine.top.tw9962302188120564619 : True := trivial
theorem Mine.top.tw9233335307524088747 : True := trivial
theorem Mine.top.tw13713866747541496747 : True := trivial
theorem Mine.top.tw17576975557295073227 : True := trivial
theorem Mine.top.tw10871174231137468428 : True := trivial
theorem Mine.top.tw9227057690007400460 : True := trivial
theorem Mine.top.tw5915399644114372684 : True := trivial
theorem Mine.top.tw5154712349067173964 : True := trivial
theorem Mine.top.tw15744752440731449612 : True := trivial
theorem Mine.top.tw2443449257678562572 : True := trivial
theorem Mine.top.tw17470836177267949868 : True := trivial
theorem Mine.top.tw5609151216138764652 : True := trivial
theorem Mine.top.tw3969286963782609292 : True := trivial
theorem Mine.top.tw3331421620988305804 : True := trivial
theorem Mine.top.tw5240762971458559404 : True := trivial
theorem Mine.top.tw13799840507378627052 : True := trivial
theorem Mine.top.tw6333448901615975916 : True := trivial
theorem Mine.top.tw9195894827357321740 : True := trivial
theorem Mine.top.tw6503730183909636620 : True := trivial
theorem Mine.top.tw11542710104232473196 : True := trivial
theorem Mine.top.tw17781115878593249900 : True := trivial
theorem Mine.top.tw3254097082911018636 : True := trivial
theorem Mine.top.tw12958664272152378060 : True := trivial
theorem Mine.top.tw4951766788466123468 : True := trivial
theorem Mine.top.tw16240068400928781132 : True := trivial
theorem Mine.top.tw10404823597219466188 : True := trivial
theorem Mine.top.tw13987285891283452908 : True := trivial
theorem Mine.top.tw2365566498512967660 : True := trivial
theorem Mine.top.tw11487050411539548173 : True := trivial
theorem Mine.top.tw6240723676877644813 : True := trivial
theorem Mine.top.tw14453841093610474573 : True := trivial
theorem Mine.top.tw15383718091736126541 : True := trivial
theorem Mine.top.tw2165817408578904141 : True := trivial
theorem Mine.top.tw13822267516522204269 : True := trivial
theorem Mine.top.tw16174758807025615021 : True := trivial
theorem Mine.top.tw7527032243904285869 : True := trivial
theorem Mine.top.tw17135812771915316397 : True := trivial
theorem Mine.top.tw3846862658102513837 : True := trivial
theorem Mine.top.tw16352630495959832749 : True := trivial
theorem Mine.top.tw17555251805378815213 : True := trivial
theorem Mine.top.tw7744093853086628109 : True := trivial
theorem Mine.top.tw13321276293971071309 : True := trivial
theorem Mine.top.tw1112988674713690477 : True := trivial
theorem Mine.top.tw15125931889511115149 : True := trivial
theorem Mine.top.tw3479634599624807885 : True := trivial
theorem Mine.top.tw18062624165398249997 : True := trivial
theorem Mine.top.tw11279283689885193741 : True := trivial
theorem Mine.top.tw10774637447528242797 : True := trivial
theorem Mine.top.tw283044589724301 : True := trivial
theorem Mine.top.tw17756597512981354157 : True := trivial
theorem Mine.top.tw4940147422707163885 : True := trivial
theorem Mine.top.tw16719718919923625709 : True := trivial
theorem Mine.top.tw2581206410525282061 : True := trivial
theorem Mine.top.tw1814787853859245837 : True := trivial
theorem Mine.top.tw12080426169559351053 : True := trivial
theorem Mine.top.tw17964300760807480141 : True := trivial
theorem Mine.top.tw8265191368974092141 : True := trivial
theorem Mine.top.tw672699306608606093 : True := trivial
theorem Mine.top.tw10574840078274726829 : True := trivial
theorem Mine.top.tw661290744650703789 : True := trivial
theorem Mine.top.tw1516213087968936877 : True := trivial
theorem Mine.top.tw12427389293880184781 : True := trivial
theorem Mine.top.tw13191473780850816973 : True := trivial
theorem Mine.top.tw13318506193475082254 : True := trivial
theorem Mine.top.tw14502225709538309166 : True := trivial
theorem Mine.top.tw12385144161495827662 : True := trivial
theorem Mine.top.tw6203543418390704334 : True := trivial
theorem Mine.top.tw12209182163369298222 : True := trivial
theorem Mine.top.tw8472579005086612782 : True := trivial
theorem Mine.top.tw15451780782824253742 : True := trivial
theorem Mine.top.tw7297446738713254254 : True := trivial
theorem Mine.top.tw5476889619067714990 : True := trivial
theorem Mine.top.tw2544169868661182894 : True := trivial
theorem Mine.top.tw12894197372075662830 : True := trivial
theorem Mine.top.tw2462062305354472974 : True := trivial
theorem Mine.top.tw1142415686869020238 : True := trivial
theorem Mine.top.tw15240379268576122478 : True := trivial
theorem Mine.top.tw1803303928475200142 : True := trivial
theorem Mine.top.tw6124053682588569230 : True := trivial
theorem Mine.top.tw14611434983143301774 : True := trivial
theorem Mine.top.tw10362775142378211054 : True := trivial
theorem Mine.top.tw17542608870123051758 : True := trivial
theorem Mine.top.tw15299407806266782574 : True := trivial
theorem Mine.top.tw12718909917080609646 : True := trivial
theorem Mine.top.tw15503665604740900718 : True := trivial
theorem Mine.top.tw12958502747184954254 : True := trivial
theorem Mine.top.tw3453223234828964814 : True := trivial
theorem Mine.top.tw5938664839603501006 : True := trivial
theorem Mine.top.tw17176029603704830031 : True := trivial
theorem Mine.top.tw18185382058313985135 : True := trivial
theorem Mine.top.tw6898770573198911631 : True := trivial
theorem Mine.top.tw11334350811105764591 : True := trivial
theorem Mine.top.tw1638113669730673903 : True := trivial
theorem Mine.top.tw1123975283337734383 : True := trivial
theorem Mine.top.tw14697636140705633519 : True := trivial
theorem Mine.top.tw17565814175750979855 : True := trivial
theorem Mine.top.tw8560541052185303311 : True := trivial
theorem Mine.top.tw381845443943030031 : True := trivial
theorem Mine.top.tw16900427199656544559 : True := trivial
theorem Mine.top.tw9631074621892390191 : True := trivial
theorem Mine.top.tw13326734554550294991 : True := trivial
theorem Mine.top.tw9913501989792142831 : True := trivial
theorem Mine.top.tw16809779246217341487 : True := trivial
theorem Mine.top.tw9590735534726013551 : True := trivial
theorem Mine.top.tw11145643937294416527 : True := trivial
theorem Mine.top.tw2103985501979894447 : True := trivial
theorem Mine.top.tw8369368087495890639 : True := trivial
theorem Mine.top.tw5581607755468803823 : True := trivial
theorem Mine.top.tw12714690216161085199 : True := trivial
theorem Mine.top.tw46980244435833615 : True := trivial
theorem Mine.top.tw10567129059001840431 : True := trivial
theorem Mine.top.tw10296497611174029103 : True := trivial
theorem Mine.top.tw11762496359356365647 : True := trivial
theorem Mine.top.tw2126296398998916975 : True := trivial
theorem Mine.top.tw352232786441526191 : True := trivial
theorem Mine.top.tw9378254376102152143 : True := trivial
theorem Mine.top.tw8623022884188638191 : True := trivial
theorem Mine.top.tw1040915598704419856 : True := trivial
theorem Mine.top.tw1843344800811705456 : True := trivial
theorem Mine.top.tw2145171640123136144 : True := trivial
theorem Mine.top.tw12392516345856041104 : True := trivial
theorem Mine.top.tw6893477703608230032 : True := trivial
theorem Mine.top.tw390997316461189296 : True := trivial
theorem Mine.top.tw3664424711883983056 : True := trivial
theorem Mine.top.tw5235370132326077648 : True := trivial
theorem Mine.top.tw11982747722937265360 : True := trivial
theorem Mine.top.tw8538268897159353584 : True := trivial
theorem Mine.top.tw7414872774492366064 : True := trivial
theorem Mine.top.tw10276331973627342096 : True := trivial
theorem Mine.top.tw104434173382791472 : True := trivial
theorem Mine.top.tw9382581127745807760 : True := trivial
theorem Mine.top.tw1585457916280141200 : True := trivial
theorem Mine.top.tw8735323631387419056 : True := trivial
theorem Mine.top.tw16044733080236030384 : True := trivial
theorem Mine.top.tw7444641836354208208 : True := trivial
theorem Mine.top.tw17576949682797635024 : True := trivial
theorem Mine.top.tw2752453847809088016 : True := trivial
theorem Mine.top.tw7273676953221729872 : True := trivial
theorem Mine.top.tw602653604445443664 : True := trivial
theorem Mine.top.tw2968346561183084112 : True := trivial
theorem Mine.top.tw14537839394382259888 : True := trivial
theorem Mine.top.tw8410488445778877200 : True := trivial
theorem Mine.top.tw7600245330811189008 : True := trivial
theorem Mine.top.tw15095372191486117680 : True := trivial
theorem Mine.top.tw12342655685612074800 : True := trivial
theorem Mine.top.tw14861896470697024400 : True := trivial
theorem Mine.top.tw4383139521930768336 : True := trivial
theorem Mine.top.tw12507017104952529904 : True := trivial
theorem Mine.top.tw8393700709775954928 : True := trivial
theorem Mine.top.tw7429413206186439793 : True := trivial
theorem Mine.top.tw2926424126403749041 : True := trivial
theorem Mine.top.tw3820434133910038737 : True := trivial
theorem Mine.top.tw18086089286151905521 : True := trivial
theorem Mine.top.tw10996937224433265937 : True := trivial
theorem Mine.top.tw1245559373397905713 : True := trivial
theorem Mine.top.tw8547604310838440241 : True := trivial
theorem Mine.top.tw18019038629786789233 : True := trivial
theorem Mine.top.tw8297286125493194097 : True := trivial
theorem Mine.top.tw14597223018079223185 : True := trivial
theorem Mine.top.tw8823455108540655025 : True := trivial
theorem Mine.top.tw7913636548009798097 : True := trivial
theorem Mine.top.tw17828378304095215089 : True := trivial
theorem Mine.top.tw8204474986945543665 : True := trivial
theorem Mine.top.tw11457754044182789617 : True := trivial
theorem Mine.top.tw9305691244287143441 : True := trivial
theorem Mine.top.tw2835187731363253809 : True := trivial
theorem Mine.top.tw7522852383072776753 : True := trivial
theorem Mine.top.tw8693662901424576113 : True := trivial
theorem Mine.top.tw1706793611546318481 : True := trivial
theorem Mine.top.tw9166809390415177425 : True := trivial
theorem Mine.top.tw5225153198818245361 : True := trivial
theorem Mine.top.tw2446451932059125521 : True := trivial
theorem Mine.top.tw9335426496214029073 : True := trivial
theorem Mine.top.tw13307591127769906961 : True := trivial
theorem Mine.top.tw18008055252877512497 : True := trivial
theorem Mine.top.tw2822501910515967889 : True := trivial
theorem Mine.top.tw4076138812419527698 : True := trivial
theorem Mine.top.tw12564220515667953714 : True := trivial
theorem Mine.top.tw908825868028484722 : True := trivial
theorem Mine.top.tw987869383939708018 : True := trivial
theorem Mine.top.tw16597617366809209970 : True := trivial
theorem Mine.top.tw2287362676942042354 : True := trivial
theorem Mine.top.tw9259421805112917234 : True := trivial
theorem Mine.top.tw3855276242980373810 : True := trivial
theorem Mine.top.tw15877122091014420850 : True := trivial
theorem Mine.top.tw2907113945770861938 : True := trivial
theorem Mine.top.tw14657780768301432306 : True := trivial
theorem Mine.top.tw132903981291199154 : True := trivial
theorem Mine.top.tw16866024460163772082 : True := trivial
theorem Mine.top.tw11219769389204665010 : True := trivial
theorem Mine.top.tw427420600052151026 : True := trivial
theorem Mine.top.tw8645369167282567922 : True := trivial
theorem Mine.top.tw9328819404386307858 : True := trivial
theorem Mine.top.tw14399976873020721970 : True := trivial
theorem Mine.top.tw13261893007816960818 : True := trivial
theorem Mine.top.tw3357215229441099570 : True := trivial
theorem Mine.top.tw10987319290404115282 : True := trivial
theorem Mine.top.tw15092371282622821202 : True := trivial
theorem Mine.top.tw12540527436937284434 : True := trivial
theorem Mine.top.tw10090393231696489298 : True := trivial
theorem Mine.top.tw8025738503920905074 : True := trivial
theorem Mine.top.tw2619622883677149074 : True := trivial
theorem Mine.top.tw16550210197400561554 : True := trivial
theorem Mine.top.tw8148004212497801138 : True := trivial
theorem Mine.top.tw4699463449715708850 : True := trivial
theorem Mine.top.tw17177869089781658578 : True := trivial
theorem Mine.top.tw1483126911874232274 : True := trivial
theorem Mine.top.tw16795567611416646642 : True := trivial
theorem Mine.top.tw11470252648414753811 : True := trivial
theorem Mine.top.tw887695700811335699 : True := trivial
theorem Mine.top.tw12216891806147817523 : True := trivial
theorem Mine.top.tw4571971715460732019 : True := trivial
theorem Mine.top.tw5507162329139097715 : True := trivial
theorem Mine.top.tw9229161468869434483 : True := trivial
theorem Mine.top.tw7740819693856082067 : True := trivial
theorem Mine.top.tw2007660962349395123 : True := trivial
theorem Mine.top.tw16938921287264067795 : True := trivial
theorem Mine.top.tw16204670001084760307 : True := trivial
theorem Mine.top.tw13432635357386499347 : True := trivial
theorem Mine.top.tw11141966352661209427 : True := trivial
theorem Mine.top.tw5088376156974544275 : True := trivial
theorem Mine.top.tw11133666699803404755 : True := trivial
theorem Mine.top.tw6662652255960138227 : True := trivial
theorem Mine.top.tw729201693064108563 : True := trivial
theorem Mine.top.tw5398424786039705171 : True := trivial
theorem Mine.top.tw1275901062530889299 : True := trivial
theorem Mine.top.tw13420762306968818387 : True := trivial
theorem Mine.top.tw16612331741718818515 : True := trivial
theorem Mine.top.tw877433047237710547 : True := trivial
theorem Mine.top.tw9843949296442739443 : True := trivial
theorem Mine.top.tw12117888159696746259 : True := trivial
theorem Mine.top.tw5278709424875269971 : True := trivial
theorem Mine.top.tw7160873610591055699 : True := trivial
theorem Mine.top.tw8874702517807110003 : True := trivial
theorem Mine.top.tw1492452104121835379 : True := trivial
theorem Mine.top.tw7743179893348639699 : True := trivial
theorem Mine.top.tw17486766287000646611 : True := trivial
theorem Mine.top.tw2758071753971750899 : True := trivial
theorem Mine.top.tw12643491718579748851 : True := trivial
theorem Mine.top.tw15918733279669447828 : True := trivial
theorem Mine.top.tw16509065781470453940 : True := trivial
theorem Mine.top.tw13975414291046593716 : True := trivial
theorem Mine.top.tw1394568958698188020 : True := trivial
theorem Mine.top.tw9442318146202087700 : True := trivial
theorem Mine.top.tw84136930442132756 : True := trivial
theorem Mine.top.tw9407396174263392564 : True := trivial
theorem Mine.top.tw14789260269991461300 : True := trivial
theorem Mine.top.tw7799483888651840948 : True := trivial
theorem Mine.top.tw7079599612431449588 : True := trivial
theorem Mine.top.tw17022078359063049780 : True := trivial
theorem Mine.top.tw8800459187187324500 : True := trivial
theorem Mine.top.tw1617357707322924660 : True := trivial
theorem Mine.top.tw1284575025550258836 : True := trivial
theorem Mine.top.tw4159251561096739476 : True := trivial
theorem Mine.top.tw12535971307161669396 : True := trivial
theorem Mine.top.tw11922380849998532372 : True := trivial
theorem Mine.top.tw16759092144687519636 : True := trivial
theorem Mine.top.tw6694047246710070196 : True := trivial
theorem Mine.top.tw6265701101103706036 : True := trivial
theorem Mine.top.tw13983857475226248213 : True := trivial
theorem Mine.top.tw5225916559131626549 : True := trivial
theorem Mine.top.tw4784893810139332661 : True := trivial
theorem Mine.top.tw2686433634493928565 : True := trivial
theorem Mine.top.tw4796303294375832693 : True := trivial
theorem Mine.top.tw2924597203103170677 : True := trivial
theorem Mine.top.tw6664487174759623829 : True := trivial
theorem Mine.top.tw13047834502658803893 : True := trivial
theorem Mine.top.tw11994683656316670133 : True := trivial
theorem Mine.top.tw10562855833978642645 : True := trivial
theorem Mine.top.tw7008692893051332821 : True := trivial
theorem Mine.top.tw18374746225686918389 : True := trivial
theorem Mine.top.tw8817415213059835157 : True := trivial
theorem Mine.top.tw14402358008270493973 : True := trivial
theorem Mine.top.tw4791253341166991637 : True := trivial
theorem Mine.top.tw3739144386018749749 : True := trivial
theorem Mine.top.tw13549259019975226677 : True := trivial
theorem Mine.top.tw11960245374511038805 : True := trivial
theorem Mine.top.tw1988063486488863061 : True := trivial
theorem Mine.top.tw11334203419191126389 : True := trivial
theorem Mine.top.tw7386116660499605909 : True := trivial
theorem Mine.top.tw2220570432770164149 : True := trivial
theorem Mine.top.tw575894324575664597 : True := trivial
theorem Mine.top.tw4213018616267185653 : True := trivial
theorem Mine.top.tw11203750815551599093 : True := trivial
theorem Mine.top.tw18371284783138465269 : True := trivial
theorem Mine.top.tw72247145696351765 : True := trivial
theorem Mine.top.tw8147957265983640181 : True := trivial
theorem Mine.top.tw16034636559557993077 : True := trivial
theorem Mine.top.tw10797620697341660853 : True := trivial
theorem Mine.top.tw4058662728301269685 : True := trivial
theorem Mine.top.tw864819663365544661 : True := trivial
theorem Mine.top.tw10242591131026960117 : True := trivial
theorem Mine.top.tw13345470168829271861 : True := trivial
theorem Mine.top.tw9854310039474760501 : True := trivial
theorem Mine.top.tw5196900775432865589 : True := trivial
theorem Mine.top.tw350670483859837877 : True := trivial
theorem Mine.top.tw18367679650794681301 : True := trivial
theorem Mine.top.tw17342085116792181814 : True := trivial
theorem Mine.top.tw8813761850579938390 : True := trivial
theorem Mine.top.tw16394108629617908822 : True := trivial
theorem Mine.top.tw13044034144603486326 : True := trivial
theorem Mine.top.tw9800703332001039478 : True := trivial
theorem Mine.top.tw8265311939077410998 : True := trivial
theorem Mine.top.tw10801874191123338550 : True := trivial
theorem Mine.top.tw8054331753737935190 : True := trivial
theorem Mine.top.tw5597187220613765494 : True := trivial
theorem Mine.top.tw17346259052997144950 : True := trivial
theorem Mine.top.tw11116745826364501430 : True := trivial
theorem Mine.top.tw5648408011753718230 : True := trivial
theorem Mine.top.tw4736427724481360342 : True := trivial
theorem Mine.top.tw15362295582089109014 : True := trivial
theorem Mine.top.tw11159431927160009238 : True := trivial
theorem Mine.top.tw9366391650621772374 : True := trivial
theorem Mine.top.tw15638586536077026902 : True := trivial
theorem Mine.top.tw15169761463676818070 : True := trivial
theorem Mine.top.tw8694864300669457046 : True := trivial
theorem Mine.top.tw17050326753033342646 : True := trivial
theorem Mine.top.tw1195175773429642966 : True := trivial
theorem Mine.top.tw4166218997396506358 : True := trivial
theorem Mine.top.tw8657480035899644758 : True := trivial
theorem Mine.top.tw3584897518013459382 : True := trivial
theorem Mine.top.tw2985252069258134486 : True := trivial
theorem Mine.top.tw10194810499950245846 : True := trivial
theorem Mine.top.tw6438537300738474071 : True := trivial
theorem Mine.top.tw11053662475850362967 : True := trivial
theorem Mine.top.tw17492772389151264855 : True := trivial
theorem Mine.top.tw16044302676114139255 : True := trivial
theorem Mine.top.tw620129878449983639 : True := trivial
theorem Mine.top.tw7458633546980236471 : True := trivial
theorem Mine.top.tw16885616592811714743 : True := trivial
theorem Mine.top.tw12318557346453588183 : True := trivial
theorem Mine.top.tw7204998973626084599 : True := trivial
theorem Mine.top.tw3712731000106771831 : True := trivial
theorem Mine.top.tw9332579688445097367 : True := trivial
theorem Mine.top.tw7381879191629600215 : True := trivial
theorem Mine.top.tw3120133295221510679 : True := trivial
theorem Mine.top.tw9576743257966636567 : True := trivial
theorem Mine.top.tw2312856594315299383 : True := trivial
theorem Mine.top.tw16264823338695392855 : True := trivial
theorem Mine.top.tw2080415116128066167 : True := trivial
theorem Mine.top.tw4299629679881509495 : True := trivial
theorem Mine.top.tw15349318334595610263 : True := trivial
theorem Mine.top.tw12182655422080760471 : True := trivial
theorem Mine.top.tw8143265674769528471 : True := trivial
theorem Mine.top.tw12012865196380796599 : True := trivial
theorem Mine.top.tw8139039716903228087 : True := trivial
theorem Mine.top.tw7830913209206220567 : True := trivial
theorem Mine.top.tw15722756333993289495 : True := trivial
theorem Mine.top.tw9238823003894178615 : True := trivial
theorem Mine.top.tw11520865232209809239 : True := trivial
theorem Mine.top.tw3561193834555079511 : True := trivial
theorem Mine.top.tw5868845118606482295 : True := trivial
theorem Mine.top.tw5245862010334584759 : True := trivial
theorem Mine.top.tw4331257952254489624 : True := trivial
theorem Mine.top.tw5972265886074215480 : True := trivial
theorem Mine.top.tw9843447840031818808 : True := trivial
theorem Mine.top.tw10008474027749305400 : True := trivial
theorem Mine.top.tw11199710921928265848 : True := trivial
theorem Mine.top.tw1139600151236580504 : True := trivial
theorem Mine.top.tw18134043772397237400 : True := trivial
theorem Mine.top.tw3033006917804047512 : True := trivial
theorem Mine.top.tw681777741448182936 : True := trivial
theorem Mine.top.tw6383614241601562808 : True := trivial
theorem Mine.top.tw6623532728838073528 : True := trivial
theorem Mine.top.tw6487610083215253720 : True := trivial
theorem Mine.top.tw9063741608606530840 : True := trivial
theorem Mine.top.tw2812155379371279736 : True := trivial
theorem Mine.top.tw18326957874037197240 : True := trivial
theorem Mine.top.tw4498253355057717688 : True := trivial
theorem Mine.top.tw12783364522390391256 : True := trivial
theorem Mine.top.tw4551080515912023512 : True := trivial
theorem Mine.top.tw6211089042160764376 : True := trivial
theorem Mine.top.tw13500427573557490136 : True := trivial
theorem Mine.top.tw9768079942903668216 : True := trivial
theorem Mine.top.tw8107780213005350392 : True := trivial
theorem Mine.top.tw1149218181149386328 : True := trivial
theorem Mine.top.tw8810280945414196856 : True := trivial
theorem Mine.top.tw8237333600419904120 : True := trivial
theorem Mine.top.tw18164388396756303480 : True := trivial
theorem Mine.top.tw6746510453823603384 : True := trivial
theorem Mine.top.tw16713831800681072344 : True := trivial
theorem Mine.top.tw6572447435987645144 : True := trivial
theorem Mine.top.tw2617181576586992344 : True := trivial
theorem Mine.top.tw8049430160267790072 : True := trivial
theorem Mine.top.tw3995942328266245912 : True := trivial
theorem Mine.top.tw12945667359872996184 : True := trivial
theorem Mine.top.tw9516688046558066552 : True := trivial
theorem Mine.top.tw17886615442053742456 : True := trivial
theorem Mine.top.tw2722852734226103192 : True := trivial
theorem Mine.top.tw15245507539482535896 : True := trivial
theorem Mine.top.tw5889316905344633881 : True := trivial
theorem Mine.top.tw11546936639936008217 : True := trivial
theorem Mine.top.tw6908635100366463001 : True := trivial
theorem Mine.top.tw16273406610938067001 : True := trivial
theorem Mine.top.tw17030962893124633753 : True := trivial
theorem Mine.top.tw2596539476470345881 : True := trivial
theorem Mine.top.tw4695670854781333657 : True := trivial
theorem Mine.top.tw10001883323181062329 : True := trivial
theorem Mine.top.tw13359135706311490777 : True := trivial
theorem Mine.top.tw11072019736110318841 : True := trivial
theorem Mine.top.tw15799541711010589177 : True := trivial
theorem Mine.top.tw9851269098105209369 : True := trivial
theorem Mine.top.tw8327351992414209593 : True := trivial
theorem Mine.top.tw17741875731164886585 : True := trivial
theorem Mine.top.tw14349089067433371257 : True := trivial
theorem Mine.top.tw18394268562011335289 : True := trivial
theorem Mine.top.tw8620165645458168473 : True := trivial
theorem Mine.top.tw6189502492464219833 : True := trivial
theorem Mine.top.tw3874152929960365753 : True := trivial
theorem Mine.top.tw795583310449317561 : True := trivial
theorem Mine.top.tw17735899436944072409 : True := trivial
theorem Mine.top.tw11466170419677230873 : True := trivial
theorem Mine.top.tw16325430554902658873 : True := trivial
theorem Mine.top.tw9178861053002065721 : True := trivial
theorem Mine.top.tw6659320528611288953 : True := trivial
theorem Mine.top.tw16196420915677631385 : True := trivial
theorem Mine.top.tw1147548669246485465 : True := trivial
theorem Mine.top.tw5176459694589498394 : True := trivial
theorem Mine.top.tw11199532085631943738 : True := trivial
theorem Mine.top.tw9743097575036673082 : True := trivial
theorem Mine.top.tw6973401727384321114 : True := trivial
theorem Mine.top.tw7681529838311687354 : True := trivial
theorem Mine.top.tw17620759639134147866 : True := trivial
theorem Mine.top.tw10079171474624433434 : True := trivial
theorem Mine.top.tw1047907039808853306 : True := trivial
theorem Mine.top.tw14823308797102314842 : True := trivial
theorem Mine.top.tw3195522803047326042 : True := trivial
theorem Mine.top.tw10448899703829047738 : True := trivial
theorem Mine.top.tw411662067469150650 : True := trivial
theorem Mine.top.tw9673933992889287130 : True := trivial
theorem Mine.top.tw2047080938173012442 : True := trivial
theorem Mine.top.tw17807222030613408314 : True := trivial
theorem Mine.top.tw1108800333578037850 : True := trivial
theorem Mine.top.tw8912170899635468890 : True := trivial
theorem Mine.top.tw5105846836358774362 : True := trivial
theorem Mine.top.tw5702910450625016506 : True := trivial
theorem Mine.top.tw7215319984434753242 : True := trivial
theorem Mine.top.tw16420938139371093754 : True := trivial
theorem Mine.top.tw3143785405151724282 : True := trivial
theorem Mine.top.tw6075534854705499898 : True := trivial
theorem Mine.top.tw12105128591322288922 : True := trivial
theorem Mine.top.tw17219337458794519322 : True := trivial
theorem Mine.top.tw12379415707883124570 : True := trivial
theorem Mine.top.tw1886144042066472794 : True := trivial
theorem Mine.top.tw4713442408853163898 : True := trivial
theorem Mine.top.tw2675166985342186458 : True := trivial
theorem Mine.top.tw13068111086705522682 : True := trivial
theorem Mine.top.tw427269002284569659 : True := trivial
theorem Mine.top.tw10187264123177260123 : True := trivial
theorem Mine.top.tw14983691940233647259 : True := trivial
theorem Mine.top.tw4773702212245658779 : True := trivial
theorem Mine.top.tw12559286593441436923 : True := trivial
theorem Mine.top.tw17089494485692210459 : True := trivial
theorem Mine.top.tw17981982808018919739 : True := trivial
theorem Mine.top.tw995497684801637723 : True := trivial
theorem Mine.top.tw1353657120722975067 : True := trivial
theorem Mine.top.tw4250876409542091131 : True := trivial
theorem Mine.top.tw16896751376397280635 : True := trivial
theorem Mine.top.tw10017263926548143515 : True := trivial
theorem Mine.top.tw5970215366352900667 : True := trivial
theorem Mine.top.tw15911569825323301435 : True := trivial
theorem Mine.top.tw4134505453457115739 : True := trivial
theorem Mine.top.tw16821654228018055803 : True := trivial
theorem Mine.top.tw3337584539547039419 : True := trivial
theorem Mine.top.tw7059692629156357883 : True := trivial
theorem Mine.top.tw11858546649754279707 : True := trivial
theorem Mine.top.tw17836180711203090203 : True := trivial
theorem Mine.top.tw11131206648525784891 : True := trivial
theorem Mine.top.tw6127594578889010139 : True := trivial
theorem Mine.top.tw13120753694373217308 : True := trivial
theorem Mine.top.tw1169771345039838236 : True := trivial
theorem Mine.top.tw13134186033006778460 : True := trivial
theorem Mine.top.tw11334415319851112604 : True := trivial
theorem Mine.top.tw3465488137227279516 : True := trivial
theorem Mine.top.tw5523086135645875356 : True := trivial
theorem Mine.top.tw6912233166142098652 : True := trivial
theorem Mine.top.tw18245740138792012028 : True := trivial
theorem Mine.top.tw15286249088069653756 : True := trivial
theorem Mine.top.tw2377541652452675900 : True := trivial
theorem Mine.top.tw11593399256984752444 : True := trivial
theorem Mine.top.tw14826035006057030972 : True := trivial
theorem Mine.top.tw13928562000808390012 : True := trivial
theorem Mine.top.tw8816837023261945244 : True := trivial
theorem Mine.top.tw11577829705659331004 : True := trivial
theorem Mine.top.tw18200808041648558556 : True := trivial
theorem Mine.top.tw1869187583165140508 : True := trivial
theorem Mine.top.tw12376051458212225564 : True := trivial
theorem Mine.top.tw13802547742096326172 : True := trivial
theorem Mine.top.tw4321519831107876412 : True := trivial
theorem Mine.top.tw14917401599646851644 : True := trivial
theorem Mine.top.tw8689318265317240412 : True := trivial
theorem Mine.top.tw10195997230039290492 : True := trivial
theorem Mine.top.tw2727672472851901052 : True := trivial
theorem Mine.top.tw4807692442873511580 : True := trivial
theorem Mine.top.tw13890846271309207196 : True := trivial
theorem Mine.top.tw16453443671601555132 : True := trivial
theorem Mine.top.tw216529984938456764 : True := trivial
theorem Mine.top.tw1088946173253831356 : True := trivial
theorem Mine.top.tw15361541807878343388 : True := trivial
theorem Mine.top.tw16007503158450755388 : True := trivial
theorem Mine.top.tw1124271682379634556 : True := trivial
theorem Mine.top.tw18034075008235765660 : True := trivial
theorem Mine.top.tw3776753064480771068 : True := trivial
theorem Mine.top.tw4547018644641229820 : True := trivial
theorem Mine.top.tw956089473029861405 : True := trivial
theorem Mine.top.tw11240886729373846589 : True := trivial
theorem Mine.top.tw1186331607622873149 : True := trivial
theorem Mine.top.tw5155950481276406077 : True := trivial
theorem Mine.top.tw2782073688633401757 : True := trivial
theorem Mine.top.tw668136137496459709 : True := trivial
theorem Mine.top.tw2057334267981633021 : True := trivial
theorem Mine.top.tw5692499903750754813 : True := trivial
theorem Mine.top.tw13899568491130100285 : True := trivial
theorem Mine.top.tw12894272415132691069 : True := trivial
theorem Mine.top.tw10773188271377071773 : True := trivial
theorem Mine.top.tw7325726471975496349 : True := trivial
theorem Mine.top.tw11430207588045935325 : True := trivial
theorem Mine.top.tw18177719399980262173 : True := trivial
theorem Mine.top.tw3730354652608582461 : True := trivial
theorem Mine.top.tw6725903620493567805 : True := trivial
theorem Mine.top.tw12609604535291364189 : True := trivial
theorem Mine.top.tw11423202765487971197 : True := trivial
theorem Mine.top.tw18121752080927795069 : True := trivial
theorem Mine.top.tw1833847959688406909 : True := trivial
theorem Mine.top.tw47109162367338493 : True := trivial
theorem Mine.top.tw14901070454687303710 : True := trivial
theorem Mine.top.tw18237780215024852062 : True := trivial
theorem Mine.top.tw14851680436948445374 : True := trivial
theorem Mine.top.tw2555065506035805374 : True := trivial
theorem Mine.top.tw14747140909534839006 : True := trivial
theorem Mine.top.tw6930518751129746686 : True := trivial
theorem Mine.top.tw9361663168868926718 : True := trivial
theorem Mine.top.tw8968299171318014206 : True := trivial
theorem Mine.top.tw12904532413392791838 : True := trivial
theorem Mine.top.tw4046864289407762814 : True := trivial
theorem Mine.top.tw10579768621468169598 : True := trivial
theorem Mine.top.tw9108098604805947806 : True := trivial
theorem Mine.top.tw2878843996050045342 : True := trivial
theorem Mine.top.tw6859976401760118174 : True := trivial
theorem Mine.top.tw10956490626425055710 : True := trivial
theorem Mine.top.tw788273225186049534 : True := trivial
theorem Mine.top.tw5118827330378232414 : True := trivial
theorem Mine.top.tw3486219094355674750 : True := trivial
theorem Mine.top.tw17783859843131274014 : True := trivial
theorem Mine.top.tw105208000716104510 : True := trivial
theorem Mine.top.tw13889484949932952446 : True := trivial
theorem Mine.top.tw2867133514656366558 : True := trivial
theorem Mine.top.tw5983031951866500094 : True := trivial
theorem Mine.top.tw2267912224990424062 : True := trivial
theorem Mine.top.tw14371913498598963198 : True := trivial
theorem Mine.top.tw14390669486469195807 : True := trivial
theorem Mine.top.tw5738303106652476479 : True := trivial
theorem Mine.top.tw1754339480302792767 : True := trivial
theorem Mine.top.tw7990429038631628895 : True := trivial
theorem Mine.top.tw17494340499879156831 : True := trivial
theorem Mine.top.tw11173010173815179391 : True := trivial
theorem Mine.top.tw17428532607074087071 : True := trivial
theorem Mine.top.tw6187478851450931391 : True := trivial
theorem Mine.top.tw2464713573024523455 : True := trivial
theorem Mine.top.tw14771320824794740959 : True := trivial
theorem Mine.top.tw10341860258655708415 : True := trivial
theorem Mine.top.tw13852830345959847167 : True := trivial
theorem Mine.top.tw18085771088847121727 : True := trivial
theorem Mine.top.tw2502181453436431679 : True := trivial
theorem Mine.top.tw11584198869435930015 : True := trivial
theorem Mine.top.tw11279390925490393535 : True := trivial
theorem Mine.top.tw9589608677651300831 : True := trivial
theorem Mine.top.tw314455870634268127 : True := trivial
theorem Mine.top.tw14762295962024373759 : True := trivial
theorem Mine.top.tw5766051744304087583 : True := trivial
theorem Mine.top.tw2514443458684651071 : True := trivial
theorem Mine.top.tw6448850889433096767 : True := trivial
theorem Mine.top.tw13167462122316868159 : True := trivial
theorem Mine.top.tw12762922103008790111 : True := trivial
theorem Mine.top.tw12094960947251128927 : True := trivial
theorem Mine.top.tw8345894832289464959 : True := trivial
theorem Mine.top.tw17582957951858275007 : True := trivial
theorem Mine.top.tw8999917154711486175 : True := trivial
theorem Mine.top.tw649594095290182367 : True := trivial
theorem Mine.top.tw8170299122808406783 : True := trivial
theorem Mine.top.tw13369591340354186047 : True := trivial
theorem Mine.top.tw2837373999431856959 : True := trivial
theorem Mine.top.tw10399464001100048223 : True := trivial
theorem Mine.top.tw2965125352208521119 : True := trivial
theorem Mine.top.tw3207569582813703071 : True := trivial
theorem Mine.top.tw5839659824258004927 : True := trivial
theorem Mine.top.tw7436774141650363327 : True := trivial
theorem Mine.top.tw3548060758652744671 : True := trivial
theorem Mine.top.tw16923842841590055842 : True := trivial
theorem Mine.top.tw8365593663688821297 : True := trivial
set_option Elab.async true in
theorem Mine.top : PySem.Challenge.rw_nt0188_01.Holds := by
  w_on; o_law; k_head; (case hw => w_witness2)
  k_fill
  intro w s₀ s₁ mg mb G Y fa o pm cd doc dV kV ho hd hcd hD hmg hg args vals as hpre hlay hrd hwl hlo
  have KX := kIn_of Y
  refine Ground.open G ?_
  intro T B D TE TW
  wrow_args hpre hlay hrd hwl hlo
  have he := Dflts.none hD rfl
  subst he
  have he := Dflts.noKw hD
  subst he
  clear TW TE D B hmg Y G hD
  refine Mine.walk KX T hg ho hd hcd (by assumption) (by assumption) (by assumption) rfl rfl rfl rfl rfl rfl ?_
  exact
  { is_Symbol_init := ⟨⟨_, _, _, _, _, _, _, _, _, _, by k_is, by k_is⟩, rfl, rfl, rfl⟩,
    is_SymbolTable_init := ⟨⟨_, _, _, _, _, _, _, _, _, _, by k_is, by k_is⟩, rfl, rfl, rfl⟩,
    is_Pair_init := ⟨⟨_, _, _, _, _, _, _, _, _, _, by k_is, by k_is⟩, rfl, rfl, rfl⟩,
    is_Vector_init := ⟨⟨_, _, _, _, _, _, _, _, _, _, by k_is, by k_is⟩, rfl, rfl, rfl⟩,
    is_SchemeError_init := ⟨⟨_, _, _, _, _, _, _, _, _, _, by k_is, by k_is⟩, rfl, rfl, rfl⟩,
    is_SyntaxTrouble_init := ⟨⟨_, _, _, _, _, _, _, _, _, _, by k_is, by k_is⟩, rfl, rfl, rfl⟩,
    is_Alias_init := ⟨⟨_, _, _, _, _, _, _, _, _, _, by k_is, by k_is⟩, rfl, rfl, rfl⟩,
    is_SpecialS_init := ⟨⟨_, _, _, _, _, _, _, _, _, _, by k_is, by k_is⟩, rfl, rfl, rfl⟩,
    is_LocalName_init := ⟨⟨_, _, _, _, _, _, _, _, _, _, by k_is, by k_is⟩, rfl, rfl, rfl⟩,
    is_GlobalName_init := ⟨⟨_, _, _, _, _, _, _, _, _, _, by k_is, by k_is⟩, rfl, rfl, rfl⟩,
    is_Scope_init := ⟨⟨_, _, _, _, _, _, _, _, _, _, by k_is, by k_is⟩, rfl, rfl, rfl⟩,
    is_Template_init := ⟨⟨_, _, _, _, _, _, _, _, _, _, by k_is, by k_is⟩, rfl, rfl, rfl⟩,
    is_Names_init := ⟨⟨_, _, _, _, _, _, _, _, _, _, by k_is, by k_is⟩, rfl, rfl, rfl⟩,
    is_SymbolTable_symbol := ⟨⟨_, _, _, _, _, _, _, _, _, _, by k_is, by k_is⟩, rfl, rfl, rfl⟩,
    is_list_of := ⟨⟨_, _, _, _, _, _, _, _, _, _, by k_is, by k_is⟩, rfl, rfl, rfl⟩,
    is_split_list := ⟨⟨_, _, _, _, _, _, _, _, _, _, by k_is, by k_is⟩, rfl, rfl, rfl⟩,
    is_is_identifier := ⟨⟨_, _, _, _, _, _, _, _, _, _, by k_is, by k_is⟩, rfl, rfl, rfl⟩,
    is_key_of := ⟨⟨_, _, _, _, _, _, _, _, _, _, by k_is, by k_is⟩, rfl, rfl, rfl⟩,
    is_root_symbol := ⟨⟨_, _, _, _, _, _, _, _, _, _, by k_is, by k_is⟩, rfl, rfl, rfl⟩,
    is_Scope_bind := ⟨⟨_, _, _, _, _, _, _, _, _, _, by k_is, by k_is⟩, rfl, rfl, rfl⟩,
    is_Scope_bound := ⟨⟨_, _, _, _, _, _, _, _, _, _, by k_is, by k_is⟩, rfl, rfl, rfl⟩,
    is_Scope_find := ⟨⟨_, _, _, _, _, _, _, _, _, _, by k_is, by k_is⟩, rfl, rfl, rfl⟩,
    is_same_denotation := ⟨⟨_, _, _, _, _, _, _, _, _, _, by k_is, by k_is⟩, rfl, rfl, rfl⟩,
    is_same := ⟨⟨_, _, _, _, _, _, _, _, _, _, by k_is, by k_is⟩, rfl, rfl, rfl⟩,
    is_alias_of := ⟨⟨_, _, _, _, _, _, _, _, _, _, by k_is, by k_is⟩, rfl, rfl, rfl⟩,
    is_strip_take := ⟨⟨_, _, _, _, _, _, _, _, _, _, by k_is, by k_is⟩, rfl, rfl, rfl⟩,
    is_strip := ⟨⟨_, _, _, _, _, _, _, _, _, _, by k_is, by k_is⟩, rfl, rfl, rfl⟩,
    is_Template_word := ⟨⟨_, _, _, _, _, _, _, _, _, _, by k_is, by k_is⟩, rfl, rfl, rfl⟩,
    is_Template_marks := ⟨⟨_, _, _, _, _, _, _, _, _, _, by k_is, by k_is⟩, rfl, rfl, rfl⟩,
    is_Template_mark := ⟨⟨_, _, _, _, _, _, _, _, _, _, by k_is, by k_is⟩, rfl, rfl, rfl⟩,
    is_Template_quoted := ⟨⟨_, _, _, _, _, _, _, _, _, _, by k_is, by k_is⟩, rfl, rfl, rfl⟩,
    is_Template_consed := ⟨⟨_, _, _, _, _, _, _, _, _, _, by k_is, by k_is⟩, rfl, rfl, rfl⟩,
    is_Template_told := ⟨⟨_, _, _, _, _, _, _, _, _, _, by k_is, by k_is⟩, rfl, rfl, rfl⟩,
    is_Template_marked := ⟨⟨_, _, _, _, _, _, _, _, _, _, by k_is, by k_is⟩, rfl, rfl, rfl⟩,
    is_Template_vector := ⟨⟨_, _, _, _, _, _, _, _, _, _, by k_is, by k_is⟩, rfl, rfl, rfl⟩,
    is_Template_spots_of := ⟨⟨_, _, _, _, _, _, _, _, _, _, by k_is, by k_is⟩, rfl, rfl, rfl⟩,
    is_Template_spots := ⟨⟨_, _, _, _, _, _, _, _, _, _, by k_is, by k_is⟩, rfl, rfl, rfl⟩,
    is_Template_row := ⟨⟨_, _, _, _, _, _, _, _, _, _, by k_is, by k_is⟩, rfl, rfl, rfl⟩,
    is_Template_chained := ⟨⟨_, _, _, _, _, _, _, _, _, _, by k_is, by k_is⟩, rfl, rfl, rfl⟩,
    is_quasi := ⟨⟨_, _, _, _, _, _, _, _, _, _, by k_is, by k_is⟩, rfl, rfl, rfl⟩,
    is_Names_fresh := ⟨⟨_, _, _, _, _, _, _, _, _, _, by k_is, by k_is⟩, rfl, rfl, rfl⟩,
    is_law_deck := ⟨⟨_, _, _, _, _, _, _, _, _, _, by k_is, by k_is⟩, rfl, rfl, rfl⟩,
    is_law_draw := ⟨⟨_, _, _, _, _, _, _, _, _, _, by k_is, by k_is⟩, rfl, rfl, rfl⟩,
    is_law_row := ⟨⟨_, _, _, _, _, _, _, _, _, _, by k_is, by k_is⟩, rfl, rfl, rfl⟩,
    is_law_atom := ⟨⟨_, _, _, _, _, _, _, _, _, _, by k_is, by k_is⟩, rfl, rfl, rfl⟩,
    is_law_mark := ⟨⟨_, _, _, _, _, _, _, _, _, _, by k_is, by k_is⟩, rfl, rfl, rfl⟩,
    is_law_template := ⟨⟨_, _, _, _, _, _, _, _, _, _, by k_is, by k_is⟩, rfl, rfl, rfl⟩,
    is_law_datum := ⟨⟨_, _, _, _, _, _, _, _, _, _, by k_is, by k_is⟩, rfl, rfl, rfl⟩,
    is_law_back := ⟨⟨_, _, _, _, _, _, _, _, _, _, by k_is, by k_is⟩, rfl, rfl, rfl⟩,
    is_law_hole := ⟨⟨_, _, _, _, _, _, _, _, _, _, by k_is, by k_is⟩, rfl, rfl, rfl⟩,
    is_law_joined := ⟨⟨_, _, _, _, _, _, _, _, _, _, by k_is, by k_is⟩, rfl, rfl, rfl⟩,
    is_law_word := ⟨⟨_, _, _, _, _, _, _, _, _, _, by k_is, by k_is⟩, rfl, rfl, rfl⟩,
    is_law_means := ⟨⟨_, _, _, _, _, _, _, _, _, _, by k_is, by k_is⟩, rfl, rfl, rfl⟩,
    is_law_next := ⟨⟨_, _, _, _, _, _, _, _, _, _, by k_is, by k_is⟩, rfl, rfl, rfl⟩,
    is_law_vector := ⟨⟨_, _, _, _, _, _, _, _, _, _, by k_is, by k_is⟩, rfl, rfl, rfl⟩,
    is_law_done := ⟨⟨_, _, _, _, _, _, _, _, _, _, by k_is, by k_is⟩, rfl, rfl, rfl⟩,
    is_law_frozen := ⟨⟨_, _, _, _, _, _, _, _, _, _, by k_is, by k_is⟩, rfl, rfl, rfl⟩,
    is_law_world := ⟨⟨_, _, _, _, _, _, _, _, _, _, by k_is, by k_is⟩, rfl, rfl, rfl⟩,
    g_list_of := ⟨by k_is, by k_is⟩,
    g_split_list := ⟨by k_is, by k_is⟩,
    g_is_identifier := ⟨by k_is, by k_is⟩,
    g_key_of := ⟨by k_is, by k_is⟩,
    g_root_symbol := ⟨by k_is, by k_is⟩,
    g_same_denotation := ⟨by k_is, by k_is⟩,
    g_same := ⟨by k_is, by k_is⟩,
    g_alias_of := ⟨by k_is, by k_is⟩,
    g_strip_take := ⟨by k_is, by k_is⟩,
    g_strip := ⟨by k_is, by k_is⟩,
    g_quasi := ⟨by k_is, by k_is⟩,
    g_law_deck := ⟨by k_is, by k_is⟩,
    g_law_draw := ⟨by k_is, by k_is⟩,
    g_law_row := ⟨by k_is, by k_is⟩,
    g_law_atom := ⟨by k_is, by k_is⟩,
    g_law_mark := ⟨by k_is, by k_is⟩,
    g_law_template := ⟨by k_is, by k_is⟩,
    g_law_datum := ⟨by k_is, by k_is⟩,
    g_law_back := ⟨by k_is, by k_is⟩,
    g_law_hole := ⟨by k_is, by k_is⟩,
    g_law_joined := ⟨by k_is, by k_is⟩,
    g_law_word := ⟨by k_is, by k_is⟩,
    g_law_means := ⟨by k_is, by k_is⟩,
    g_law_next := ⟨by k_is, by k_is⟩,
    g_law_vector := ⟨by k_is, by k_is⟩,
    g_law_done := ⟨by k_is, by k_is⟩,
    g_law_frozen := ⟨by k_is, by k_is⟩,
    g_law_world := ⟨by k_is, by k_is⟩,
    g_Pair := ⟨by k_is, by k_is⟩,
    g_Vector := ⟨by k_is, by k_is⟩,
    g_Symbol := ⟨by k_is, by k_is⟩,
    g_SymbolTable := ⟨by k_is, by k_is⟩,
    g_SyntaxTrouble := ⟨by k_is, by k_is⟩,
    g_Alias := ⟨by k_is, by k_is⟩,
    g_LocalName := ⟨by k_is, by k_is⟩,
    g_GlobalName := ⟨by k_is, by k_is⟩,
    g_Macro := ⟨by k_is, by k_is⟩,
    g_Scope := ⟨by k_is, by k_is⟩,
    g_Template := ⟨by k_is, by k_is⟩,
    g_Names := ⟨by k_is, by k_is⟩,
    g_SchemeError := ⟨by k_is, by k_is⟩,
    g_Special_scopes := ⟨by k_is, by k_is⟩,
    g_EMPTY := by k_is,
    b_isinstance := by k_is,
    b_len := by k_is,
    b_range := by k_is,
    b_abs := by k_is,
    b_repr := by k_is,
    b_tuple := by k_is,
    g_UNQUOTE := ⟨_, by k_is⟩,
    g_SPLICE := ⟨_, by k_is⟩,
    g_QUASIQUOTE := ⟨_, by k_is⟩,
    a_Symbol_number := ⟨by k_is, by k_is, _, by k_is, by k_is⟩,
    s_Symbol_number := ⟨by k_is, by k_is, by k_is, by k_is⟩,
    a_Symbol_text := ⟨by k_is, by k_is, _, by k_is, by k_is⟩,
    s_Symbol_text := ⟨by k_is, by k_is, by k_is, by k_is⟩,
    a_SymbolTable_rows := ⟨by k_is, by k_is, _, by k_is, by k_is⟩,
    s_SymbolTable_rows := ⟨by k_is, by k_is, by k_is, by k_is⟩,
    a_SymbolTable_by_text := ⟨by k_is, by k_is, _, by k_is, by k_is⟩,
    s_SymbolTable_by_text := ⟨by k_is, by k_is, by k_is, by k_is⟩,
    a_Pair_car := ⟨by k_is, by k_is, _, by k_is, by k_is⟩,
    s_Pair_car := ⟨by k_is, by k_is, by k_is, by k_is⟩,
    a_Pair_cdr := ⟨by k_is, by k_is, _, by k_is, by k_is⟩,
    s_Pair_cdr := ⟨by k_is, by k_is, by k_is, by k_is⟩,
    a_Vector_things := ⟨by k_is, by k_is, _, by k_is, by k_is⟩,
    s_Vector_things := ⟨by k_is, by k_is, by k_is, by k_is⟩,
    a_Alias_number := ⟨by k_is, by k_is, _, by k_is, by k_is⟩,
    s_Alias_number := ⟨by k_is, by k_is, by k_is, by k_is⟩,
    a_Alias_base := ⟨by k_is, by k_is, _, by k_is, by k_is⟩,
    s_Alias_base := ⟨by k_is, by k_is, by k_is, by k_is⟩,
    a_Alias_scope := ⟨by k_is, by k_is, _, by k_is, by k_is⟩,
    s_Alias_scope := ⟨by k_is, by k_is, by k_is, by k_is⟩,
    a_SpecialS_word := ⟨by k_is, by k_is, _, by k_is, by k_is⟩,
    s_SpecialS_word := ⟨by k_is, by k_is, by k_is, by k_is⟩,
    a_LocalName_number := ⟨by k_is, by k_is, _, by k_is, by k_is⟩,
    s_LocalName_number := ⟨by k_is, by k_is, by k_is, by k_is⟩,
    a_LocalName_title := ⟨by k_is, by k_is, _, by k_is, by k_is⟩,
    s_LocalName_title := ⟨by k_is, by k_is, by k_is, by k_is⟩,
    a_GlobalName_symbol := ⟨by k_is, by k_is, _, by k_is, by k_is⟩,
    s_GlobalName_symbol := ⟨by k_is, by k_is, by k_is, by k_is⟩,
    a_Scope_parent := ⟨by k_is, by k_is, _, by k_is, by k_is⟩,
    s_Scope_parent := ⟨by k_is, by k_is, by k_is, by k_is⟩,
    a_Scope_names := ⟨by k_is, by k_is, _, by k_is, by k_is⟩,
    s_Scope_names := ⟨by k_is, by k_is, by k_is, by k_is⟩,
    a_Template_scope := ⟨by k_is, by k_is, _, by k_is, by k_is⟩,
    s_Template_scope := ⟨by k_is, by k_is, by k_is, by k_is⟩,
    a_Template_world := ⟨by k_is, by k_is, _, by k_is, by k_is⟩,
    s_Template_world := ⟨by k_is, by k_is, by k_is, by k_is⟩,
    a_Names_table := ⟨by k_is, by k_is, _, by k_is, by k_is⟩,
    s_Names_table := ⟨by k_is, by k_is, by k_is, by k_is⟩,
    a_Names_last := ⟨by k_is, by k_is, _, by k_is, by k_is⟩,
    s_Names_last := ⟨by k_is, by k_is, by k_is, by k_is⟩,
    a_Names_titles := ⟨by k_is, by k_is, _, by k_is, by k_is⟩,
    s_Names_titles := ⟨by k_is, by k_is, by k_is, by k_is⟩,
    a_Names_ops := ⟨by k_is, by k_is, _, by k_is, by k_is⟩,
    s_Names_ops := ⟨by k_is, by k_is, by k_is, by k_is⟩,
    a_Names_root := ⟨by k_is, by k_is, _, by k_is, by k_is⟩,
    s_Names_root := ⟨by k_is, by k_is, by k_is, by k_is⟩,
    m_SymbolTable_symbol := ⟨by k_is, by k_is, by k_is, by k_is⟩,
    m_Scope_bind := ⟨by k_is, by k_is, by k_is, by k_is⟩,
    m_Scope_bound := ⟨by k_is, by k_is, by k_is, by k_is⟩,
    m_Scope_find := ⟨by k_is, by k_is, by k_is, by k_is⟩,
    m_Template_word := ⟨by k_is, by k_is, by k_is, by k_is⟩,
    m_Template_marks := ⟨by k_is, by k_is, by k_is, by k_is⟩,
    m_Template_mark := ⟨by k_is, by k_is, by k_is, by k_is⟩,
    m_Template_quoted := ⟨by k_is, by k_is, by k_is, by k_is⟩,
    m_Template_consed := ⟨by k_is, by k_is, by k_is, by k_is⟩,
    m_Template_told := ⟨by k_is, by k_is, by k_is, by k_is⟩,
    m_Template_marked := ⟨by k_is, by k_is, by k_is, by k_is⟩,
    m_Template_vector := ⟨by k_is, by k_is, by k_is, by k_is⟩,
    m_Template_spots_of := ⟨by k_is, by k_is, by k_is, by k_is⟩,
    m_Template_spots := ⟨by k_is, by k_is, by k_is, by k_is⟩,
    m_Template_row := ⟨by k_is, by k_is, by k_is, by k_is⟩,
    m_Template_chained := ⟨by k_is, by k_is, by k_is, by k_is⟩,
    m_Names_fresh := ⟨by k_is, by k_is, by k_is, by k_is⟩,
    mk_Symbol := ⟨by k_is, by k_is, by k_is⟩,
    mk_SymbolTable := ⟨by k_is, by k_is, by k_is⟩,
    mk_Pair := ⟨by k_is, by k_is, by k_is⟩,
    mk_Vector := ⟨by k_is, by k_is, by k_is⟩,
    mk_Alias := ⟨by k_is, by k_is, by k_is⟩,
    mk_LocalName := ⟨by k_is, by k_is, by k_is⟩,
    mk_GlobalName := ⟨by k_is, by k_is, by k_is⟩,
    mk_Scope := ⟨by k_is, by k_is, by k_is⟩,
    mk_Template := ⟨by k_is, by k_is, by k_is⟩,
    mk_Names := ⟨by k_is, by k_is, by k_is⟩,
    mk_SpecialS := ⟨by k_is, by k_is, by k_is⟩,
    isi_Pair := by k_is,
    isi_Vector := by k_is,
    isi_Symbol := by k_is,
    isi_Alias := by k_is,
    isi_SpecialS := by k_is,
    isi_LocalName := by k_is,
    isi_GlobalName := by k_is,
    kc_Pair := ⟨by k_is, by k_is, by k_is, by k_is, by k_is, by k_is⟩,
    kc_Vector := ⟨by k_is, by k_is, by k_is, by k_is, by k_is, by k_is⟩,
    kc_Symbol := ⟨by k_is, by k_is, by k_is, by k_is, by k_is, by k_is⟩,
    kc_Alias := ⟨by k_is, by k_is, by k_is, by k_is, by k_is, by k_is⟩,
    kc_SpecialS := ⟨by k_is, by k_is, by k_is, by k_is, by k_is, by k_is⟩,
    kc_LocalName := ⟨by k_is, by k_is, by k_is, by k_is, by k_is, by k_is⟩,
    kc_GlobalName := ⟨by k_is, by k_is, by k_is, by k_is, by k_is, by k_is⟩,
    kc_SpecialD := ⟨by k_is, by k_is, by k_is, by k_is, by k_is, by k_is⟩,
    no_Pair_Vector := kin_not_of (by decide) ⟨_, by k_is⟩ (by k_is) (by k_is),
    no_Pair_Symbol := kin_not_of (by decide) ⟨_, by k_is⟩ (by k_is) (by k_is),
    no_Pair_Alias := kin_not_of (by decide) ⟨_, by k_is⟩ (by k_is) (by k_is),
    no_Vector_Pair := kin_not_of (by decide) ⟨_, by k_is⟩ (by k_is) (by k_is),
    no_Vector_Symbol := kin_not_of (by decide) ⟨_, by k_is⟩ (by k_is) (by k_is),
    no_Vector_Alias := kin_not_of (by decide) ⟨_, by k_is⟩ (by k_is) (by k_is),
    no_Symbol_Pair := kin_not_of (by decide) ⟨_, by k_is⟩ (by k_is) (by k_is),
    no_Symbol_Vector := kin_not_of (by decide) ⟨_, by k_is⟩ (by k_is) (by k_is),
    no_Symbol_Alias := kin_not_of (by decide) ⟨_, by k_is⟩ (by k_is) (by k_is),
    no_SpecialD_Pair := kin_not_of (by decide) ⟨_, by k_is⟩ (by k_is) (by k_is),
    no_SpecialD_Vector := kin_not_of (by decide) ⟨_, by k_is⟩ (by k_is) (by k_is),
    no_SpecialD_Symbol := kin_not_of (by decide) ⟨_, by k_is⟩ (by k_is) (by k_is),
    no_SpecialD_Alias := kin_not_of (by decide) ⟨_, by k_is⟩ (by k_is) (by k_is),
    no_SpecialS_LocalName := kin_not_of (by decide) ⟨_, by k_is⟩ (by k_is) (by k_is),
    no_SpecialS_GlobalName := kin_not_of (by decide) ⟨_, by k_is⟩ (by k_is) (by k_is),
    no_SpecialS_Macro := kin_not_of (by decide) ⟨_, by k_is⟩ (by k_is) (by k_is),
    no_LocalName_SpecialS := kin_not_of (by decide) ⟨_, by k_is⟩ (by k_is) (by k_is),
    no_LocalName_GlobalName := kin_not_of (by decide) ⟨_, by k_is⟩ (by k_is) (by k_is),
    no_LocalName_Macro := kin_not_of (by decide) ⟨_, by k_is⟩ (by k_is) (by k_is),
    no_GlobalName_SpecialS := kin_not_of (by decide) ⟨_, by k_is⟩ (by k_is) (by k_is),
    no_GlobalName_LocalName := kin_not_of (by decide) ⟨_, by k_is⟩ (by k_is) (by k_is),
    no_GlobalName_Macro := kin_not_of (by decide) ⟨_, by k_is⟩ (by k_is) (by k_is),
    no_Alias_Symbol := kin_not_of (by decide) ⟨_, by k_is⟩ (by k_is) (by k_is),
    no_Alias_Pair := kin_not_of (by decide) ⟨_, by k_is⟩ (by k_is) (by k_is),
    no_Alias_Vector := kin_not_of (by decide) ⟨_, by k_is⟩ (by k_is) (by k_is),
    n_int_Pair := by k_not,
    n_int_Vector := by k_not,
    n_int_Symbol := by k_not,
    n_int_Alias := by k_not,
    EMPTY := ⟨_, _, by k_is, by k_is⟩,
    nones := by k_is,
    exc := ⟨⟨_, _, _, _, _, _, _, _, _, _, _, _, _, _, _, by k_is⟩, by k_is, by k_is, by k_is, by k_is, by k_is⟩,
    x_word := ⟨by k_is, ⟨_, by k_is, rfl, rfl⟩, by k_is⟩,
    x_irritants := ⟨by k_is, ⟨_, by k_is, rfl, rfl⟩, by k_is⟩,
    x_reason := ⟨by k_is, ⟨_, by k_is, rfl, rfl⟩, by k_is⟩,
    x_datum := ⟨by k_is, ⟨_, by k_is, rfl, rfl⟩, by k_is⟩ }
theorem PySem.Challenge.cw_nt0188_01_holds : PySem.Challenge.rw_nt0188_01.Holds :=
  Mine.top
