import PyProof.Rows.All
import Wide.All
import OpenK.AllK
import Wide.FinOn
import PySem.Challenge.RW_uf040023_08
set_option Elab.async false
set_option maxRecDepth 100000
set_option maxHeartbeats 8000000
set_option linter.all false

namespace Mine
open PySem
noncomputable def nth (l : List Stmt) (n : Nat) : Stmt := (l.drop n).headD (.Pass ⟨0, 0, 0, 0⟩)
noncomputable def sArgs (s : Stmt) : Arguments := match s with | .FunctionDef _ a _ _ _ _ _ _ _ _ => a | _ => ⟨[], [], none, [], [], none, []⟩
noncomputable def sBody (s : Stmt) : List Stmt := match s with | .FunctionDef _ _ b _ _ _ _ _ _ _ => b | _ => []
noncomputable def sScope (s : Stmt) : Scope := match s with | .FunctionDef _ _ _ _ _ _ c _ _ _ => c | _ => default
noncomputable def sPos (s : Stmt) : Pos := match s with | .FunctionDef _ _ _ _ _ _ _ _ _ p => p | _ => ⟨0, 0, 0, 0⟩
noncomputable def sIn (s : Stmt) : List Stmt := match s with | .ClassDef _ _ _ b _ _ _ _ _ _ _ => b | _ => []
end Mine

namespace Mine
open PySem PySem.W PyProof.Rows

set_option genSizeOf false in
set_option genInjectivity false in
inductive D where
  | none
  | bool (b : Bool)
  | int (i : Int)
  | str (s : Str)
  | list (xs : List D)
  | tup (xs : List D)
  | inst (C : Addr) (fs : List (Str × D))
  | rng (a b : Int)
  | addr (a : Addr)
  | fn (v : Value)
  | scr (ns : List Int)
  | dk (a : Addr) (n ep : Nat)
  | exc (C : Addr)

set_option genSizeOf false in
set_option genInjectivity false in
inductive MO where
  | list (xs : List D)
  | dict (es : List (Int × D))
  | dicte (es : List (Int × D)) (ep : Nat)
  | inst (C d : Addr)
  | ns (fs : List (Str × D))
  | rev (xs : List D)

abbrev Fz := Addr → Option Obj

def Sub (g g' : Fz) : Prop := ∀ a o, g a = some o → g' a = some o
theorem Sub.rfl' {g : Fz} : Sub g g := fun _ _ h => h
theorem Sub.trans {g g' g'' : Fz} (h : Sub g g') (h' : Sub g' g'') : Sub g g'' := fun a o e => h' a o (h a o e)

def IsSeqF (g : Fz) (T : String) (a : Addr) (its : Array Value) : Prop := ∃ n, g a = some { cls := .type T, data := .seq its n }
def IsDictF (g : Fz) (a : Addr) (es : Array DictEntry) : Prop := ∃ n, g a = some { cls := .type "dict", data := .dict es n }

theorem IsSeqF.sub {g g' : Fz} {T a its} (h : IsSeqF g T a its) (s : Sub g g') : IsSeqF g' T a its := let ⟨o, e⟩ := h; ⟨o, s _ _ e⟩
theorem IsDictF.sub {g g' : Fz} {a es} (h : IsDictF g a es) (s : Sub g g') : IsDictF g' a es := let ⟨n, e⟩ := h; ⟨n, s _ _ e⟩

mutual
def R (g : Fz) : D → Value → Prop
  | .none, v => v = .none
  | .bool b, v => v = .bool b
  | .int i, v => ∃ t, v = .int i t
  | .str x, v => ∃ t, v = .str x t
  | .list ds, v => ∃ a its, v = .ref a ∧ IsSeqF g "list" a its ∧ Rs g ds its.toList
  | .tup ds, v => ∃ a its, v = .ref a ∧ IsSeqF g "tuple" a its ∧ Rs g ds its.toList
  | .inst C fs, v => ∃ a d ents, v = .ref a ∧ g a = some { cls := .ref C, dict := some d, data := .plain } ∧ IsDictF g d ents ∧ Rf g fs ents.toList
  | .rng x y, v => ∃ a t u w, v = .ref a ∧ g a = some { cls := .type "range", data := .fields #[.int x t, .int y u, .int 1 w] }
  | .addr a, v => v = .ref a
  | .dk a _ _, v => v = .ref a
  | .exc C, v => ∃ a o vs, v = .ref a ∧ g a = some o ∧ o.cls = .ref C ∧ o.dict = none ∧ o.data = .fields vs
  | .fn f, v => v = f
  | .scr ns, v => ∃ a o its n, v = .ref a ∧ g a = some o ∧ o.cls = .type "list" ∧ o.data = .seq its n ∧ its.size = ns.length ∧ ∀ (i : Nat) (k : Int), ns[i]? = some k → ∃ t, its[i]? = some (.int k t)
def Rs (g : Fz) : List D → List Value → Prop
  | [], vs => vs = []
  | d :: ds, vs => ∃ v r, vs = v :: r ∧ R g d v ∧ Rs g ds r
def Rf (g : Fz) : List (Str × D) → List DictEntry → Prop
  | [], es => es = []
  | (k, d) :: ds, es => ∃ hk t v r, es = ⟨hk, .str k t, v⟩ :: r ∧ R g d v ∧ Rf g ds r
end

mutual
theorem R.sub {g g' : Fz} (s : Sub g g') : ∀ {d : D} {v : Value}, R g d v → R g' d v
  | .none, _, h => h
  | .bool _, _, h => h
  | .int _, _, h => h
  | .str _, _, h => h
  | .list ds, _, h => by
    change ∃ _, _
    obtain ⟨a, its, e, h1, h2⟩ := h
    exact ⟨a, its, e, h1.sub s, Rs.sub s h2⟩
  | .tup ds, _, h => by
    change ∃ _, _
    obtain ⟨a, its, e, h1, h2⟩ := h
    exact ⟨a, its, e, h1.sub s, Rs.sub s h2⟩
  | .inst C fs, _, h => by
    change ∃ _, _
    obtain ⟨a, d, its, e, h0, h1, h2⟩ := h
    exact ⟨a, d, its, e, s _ _ h0, h1.sub s, Rf.sub s h2⟩
  | .rng _ _, _, h => by
    change ∃ _, _
    obtain ⟨a, t, u, w, e, h0⟩ := h
    exact ⟨a, t, u, w, e, s _ _ h0⟩
  | .addr _, _, h => h
  | .dk _ _ _, _, h => h
  | .exc _, _, h => by
    change ∃ _, _
    obtain ⟨a, o, vs, e, h0, h1⟩ := h
    exact ⟨a, o, vs, e, s _ _ h0, h1⟩
  | .fn _, _, h => h
  | .scr _, _, h => by
    change ∃ _, _
    obtain ⟨a, o, its, n, e, h0, h1⟩ := h
    exact ⟨a, o, its, n, e, s _ _ h0, h1⟩
theorem Rs.sub {g g' : Fz} (s : Sub g g') : ∀ {ds : List D} {vs : List Value}, Rs g ds vs → Rs g' ds vs
  | [], _, h => h
  | d :: ds, _, h => by
    change ∃ _, _
    obtain ⟨v, r, e, h1, h2⟩ := h
    exact ⟨v, r, e, R.sub s h1, Rs.sub s h2⟩
theorem Rf.sub {g g' : Fz} (s : Sub g g') : ∀ {ds : List (Str × D)} {vs : List DictEntry}, Rf g ds vs → Rf g' ds vs
  | [], _, h => h
  | (k, d) :: ds, _, h => by
    change ∃ _, _
    obtain ⟨hk, t, v, r, e, h1, h2⟩ := h
    exact ⟨hk, t, v, r, e, R.sub s h1, Rf.sub s h2⟩
end

theorem Rs.length {g : Fz} : ∀ {ds : List D} {vs : List Value}, Rs g ds vs → vs.length = ds.length
  | [], _, h => by subst h; rfl
  | d :: ds, _, h => by
    obtain ⟨v, r, rfl, _, h2⟩ := h
    simp [Rs.length h2]

theorem Rs.get {g : Fz} : ∀ {ds : List D} {vs : List Value}, Rs g ds vs → ∀ {i : Nat} {d : D}, ds[i]? = some d → ∃ v, vs[i]? = some v ∧ R g d v
  | [], _, h, i, d, e => by simp at e
  | d0 :: ds, _, h, i, d, e => by
    obtain ⟨v, r, rfl, h1, h2⟩ := h
    cases i with
    | zero => simp at e; subst e; exact ⟨v, rfl, h1⟩
    | succ i => simp only [List.getElem?_cons_succ] at e ⊢; exact Rs.get h2 e

theorem Rs.get' {g : Fz} : ∀ {ds : List D} {vs : List Value}, Rs g ds vs → ∀ {i : Nat} {v : Value}, vs[i]? = some v → ∃ d, ds[i]? = some d ∧ R g d v
  | [], _, h, i, d, e => by subst h; simp at e
  | d0 :: ds, _, h, i, d, e => by
    obtain ⟨v, r, rfl, h1, h2⟩ := h
    cases i with
    | zero => simp at e; subst e; exact ⟨d0, rfl, h1⟩
    | succ i => simp only [List.getElem?_cons_succ] at e ⊢; exact Rs.get' h2 e

theorem Rs.append {g : Fz} : ∀ {ds : List D} {vs : List Value}, Rs g ds vs → ∀ {es : List D} {us : List Value}, Rs g es us → Rs g (ds ++ es) (vs ++ us)
  | [], _, h, es, us, h' => by subst h; exact h'
  | d :: ds, _, h, es, us, h' => by
    obtain ⟨v, r, rfl, h1, h2⟩ := h
    simp only [List.cons_append, Rs]
    exact ⟨v, r ++ us, rfl, h1, Rs.append h2 h'⟩

theorem Rs.one {g : Fz} {d : D} {v : Value} (h : R g d v) : Rs g [d] [v] := by change ∃ _, _; exact ⟨v, [], rfl, h, rfl⟩
theorem Rs.cons {g : Fz} {d : D} {v : Value} {ds vs} (h : R g d v) (h' : Rs g ds vs) : Rs g (d :: ds) (v :: vs) := by change ∃ _, _; exact ⟨v, vs, rfl, h, h'⟩
theorem Rs.nil {g : Fz} : Rs g [] [] := rfl

structure St where
  loc : Str → Option D
  hp : Addr → Option MO

def Rk (g : Fz) : List (Int × D) → List (Int × Value) → Prop
  | [], kvs => kvs = []
  | (k, d) :: es, kvs => ∃ v r, kvs = (k, v) :: r ∧ R g d v ∧ Rk g es r

theorem Rk.sub {g g' : Fz} (s : Sub g g') : ∀ {es : List (Int × D)} {kvs : List (Int × Value)}, Rk g es kvs → Rk g' es kvs
  | [], _, h => h
  | (k, d) :: es, _, h => by
    obtain ⟨v, r, e, h1, h2⟩ := h
    exact ⟨v, r, e, h1.sub s, Rk.sub s h2⟩

theorem Rk.len {g : Fz} : ∀ {es : List (Int × D)} {kvs : List (Int × Value)}, Rk g es kvs → es.length = kvs.length
  | [], _, h => by subst h; rfl
  | (k, d) :: es, _, h => by
    obtain ⟨v, r, rfl, h1, h2⟩ := h
    simp [Rk.len h2]
theorem Rk.get_key {g : Fz} : ∀ {es : List (Int × D)} {kvs : List (Int × Value)}, Rk g es kvs → ∀ {i : Nat} {e : Int × D}, es[i]? = some e → ∃ v, kvs[i]? = some (e.1, v)
  | [], _, h, i, e, q => by simp at q
  | (k, d) :: es, _, h, i, e, q => by
    obtain ⟨v, r, rfl, h1, h2⟩ := h
    cases i with
    | zero => simp at q; subst q; exact ⟨v, rfl⟩
    | succ i => simp only [List.getElem?_cons_succ] at q ⊢; exact Rk.get_key h2 q
theorem intKind_is {prog : Program} {w : World} {k : Int} {key : Value} (h : (intKind prog w).is k key = true) : ∃ t, key = .int k t := by
  exact Value.isInt_shape h

end Mine

namespace Mine
open PySem PySem.W PyProof.Rows

def updH (hp : Addr → Option MO) (a : Addr) (m : Option MO) : Addr → Option MO := fun b => if b = a then m else hp b
def updG (g : Fz) (a : Addr) (o : Obj) : Fz := fun b => if b = a then some o else g b
def updL (l : Str → Option D) (x : Str) (d : D) : Str → Option D := fun y => if y = x then some d else l y

def updC (l : Str → Option D) (x : Str) (d : D) : Str → Option D := fun y => if y = x then some d else if y = (".0" : Str) then none else l y

theorem Sub.updG {g : Fz} {a : Addr} {o : Obj} (h : g a = none) : Sub g (updG g a o) := fun b o' e => by
  unfold Mine.updG
  split
  · rename_i q; rw [q, h] at e; cases e
  · exact e

structure Cx where
  prog : Program
  w : World
  T0 : Heap
  s0 : Shared
  G : Str → Option D
  K : Frag
  M : Addr → Str → Option Addr
  At : Addr → Str → Bool
  Ex : Addr → Prop := fun _ => False
  fz : Addr → Prop := fun _ => False
  ct : Bool := false
  hn : Bool := true
  cm : Bool := true

def none' : Fz := fun _ => none

structure Ok0 (T0 : Heap) (G : Str → Option D) (K : Frag) (M : Addr → Str → Option Addr) (At : Addr → Str → Bool) : Prop where
  glob : ∀ x d, G x = some d → ∃ v, R none' d v ∧ ((∃ mg, T0.Ns mainGlobals mg ∧ mg x = some v) ∨ (∃ mg mb, T0.Ns mainGlobals mg ∧ mg x = none ∧ T0.Ns builtinsNs mb ∧ mb x = some v))
  nolimit : T0.NoLimit
  sysm : ∃ a o, sysModules < a ∧ T0.get? a = some o
  Kin : K.In T0
  meth : ∀ C name f, M C name = some f → plainGet K C name = true ∧ findIn K (.ref C) name = some (some (.ref f)) ∧ isFn K (.ref f) = true
  attr : ∀ C name, At C name = true → plainGet K C name = true ∧ hasDictIn K C = true ∧ findIn K (.ref C) name = some none ∧ findIn K (.ref C) "__setattr__" = some (some (.builtin "object.__setattr__")) ∧ plainOver K C = true
def Cx.Ok (X : Cx) : Prop := Ok0 X.T0 X.G X.K X.M X.At
namespace Cx.Ok
variable {X : Cx} (ok : X.Ok)
include ok
theorem glob : ∀ x d, X.G x = some d → ∃ v, R none' d v ∧ ((∃ mg, X.T0.Ns mainGlobals mg ∧ mg x = some v) ∨ (∃ mg mb, X.T0.Ns mainGlobals mg ∧ mg x = none ∧ X.T0.Ns builtinsNs mb ∧ mb x = some v)) := Ok0.glob ok
theorem nolimit : X.T0.NoLimit := Ok0.nolimit ok
theorem sysm : ∃ a o, sysModules < a ∧ X.T0.get? a = some o := Ok0.sysm ok
theorem Kin : X.K.In X.T0 := Ok0.Kin ok
theorem meth : ∀ C name f, X.M C name = some f → plainGet X.K C name = true ∧ findIn X.K (.ref C) name = some (some (.ref f)) ∧ isFn X.K (.ref f) = true := Ok0.meth ok
theorem attr : ∀ C name, X.At C name = true → plainGet X.K C name = true ∧ hasDictIn X.K C = true ∧ findIn X.K (.ref C) name = some none ∧ findIn X.K (.ref C) "__setattr__" = some (some (.builtin "object.__setattr__")) ∧ plainOver X.K C = true := Ok0.attr ok
end Cx.Ok

/-! the slots of the frames around may change -/
open Classical in
noncomputable def Cx.strip (X : Cx) (b : Addr) (o : Obj) : Obj := if X.fz b then { o with slots := #[] } else o
noncomputable def Cx.get (X : Cx) (h : Heap) (b : Addr) : Option Obj := (h.get? b).map (X.strip b)
theorem strip_not {X : Cx} {b : Addr} (z : ¬ X.fz b) (o : Obj) : X.strip b o = o := by unfold Cx.strip; rw [if_neg z]
theorem strip_fz {X : Cx} {b : Addr} (z : X.fz b) (o : Obj) : X.strip b o = { o with slots := #[] } := by unfold Cx.strip; rw [if_pos z]
theorem strip_data {X : Cx} {b : Addr} (o : Obj) : (X.strip b o).data = o.data := by unfold Cx.strip; split <;> rfl
theorem get_not {X : Cx} {h : Heap} {b : Addr} (z : ¬ X.fz b) : X.get h b = h.get? b := by
  unfold Cx.get
  cases h.get? b with
  | none => rfl
  | some o => rw [Option.map_some, strip_not z]
theorem get_keep {X : Cx} {h h' : Heap} {b : Addr} {o : Obj} (hk : ∀ o, h.get? b = some o → h'.get? b = some o) (e : X.get h b = some o) : X.get h' b = some o := by
  unfold Cx.get at e ⊢
  obtain ⟨o', e1, e2⟩ := Option.map_eq_some_iff.mp e
  rw [hk o' e1, Option.map_some, e2]
theorem get_ex {X : Cx} {h : Heap} {b : Addr} {o : Obj} (e : X.get h b = some o) : ∃ o', h.get? b = some o' ∧ X.strip b o' = o := Option.map_eq_some_iff.mp e
theorem get_of {X : Cx} {h : Heap} {b : Addr} {o : Obj} (e : h.get? b = some o) : X.get h b = some (X.strip b o) := by unfold Cx.get; rw [e]; rfl

def MR (X : Cx) (g : Fz) (h : Heap) (a : Addr) : MO → Prop
  | .list ds => ∃ its n, h.get? a = some { cls := .type "list", data := .seq its n } ∧ Rs g ds its.toList
  | .dict es => (a == sysModules) = false ∧ ∃ kvs, h.DictOf (intKind X.prog X.w) a kvs ∧ Rk g es kvs
  | .dicte es ep => (a == sysModules) = false ∧ ∃ kvs, h.DictAt (intKind X.prog X.w) a kvs ep ∧ Rk g es kvs
  | .inst C d => h.get? a = some { cls := .ref C, dict := some d, data := .plain }
  | .ns fs => ∃ ents n, h.get? a = some { cls := .type "dict", data := .dict ents n } ∧ Rf g fs ents.toList
  | .rev xs => ∃ l its n, h.get? a = some (revObj l ((its.size : Int) - 1)) ∧ g l = some { cls := .type "list", data := .seq its n } ∧ Rs g xs its.toList

theorem MR.sub {X : Cx} {g g' : Fz} {h h' : Heap} {a : Addr} {mo : MO} (x : MR X g h a mo) (s : Sub g g') (e : h'.get? a = h.get? a) : MR X g' h' a mo := by
  cases mo with
  | list ds => obtain ⟨its, n, h1, h2⟩ := x; exact ⟨its, n, e.trans h1, h2.sub s⟩
  | dict ds => obtain ⟨hs, kvs, ⟨o, es, ep, h0, h1⟩, h2⟩ := x; exact ⟨hs, kvs, ⟨o, es, ep, e.trans h0, h1⟩, h2.sub s⟩
  | dicte ds ep => obtain ⟨hs, kvs, ⟨o, es, h0, h1⟩, h2⟩ := x; exact ⟨hs, kvs, ⟨o, es, e.trans h0, h1⟩, h2.sub s⟩
  | inst C d => exact e.trans x
  | ns ds => obtain ⟨its, n, h1, h2⟩ := x; exact ⟨its, n, e.trans h1, h2.sub s⟩
  | rev xs => obtain ⟨l, its, n, h1, h2, h3⟩ := x; exact ⟨l, its, n, e.trans h1, s _ _ h2, h3.sub s⟩

structure Sat (X : Cx) (kb : Fz) (av : Addr → Prop) (g : Fz) (hp : Addr → Option MO) (s : Shared) : Prop where
  gens : s.gens = X.s0.gens
  os : s.os = X.s0.os
  drawn : s.drawn = X.s0.drawn
  top : ∀ b o, X.T0.get? b = some o → kb b = some o
  kbh : ∀ b o, kb b = some o → X.get s.heap b = some o
  gh : ∀ b o, g b = some o → s.heap.get? b = some o
  avk : ∀ b, av b → (kb b).isSome = true
  gav : ∀ b, av b → g b = none
  hph : ∀ a mo, hp a = some mo → MR X g s.heap a mo ∧ kb a = none ∧ g a = none
  fza : ∀ b, X.fz b → av b
  fzT : ∀ b, X.fz b → X.T0.get? b = none

theorem MR.some {X : Cx} {g : Fz} {h : Heap} {a : Addr} {mo : MO} (x : MR X g h a mo) : ∃ o, h.get? a = some o := by
  cases mo with
  | list ds => obtain ⟨its, n, h1, h2⟩ := x; exact ⟨_, h1⟩
  | dict ds => obtain ⟨hs, kvs, ⟨o, es, ep, h0, h1⟩, h2⟩ := x; exact ⟨_, h0⟩
  | dicte ds ep => obtain ⟨hs, kvs, ⟨o, es, h0, h1⟩, h2⟩ := x; exact ⟨_, h0⟩
  | inst C d => exact ⟨_, x⟩
  | ns ds => obtain ⟨its, n, h1, h2⟩ := x; exact ⟨_, h1⟩
  | rev xs => obtain ⟨l, its, n, h1, h2, h3⟩ := x; exact ⟨_, h1⟩

namespace Sat
variable {X : Cx} {kb : Fz} {av : Addr → Prop} {g : Fz} {hp : Addr → Option MO} {s s' : Shared}

theorem topk (S : Sat X kb av g hp s) : ∀ b o, X.T0.get? b = some o → s.heap.get? b = some o := fun b o e => by
  have := S.kbh b o (S.top b o e)
  rwa [get_not fun z => by rw [S.fzT b z] at e; cases e] at this
theorem nfz (S : Sat X kb av g hp s) {a : Addr} (h : kb a = none) : ¬ X.fz a := fun z => by have := S.avk a (S.fza a z); rw [h] at this; cases this

theorem keeps (S : Sat X kb av g hp s) (hk : ∀ b o, s.heap.get? b = some o → s'.heap.get? b = some o)
    (h1 : s'.gens = s.gens) (h2 : s'.os = s.os) (h3 : s'.drawn = s.drawn) : Sat X kb av g hp s' where
  gens := h1.trans S.gens
  os := h2.trans S.os
  drawn := h3.trans S.drawn
  top := S.top
  kbh := fun b o e => get_keep (hk b) (S.kbh b o e)
  fza := S.fza
  fzT := S.fzT
  gh := fun b o e => hk b o (S.gh b o e)
  avk := S.avk
  gav := S.gav
  hph := fun a mo e => by
    obtain ⟨h1, h2, h3⟩ := S.hph a mo e
    obtain ⟨o, ho⟩ := h1.some
    exact ⟨h1.sub Sub.rfl' ((hk a o ho).trans ho.symm), h2, h3⟩

theorem extBut (S : Sat X kb av g hp s) {a : Addr} (ha : kb a = none) (hg : g a = none) (hk : ∀ b o, b ≠ a → s.heap.get? b = some o → s'.heap.get? b = some o)
    (h1 : s'.gens = s.gens) (h2 : s'.os = s.os) (h3 : s'.drawn = s.drawn) : Sat X kb av g (updH hp a none) s' where
  gens := h1.trans S.gens
  os := h2.trans S.os
  drawn := h3.trans S.drawn
  top := S.top
  kbh := fun b o e => get_keep (fun o' => hk b o' (fun q => by rw [q, ha] at e; cases e)) (S.kbh b o e)
  fza := S.fza
  fzT := S.fzT
  gh := fun b o e => hk b o (fun q => by rw [q, hg] at e; cases e) (S.gh b o e)
  avk := S.avk
  gav := S.gav
  hph := fun b mo e => by
    unfold updH at e
    split at e
    · cases e
    · rename_i q
      obtain ⟨h1, h2, h3⟩ := S.hph b mo e
      obtain ⟨o, ho⟩ := h1.some
      exact ⟨h1.sub Sub.rfl' ((hk b o q ho).trans ho.symm), h2, h3⟩

theorem put (S : Sat X kb av g hp s) {a : Addr} {mo : MO} (ha : kb a = none) (hg : g a = none) (hm : MR X g s.heap a mo) : Sat X kb av g (updH hp a (some mo)) s where
  gens := S.gens
  os := S.os
  drawn := S.drawn
  top := S.top
  kbh := S.kbh
  fza := S.fza
  fzT := S.fzT
  gh := S.gh
  avk := S.avk
  gav := S.gav
  hph := fun b mo' e => by
    unfold updH at e
    split at e
    · rename_i q; cases e; subst q; exact ⟨hm, ha, hg⟩
    · exact S.hph b mo' e

theorem grow (S : Sat X kb av g hp s) {a : Addr} {o : Obj} (ho : s.heap.get? a = some o) (ha : kb a = none) (hh : hp a = none) (hg : g a = none) : Sat X kb av (updG g a o) hp s where
  gens := S.gens
  os := S.os
  drawn := S.drawn
  top := S.top
  kbh := S.kbh
  fza := S.fza
  fzT := S.fzT
  gh := fun b o' e => by
    unfold updG at e
    split at e
    · rename_i q; cases e; rw [q]; exact ho
    · exact S.gh b o' e
  avk := S.avk
  gav := fun b hb => by
    unfold updG
    split
    · rename_i q; have := S.avk b hb; rw [q, ha] at this; cases this
    · exact S.gav b hb
  hph := fun b mo' e => by
    obtain ⟨h1, h2, h3⟩ := S.hph b mo' e
    refine ⟨h1.sub (Sub.updG hg) rfl, h2, ?_⟩
    unfold updG
    split
    · rename_i q; rw [q, hh] at e; cases e
    · exact h3

theorem fresh_kb (S : Sat X kb av g hp s) {a : Addr} (h : s.heap.get? a = none) : kb a = none := by
  cases e : kb a with
  | none => rfl
  | some o => obtain ⟨o', q, _⟩ := get_ex (S.kbh a o e); rw [h] at q; cases q
theorem fresh_g (S : Sat X kb av g hp s) {a : Addr} (h : s.heap.get? a = none) : g a = none := by
  cases e : g a with
  | none => rfl
  | some o => have := S.gh a o e; rw [h] at this; cases this
theorem fresh_hp (S : Sat X kb av g hp s) {a : Addr} (h : s.heap.get? a = none) : hp a = none := by
  cases e : hp a with
  | none => rfl
  | some o => obtain ⟨o', ho⟩ := (S.hph a o e).1.some; rw [h] at ho; cases ho
end Sat

theorem get?_size (h : Heap) : h.get? h.objs.size = none := by
  cases e : h.get? h.objs.size with
  | none => rfl
  | some o => exact absurd (Heap.lt_size e) (Nat.lt_irrefl _)

structure Room (A : Around) (n : Nat) : Prop where
  dep : A.depth + n < recursionLimit
  un : A.units + 4 * n + 40 < cLine

structure EnvOk (env : Env) : Prop where
  kind : env.scope.kind = .function
  globals : env.globals = mainGlobals
  builtins : env.builtins = builtinsNs
  cel : ∀ x, env.kindOf x = some .cell → ∃ c, env.cells.lookup x = some c

structure InF (X : Cx) (env : Env) (rw : Bool) (kb : Fz) (av : Addr → Prop) (g : Fz) (st : St) (s : Shared) : Prop where
  sat : Sat X kb av g st.hp s
  ok : EnvOk env
  ns : ∃ m, s.heap.Ns env.locals m ∧ ∀ x d, env.kindOf x = some .local → st.loc x = some d → ∃ v, m x = some v ∧ R g d v
  Lk : kb env.locals = none
  Lg : g env.locals = none
  Lh : st.hp env.locals = none
  cell : ∀ x c, env.kindOf x = some .cell → env.cells.lookup x = some c → ∃ vo, s.heap.IsCell c vo ∧ (∀ d, st.loc x = some d → ∃ v, vo = some v ∧ R g d v) ∧ c ≠ env.locals ∧ g c = none ∧ st.hp c = none ∧ (rw = true → kb c = none)
  apart : rw = true → ∀ x y c, env.cells.lookup x = some c → env.cells.lookup y = some c → x = y
  lg : ∀ x d, st.loc x = some d → X.G x = none
  nfz : ∀ x c, env.kindOf x = some .cell → env.cells.lookup x = some c → ¬ X.fz c

end Mine

namespace Mine
open PySem PySem.W PyProof.Rows PySem.Spec

/-! ## exceptions in flight -/
def NF (o : Obj) : Prop := ∀ vs, o.data ≠ .fields vs
def KN (kb : Fz) (av : Addr → Prop) (L : Addr) : Prop := (∃ o, kb L = some o ∧ NF o) ∧ av L
def FOk (X : Cx) (kb : Fz) (av : Addr → Prop) (f : Env) : Prop := f.scope.kind ≠ .module ∧ ∃ L, f.frame = some L ∧ KN kb av L ∧ (X.ct = true → X.fz L)
def FrC (X : Cx) (A : Around) (kb : Fz) (av : Addr → Prop) : Prop := ∃ l, A.frames = some l ∧ ∀ f ∈ l, FOk X kb av f
def Fr (X : Cx) (env : Env) (rw : Bool) (A : Around) (kb : Fz) (av : Addr → Prop) : Prop :=
  ∃ f l L, A.frames = some (f :: l) ∧ f.scope.kind ≠ .module ∧ f.frame = some L ∧ env.frame = some L ∧ ((rw = true ∧ L = env.locals) ∨ (rw = false ∧ KN kb av L)) ∧ ∀ f ∈ l, FOk X kb av f
def HK (A : Around) (kb : Fz) : Prop := A.handled = none ∨ ∃ h0 oh vs, A.handled = some (.ref h0) ∧ kb h0 = some oh ∧ oh.data = .fields vs ∧ vs[2]? = some .none
theorem HK.mono {A : Around} {kb kb' : Fz} (k : HK A kb) (h : ∀ b o, kb b = some o → kb' b = some o) : HK A kb' := k.imp id fun ⟨h0, oh, vs, a, b, c⟩ => ⟨h0, oh, vs, a, h _ _ b, c⟩
structure RmC (X : Cx) (kb : Fz) (av : Addr → Prop) (A : Around) (n : Nat) : Prop extends Room A n where
  hd : X.hn = true → A.handled = none
  hk : X.hn = false → X.cm = true → HK A kb
  fr : FrC X A kb av
structure Rm (X : Cx) (env : Env) (rw : Bool) (kb : Fz) (av : Addr → Prop) (A : Around) (n : Nat) : Prop extends Room A n where
  hd : X.hn = true → A.handled = none
  rwc : X.cm = false → rw = true
  hk : X.hn = false → X.cm = true → HK A kb
  fr : Fr X env rw A kb av
class Hn (X : Cx) : Prop where
  h : X.hn = true
  c : X.cm = true
class Nc (X : Cx) : Prop where
  h : X.ct = false
theorem KN.mono {kb kb' : Fz} {av av' : Addr → Prop} {L : Addr} (k : KN kb av L) (h : ∀ b o, kb b = some o → kb' b = some o) (h' : ∀ b, av b → av' b) : KN kb' av' L := ⟨let ⟨o, a, b⟩ := k.1; ⟨o, h _ _ a, b⟩, h' _ k.2⟩
theorem FOk.mono {X : Cx} {kb kb' : Fz} {av av' : Addr → Prop} {f : Env} (k : FOk X kb av f) (h : ∀ b o, kb b = some o → kb' b = some o) (h' : ∀ b, av b → av' b) : FOk X kb' av' f := let ⟨a, L, b, c, d⟩ := k; ⟨a, L, b, c.mono h h', d⟩

abbrev frs (l : List Env) : List Addr := l.filterMap (·.frame)
def Tr (kb : Fz) (e : Addr) (tr : Bool) (vs : Array Value) (h : Heap) : Prop := (tr = false ∧ vs[1]? = some .none) ∨ ∃ T oT ts, vs[1]? = some (.ref T) ∧ kb T = none ∧ T ≠ e ∧ h.get? T = some oT ∧ oT.data = .fields ts ∧ 3 < ts.size
structure Fly (X : Cx) (l : List Env) (kb : Fz) (e C : Addr) (tr : Bool) (s : Shared) : Prop where
  gens : s.gens = X.s0.gens
  os : s.os = X.s0.os
  drawn : s.drawn = X.s0.drawn
  eb : kb e = none
  fr : ∀ f ∈ l, f.scope.kind ≠ .module ∧ ∃ L o, f.frame = some L ∧ s.heap.get? L = some o ∧ NF o
  kbh : ∀ b o, kb b = some o → ∃ sl, s.heap.get? b = some { o with slots := sl } ∧ (b ∉ frs l → ¬ X.fz b → sl = o.slots)
  ex : ∃ oe vs, s.heap.get? e = some oe ∧ oe.cls = .ref C ∧ oe.dict = none ∧ oe.data = .fields vs ∧ (1 < vs.size ∧ vs[2]? = some .none) ∧ Tr kb e tr vs s.heap
def EX (X : Cx) (A : Around) (kb : Fz) (v : Value) (s : Shared) : Prop := ∃ e C tr l, v = .ref e ∧ X.Ex C ∧ A.frames = some l ∧ Fly X l kb e C tr s

def h0 : Heap := { objs := #[] }
theorem h0_none (a : Addr) : h0.get? a = none := by simp [h0, Heap.get?]

section
variable {X : Cx} {l : List Env} {kb kb' : Fz} {e C : Addr} {tr : Bool} {s : Shared} {M : Model} {A : Around} {E : Value → Shared → Prop} {env f : Env} {outer : List Env} {L : Addr}
theorem Fly.frames (F : Fly X l kb e C tr s) : s.heap.FunFrames h0 l := by
  have := F.fr
  clear F
  induction l with
  | nil => trivial
  | cons f r ih =>
    obtain ⟨h1, L, o, h2, h3, h4⟩ := this f List.mem_cons_self
    exact ⟨h1, ⟨L, o, h2, h0_none _, h3, h4⟩, ih fun f hf => this f (List.mem_cons_of_mem _ hf)⟩
theorem Fly.mono (F : Fly X l kb e C tr s) (h : ∀ b o, kb' b = some o → kb b = some o) : Fly X l kb' e C tr s where
  gens := F.gens
  os := F.os
  drawn := F.drawn
  eb := by
    cases q : kb' e with
    | none => rfl
    | some o => have := h e o q; rw [F.eb] at this; cases this
  fr := F.fr
  kbh := fun b o q => F.kbh b o (h b o q)
  ex := by
    obtain ⟨oe, vs, a1, a2, aD, a3, a4, a5⟩ := F.ex
    refine ⟨oe, vs, a1, a2, aD, a3, a4, ?_⟩
    rcases a5 with a5 | ⟨T, oT, ts, b1, b2, b3⟩
    · exact .inl a5
    · refine .inr ⟨T, oT, ts, b1, ?_, b3⟩
      cases q : kb' T with
      | none => rfl
      | some o => have := h T o q; rw [b2] at this; cases this
theorem EX.mono {v : Value} (F : EX X A kb v s) (h : ∀ b o, kb' b = some o → kb b = some o) : EX X A kb' v s :=
  let ⟨e, C, tr, l, h1, h2, h3, h4⟩ := F; ⟨e, C, tr, l, h1, h2, h3, h4.mono h⟩
theorem Fly.next (F : Fly X l kb e C tr s) {h' : Heap} {tr' : Bool} (hn : ∀ b o, (kb b ≠ none ∨ NF o) → s.heap.get? b = some o → ∃ sl, h'.get? b = some { o with slots := sl } ∧ (b ∉ frs l → sl = o.slots))
    (hx : ∃ oe vs, h'.get? e = some oe ∧ oe.cls = .ref C ∧ oe.dict = none ∧ oe.data = .fields vs ∧ (1 < vs.size ∧ vs[2]? = some .none) ∧ Tr kb e tr' vs h') : Fly X l kb e C tr' { s with heap := h' } where
  gens := F.gens
  os := F.os
  drawn := F.drawn
  eb := F.eb
  fr := fun f hf => by
    obtain ⟨h1, L, o, h2, h3, h4⟩ := F.fr f hf
    obtain ⟨sl, h5, _⟩ := hn L o (.inr h4) h3
    exact ⟨h1, L, _, h2, h5, h4⟩
  kbh := fun b o q => by
    obtain ⟨sl, h1, h2⟩ := F.kbh b o q
    obtain ⟨sl', h3, h4⟩ := hn b _ (.inl (by rw [q]; exact fun z => by cases z)) h1
    exact ⟨sl', h3, fun hb hz => (h4 hb).trans (h2 hb hz)⟩
  ex := hx
theorem mf_dict (g : Array Value → Array Value) (o : Obj) : (Obj.mapFields g o).dict = o.dict := by unfold Obj.mapFields; split <;> rfl
theorem mf_data {o : Obj} {vs : Array Value} (hd : o.data = .fields vs) (g : Array Value → Array Value) : (Obj.mapFields g o).data = .fields (g vs) := Obj.data_mapFields hd g

theorem Fly.setT (F : Fly X l kb e C tr s) {T : Addr} {oT : Obj} {ts : Array Value} {x : Value} (hb : kb T = none) (hT : s.heap.get? T = some oT) (hd : oT.data = .fields ts) (hTe : T ≠ e) (hsz : 3 < ts.size)
    (h1 : ∀ oe vs, s.heap.get? e = some oe → oe.data = .fields vs → vs[1]? = some (.ref T)) : Fly X l kb e C true { s with heap := s.heap.update T (Obj.mapFields (·.setIfInBounds 3 x)) } := by
  have other : ∀ b, b ≠ T → (s.heap.update T (Obj.mapFields (·.setIfInBounds 3 x))).get? b = s.heap.get? b := fun b hb => Heap.get?_update_other _ _ (Ne.symm hb)
  refine F.next (fun b o hk ho => ⟨o.slots, ?_, fun _ => rfl⟩) ?_
  · refine (other b fun q => ?_).trans ho
    subst q
    rcases hk with hk | hk
    · exact hk hb
    · rw [hT] at ho; cases ho; exact hk ts hd
  · obtain ⟨oe, vs, a1, a2, aD, a3, a4, a5⟩ := F.ex
    refine ⟨oe, vs, (other e (Ne.symm hTe)).trans a1, a2, aD, a3, a4, .inr ⟨T, _, _, h1 oe vs a1 a3, hb, hTe, Heap.get?_update_self _ hT (Obj.isFreed_of_fields (mf_data hd _)), mf_data hd _, by simpa using hsz⟩⟩

theorem up_setT {h : Heap} {T : Addr} {oT : Obj} {ts : Array Value} {x : Value} (hT : h.get? T = some oT) (hd : oT.data = .fields ts) : h.UpToSlots (h.update T (Obj.mapFields (·.setIfInBounds 3 x))) := fun b o ho hn => by
  have : T ≠ b := fun q => by
    subst q
    rw [hT] at ho; cases ho; exact hn ts hd
  exact ⟨o.slots, (Heap.get?_update_other _ _ this).trans ho⟩
theorem fly_flight (F : Fly X l kb e C true s) {fo : Option Addr} {Q : Unit → Shared → Prop} (h : ∀ h', Fly X l kb e C true { s with heap := h' } → s.heap.UpToSlots h' → Q () { s with heap := h' }) : wpAny M A (setFlight (.ref e) fo) Q E s := by
  obtain ⟨oe, vs, a1, a2, aD, a3, a4, a5⟩ := F.ex
  rcases a5 with ⟨q, _⟩ | ⟨T, oT, ts, b1, b2, b3, b4, b5, b6⟩
  · cases q
  unfold setFlight
  refine wpAny_bind (wpAny_field a1 a3 b1 ?_)
  rw [if_pos (show (Value.ref T != Value.none) = true from by simp)]
  exact wpAny_setField b4 b5 b6 (h _ (F.setT b2 b4 b5 b3 b6 fun oe' vs' q1 q2 => by rw [a1] at q1; cases q1; rw [a3] at q2; cases q2; exact b1) (up_setT b4 b5))

theorem frameOf_ok (hfr : A.frames = some (f :: outer)) (hl : s.heap.FunFrames h0 (f :: outer)) (hf : f.frame = some L) (henv : env.frame = some L) {Q : Value → Shared → Prop}
    (h : ∀ h', Heap.SlotsOnly (frs (f :: outer)) s.heap h' → Q (.ref L) { s with heap := h' }) : wpAny M A (PySem.frameOf env) Q E s := by
  unfold PySem.frameOf
  refine wpAny_bind (wpAny_frameEnvs hfr ?_)
  have hdw : ((f :: outer).dropWhile fun x => x.frame != env.frame) = f :: outer := by simp [List.dropWhile, hf, henv]
  rw [hdw]
  unfold frameObject
  refine wpAny_bind (wpAny_bind (wpAny_readyFrames_fun hl fun h₁ hs₁ => wpAny_pure ?_))
  rw [hf]
  exact wpAny_pure (h h₁ hs₁)

theorem fly_entry (hfr : A.frames = some (f :: outer)) (hf : f.frame = some L) (henv : env.frame = some L) (F : Fly X (f :: outer) kb e C tr s) (hkb : ∀ b o, kb b = some o → b < s.heap.objs.size) {head : Value} {hadNext : Bool} {Q : Unit → Shared → Prop}
    (h : ∀ h', Fly X (f :: outer) kb e C true { s with heap := h' } → s.heap.UpToSlots h' → Q () { s with heap := h' }) :
    wpAny M A (do let a ← PySem.frameOf env; let pl ← entryPlaceOf L hadNext; let b ← EntryCells.newEntry head a .none (rawInt L) .none pl; setField (.ref e) 1 b) Q E s := by
  obtain ⟨oe, vs, he, hcl, hdi, hd, hsz, _⟩ := F.ex
  have hl := F.frames
  have hene : e ∉ frs (f :: outer) := fun hm => by
    obtain ⟨_, o, ho, hnf⟩ := hl.mem hm
    rw [he] at ho; cases ho; exact hnf vs hd
  refine wpAny_bind (frameOf_ok hfr hl hf henv fun h₁ hs₁ => ?_)
  refine wpAny_bind (wpAny_entryPlaceOf fun pl hpl => ?_)
  unfold EntryCells.newEntry newFields
  refine wpAny_bind (wpAny_newObj_type ?_ (hpl.sizeOk5 _ _ _ _ _))
  have he₁ : h₁.get? e = some oe := (hs₁.2.1 e hene).trans he
  have he₂ := Heap.get?_push_of_some (h := h₁) { cls := .type "traceback", dict := none, data := .fields ([head, .ref L, .none, rawInt L, .none] ++ (if pl.isEmpty then List.replicate 6 Value.none else pl)).toArray } he₁
  have hTe : h₁.objs.size ≠ e := Nat.ne_of_gt (Heap.lt_size he₁)
  have hd₃ := Obj.data_mapFields hd (·.setIfInBounds 1 (Value.ref h₁.objs.size))
  have he₃ := Heap.get?_update_self (Obj.mapFields (·.setIfInBounds 1 (Value.ref h₁.objs.size))) he₂ (Obj.isFreed_of_fields hd₃)
  have hT₃ := (Heap.get?_update_other (h₁.push { cls := .type "traceback", dict := none, data := .fields ([head, .ref L, .none, rawInt L, .none] ++ (if pl.isEmpty then List.replicate 6 Value.none else pl)).toArray })
    (Obj.mapFields (·.setIfInBounds 1 (Value.ref h₁.objs.size))) (Ne.symm hTe)).trans (Heap.get?_push_size h₁ rfl)
  have keep : ∀ b o, b ≠ e → h₁.get? b = some o →
      ((h₁.push { cls := .type "traceback", dict := none, data := .fields ([head, .ref L, .none, rawInt L, .none] ++ (if pl.isEmpty then List.replicate 6 Value.none else pl)).toArray }).update e (Obj.mapFields (·.setIfInBounds 1 (Value.ref h₁.objs.size)))).get? b = some o :=
    fun b o hbe hb => by
      rw [Heap.get?_update_other _ _ (Ne.symm hbe)]
      exact Heap.get?_push_of_some _ hb
  have hn : ∀ b o, (kb b ≠ none ∨ NF o) → s.heap.get? b = some o → ∃ sl, ((h₁.push { cls := .type "traceback", dict := none, data := .fields ([head, .ref L, .none, rawInt L, .none] ++ (if pl.isEmpty then List.replicate 6 Value.none else pl)).toArray }).update e (Obj.mapFields (·.setIfInBounds 1 (Value.ref h₁.objs.size)))).get? b = some { o with slots := sl } ∧ (b ∉ frs (f :: outer) → sl = o.slots) := fun b o hk ho => by
    have hbe : b ≠ e := fun q => by
      subst q
      rcases hk with hk | hk
      · exact hk F.eb
      · rw [he] at ho; cases ho; exact hk vs hd
    obtain ⟨sl, hs⟩ := hs₁.2.2 b o ho
    refine ⟨sl, keep b _ hbe hs, fun hb => ?_⟩
    have := hs₁.2.1 b hb
    rw [hs, ho] at this
    exact congrArg Obj.slots (Option.some.inj this)
  refine wpAny_setField he₂ hd hsz.1 (h _ (F.next hn ⟨_, _, he₃, (Obj.cls_mapFields _ _).trans hcl, (mf_dict _ _).trans hdi, hd₃, ⟨by simpa using hsz.1, by rw [Array.getElem?_setIfInBounds_ne (by decide)]; exact hsz.2⟩, .inr ⟨h₁.objs.size, _, _, by simp [hsz.1], ?_, hTe, hT₃, rfl, ?_⟩⟩) fun b o ho hnf => let ⟨sl, q, _⟩ := hn b o (.inr hnf) ho; ⟨sl, q⟩)
  · cases q : kb h₁.objs.size with
    | none => rfl
    | some o => have := hkb _ o q; rw [hs₁.1] at this; exact absurd this (Nat.lt_irrefl _)
  · simp only [List.size_toArray, List.length_append, List.length_cons, List.length_nil]; omega

theorem Fly.lt (F : Fly X l kb e C tr s) : ∀ b o, kb b = some o → b < s.heap.objs.size := fun b o q => let ⟨_, h, _⟩ := F.kbh b o q; Heap.lt_size h

theorem fly_note (hfr : A.frames = some (f :: outer)) (hf : f.frame = some L) (henv : env.frame = some L) (F : Fly X (f :: outer) kb e C tr s) {Q : Unit → Shared → Prop}
    (h : ∀ h', Fly X (f :: outer) kb e C true { s with heap := h' } → s.heap.UpToSlots h' → Q () { s with heap := h' }) : wpAny M A (noteFrame (.ref e) env) Q E s := by
  obtain ⟨oe, vs, a1, a2, aD, a3, a4, a5⟩ := id F.ex
  unfold noteFrame
  simp only [henv]
  rcases a5 with ⟨_, b1⟩ | ⟨T, oT, ts, b1, b2, b3, b4, b5, b6⟩
  · refine wpAny_bind (wpAny_field a1 a3 b1 ?_)
    rw [if_neg (by decide)]
    exact fly_entry hfr hf henv F F.lt h
  · refine wpAny_bind (wpAny_field a1 a3 b1 ?_)
    rw [if_pos (show (Value.ref T != Value.none) = true from by simp)]
    have hT1 : ∀ oe' vs', s.heap.get? e = some oe' → oe'.data = .fields vs' → vs'[1]? = some (.ref T) := fun oe' vs' q1 q2 => by rw [a1] at q1; cases q1; rw [a3] at q2; cases q2; exact b1
    refine wpAny_bind (wpAny_field b4 b5 (x := ts[3]) (Array.getElem?_eq_getElem b6) ?_)
    split
    · refine wpAny_pure ?_
      exact h s.heap ⟨F.gens, F.os, F.drawn, F.eb, F.fr, F.kbh, oe, vs, a1, a2, aD, a3, a4, .inr ⟨T, oT, ts, b1, b2, b3, b4, b5, b6⟩⟩ (.refl _)
    · have F' := F.setT (x := .none) b2 b4 b5 b3 b6 hT1
      exact wpAny_bind (wpAny_setField b4 b5 b6 (fly_entry hfr hf henv F' F'.lt fun h' q1 q2 => h h' q1 ((up_setT b4 b5).trans q2)))

theorem fly_came (F : Fly X l kb e C true s) {E' : Value → Shared → Prop} (h : ∀ h', Fly X l kb e C true { s with heap := h' } → s.heap.UpToSlots h' → E' (.ref e) { s with heap := h' }) : cameBackBy M A env E' (.ref e) s := by
  obtain ⟨oe, vs, a1, a2, aD, a3, a4, a5⟩ := id F.ex
  rcases a5 with ⟨q, _⟩ | ⟨T, oT, ts, b1, b2, b3, b4, b5, b6⟩
  · cases q
  unfold cameBackBy
  refine wpAny_bind (wpAny_field a1 a3 b1 ?_)
  rw [if_neg (show ¬ ((Value.ref T == Value.none) = true) from by simp)]
  exact fly_flight F h
theorem fly_passOn {α : Type} {what : String} {P : α → Shared → Prop} (F : Fly X l kb e C true s) (h : ∀ h', Fly X l kb e C true { s with heap := h' } → s.heap.UpToSlots h' → E (.ref e) { s with heap := h' }) : wpAny M A (PySem.passOn what (.ref e) env : Sem α) P E s := by
  obtain ⟨oe, vs, a1, a2, aD, a3, a4, a5⟩ := id F.ex
  rcases a5 with ⟨q, _⟩ | ⟨T, oT, ts, b1, b2, b3, b4, b5, b6⟩
  · cases q
  unfold PySem.passOn
  refine wpAny_bind (wpAny_field a1 a3 b1 ?_)
  rw [if_neg (show ¬ ((Value.ref T == Value.none) = true) from by simp)]
  exact wpAny_bind (fly_flight F fun h' q1 q2 => wpAny_throw (h h' q1 q2))

def CellsOk (env : Env) (h : Heap) : Prop := ∀ x c, env.kindOf x = some .cell → env.cells.lookup x = some c → ∃ vo, h.IsCell c vo
theorem CellsOk.up {env : Env} {h h' : Heap} (k : CellsOk env h) (u : h.UpToSlots h') : CellsOk env h' := fun x c h1 h2 => by
  obtain ⟨vo, o, ho, hd⟩ := k x c h1 h2
  obtain ⟨sl, q⟩ := u c o ho fun vs z => by rw [hd] at z; cases z
  exact ⟨vo, _, q, hd⟩
theorem CellsOk.keeps {env : Env} {h h' : Heap} (k : CellsOk env h) (u : ∀ x c, env.kindOf x = some .cell → env.cells.lookup x = some c → ∀ o, h.get? c = some o → h'.get? c = some o) : CellsOk env h' := fun x c h1 h2 => by
  obtain ⟨vo, o, ho, hd⟩ := k x c h1 h2
  exact ⟨vo, o, u x c h1 h2 o ho, hd⟩
def EXF (X : Cx) (env : Env) (A : Around) (kb : Fz) (v : Value) (s : Shared) : Prop := EX X A kb v s ∧ (∃ m, s.heap.Ns env.locals m) ∧ CellsOk env s.heap
theorem EXF.mono {v : Value} (F : EXF X env A kb v s) (h : ∀ b o, kb' b = some o → kb b = some o) : EXF X env A kb' v s := ⟨F.1.mono h, F.2⟩
theorem EXF.passes {v : Value} {rw : Bool} {av : Addr → Prop} (hr : Fr X env rw A kb av) (x : EXF X env A kb v s) : notedBy M A env (cameBackBy M A env (EXF X env A kb)) v s := by
  obtain ⟨⟨e, C, tr, l, rfl, hC, hfr, F⟩, ⟨m, hm⟩, hc⟩ := x
  obtain ⟨f, l', L, h1, h2, h3, h4, h5, h6⟩ := hr
  rw [hfr] at h1
  cases h1
  exact fly_note hfr h3 h4 F fun h' F' u1 => fly_came F' fun h'' F'' u2 => ⟨⟨e, C, true, _, rfl, hC, hfr, F''⟩, ⟨m, (u1.trans u2).ns hm⟩, hc.up (u1.trans u2)⟩
theorem EX.leaves {v : Value} {Q : Unit → Shared → Prop} {env : Env} {A₀ : Around} (hA : A₀.frames = some outer) (hA' : A.frames = some (env :: outer)) (henv : env.frame = some env.locals) (hL : kb env.locals = none) (x : EX X A kb v s)
    (h : ∀ s', EX X A₀ kb v s' → Q () s') : wpAny M A (leaving env v) Q E s := by
  obtain ⟨e, C, tr, l, rfl, hC, hfr, F⟩ := x
  rw [hfr] at hA'
  cases hA'
  unfold leaving
  refine wpAny_bind (fly_note hfr henv henv F fun h' F' _ => fly_flight F' fun h'' F'' _ => h _ ⟨e, C, true, outer, rfl, hC, hA, ?_⟩)
  exact { gens := F''.gens, os := F''.os, drawn := F''.drawn, eb := F''.eb, fr := fun f hf => F''.fr f (List.mem_cons_of_mem _ hf), ex := F''.ex
          kbh := fun b o q => by
            obtain ⟨sl, h1, h2⟩ := F''.kbh b o q
            refine ⟨sl, h1, fun hb hz => h2 (fun hm => hb ?_) hz⟩
            rw [frs, List.filterMap_cons, henv] at hm
            rcases List.mem_cons.mp hm with e | e
            · rw [e, hL] at q; cases q
            · exact e }
theorem Fly.touch (F : Fly X l kb e C tr s) {a : Addr} {h' : Heap} (hs : Heap.SameBut a s.heap h') (ha : kb a = none) (hl : a ∉ frs l) {o : Obj} (ho : s.heap.get? a = some o) (hn : NF o) : Fly X l kb e C tr { s with heap := h' } := by
  obtain ⟨oe, vs, a1, a2, aD, a3, a4, a5⟩ := id F.ex
  have hae : e ≠ a := fun q => by rw [q, ho] at a1; cases a1; exact hn vs a3
  exact {
    gens := F.gens, os := F.os, drawn := F.drawn, eb := F.eb
    fr := fun f hf => by
      obtain ⟨h1, L, o', h2, h3, h4⟩ := F.fr f hf
      exact ⟨h1, L, o', h2, (hs.2 L fun q => hl (List.mem_filterMap.mpr ⟨f, hf, by rw [← q]; exact h2⟩)).trans h3, h4⟩
    kbh := fun b o' q => by
      obtain ⟨sl, h1, h2⟩ := F.kbh b o' q
      exact ⟨sl, (hs.2 b fun z => by rw [z, ha] at q; cases q).trans h1, h2⟩
    ex := by
      refine ⟨oe, vs, (hs.2 e hae).trans a1, a2, aD, a3, a4, ?_⟩
      rcases a5 with a5 | ⟨T, oT, ts, b1, b2, b3, b4, b5, b6⟩
      · exact .inl a5
      · exact .inr ⟨T, oT, ts, b1, b2, b3, (hs.2 T fun q => by rw [q, ho] at b4; cases b4; exact hn ts b5).trans b4, b5, b6⟩ }
end
end Mine

namespace Mine
open PySem PySem.W PyProof.Rows PySem.Spec
def Own (env : Env) (b : Addr) : Prop := b = env.locals ∨ ∃ x, env.kindOf x = some .cell ∧ env.cells.lookup x = some b
namespace InF
variable {X : Cx} {env : Env} {rw : Bool} {kb : Fz} {av : Addr → Prop} {g g' : Fz} {st st' : St} {s s' : Shared} {hp' : Addr → Option MO}
theorem own_g (F : InF X env rw kb av g st s) {b : Addr} (h : Own env b) : g b = none := by
  rcases h with rfl | ⟨x, h1, h2⟩
  · exact F.Lg
  · obtain ⟨_, _, _, _, h, _⟩ := F.cell x b h1 h2; exact h
theorem own_hp (F : InF X env rw kb av g st s) {b : Addr} (h : Own env b) : st.hp b = none := by
  rcases h with rfl | ⟨x, h1, h2⟩
  · exact F.Lh
  · obtain ⟨_, _, _, _, _, h, _⟩ := F.cell x b h1 h2; exact h
theorem own_some (F : InF X env rw kb av g st s) {b : Addr} (h : Own env b) : ∃ o, s.heap.get? b = some o := by
  rcases h with rfl | ⟨x, h1, h2⟩
  · obtain ⟨m, ⟨o, _, _, ho, _⟩, _⟩ := F.ns; exact ⟨o, ho⟩
  · obtain ⟨_, ⟨o, ho, _⟩, _⟩ := F.cell x b h1 h2; exact ⟨o, ho⟩
theorem own_fz (F : InF X env rw kb av g st s) {b : Addr} (h : Own env b) : ¬ X.fz b := by
  rcases h with rfl | ⟨x, h1, h2⟩
  · exact F.sat.nfz F.Lk
  · exact F.nfz x b h1 h2
theorem next (F : InF X env rw kb av g st s) (S : Sat X kb av g' hp' s') (sub : Sub g g')
    (hk : ∀ b, Own env b → ∀ o, s.heap.get? b = some o → s'.heap.get? b = some o) (hg : ∀ b, Own env b → g' b = none) (hh : ∀ b, Own env b → hp' b = none) :
    InF X env rw kb av g' ⟨st.loc, hp'⟩ s' where
  sat := S
  ok := F.ok
  ns := by
    obtain ⟨m, hn, hm⟩ := F.ns
    refine ⟨m, hn.at' (fun o e => hk _ (.inl rfl) o e), fun x d h1 h2 => ?_⟩
    obtain ⟨v, h3, h4⟩ := hm x d h1 h2
    exact ⟨v, h3, h4.sub sub⟩
  Lk := F.Lk
  Lg := hg _ (.inl rfl)
  Lh := hh _ (.inl rfl)
  cell := fun x c h1 h2 => by
    obtain ⟨vo, ⟨o, ho, hd⟩, hl, h3, h4, h5, h6⟩ := F.cell x c h1 h2
    refine ⟨vo, ⟨o, hk c (.inr ⟨x, h1, h2⟩) o ho, hd⟩, fun d e => ?_, h3, hg c (.inr ⟨x, h1, h2⟩), hh c (.inr ⟨x, h1, h2⟩), h6⟩
    obtain ⟨v, e1, e2⟩ := hl d e
    exact ⟨v, e1, e2.sub sub⟩
  apart := F.apart
  lg := F.lg
  nfz := F.nfz
theorem keeps (F : InF X env rw kb av g st s) (hk : ∀ b o, s.heap.get? b = some o → s'.heap.get? b = some o)
    (h1 : s'.gens = s.gens := by rfl) (h2 : s'.os = s.os := by rfl) (h3 : s'.drawn = s.drawn := by rfl) : InF X env rw kb av g st s' :=
  F.next (F.sat.keeps hk h1 h2 h3) Sub.rfl' (fun b _ o e => hk b o e) (fun _ h => F.own_g h) (fun _ h => F.own_hp h)
theorem toks (F : InF X env rw kb av g st s) (t : Nat) : InF X env rw kb av g st { s with toks := t } := F.keeps (fun _ _ e => e)
theorem alloc_hp (F : InF X env rw kb av g st s) {o : Obj} {mo : MO} (hm : MR X g (s.heap.push o) s.heap.objs.size mo) :
    InF X env rw kb av g ⟨st.loc, updH st.hp s.heap.objs.size (some mo)⟩ { s with heap := s.heap.push o } := by
  have hk : ∀ b o', s.heap.get? b = some o' → (s.heap.push o).get? b = some o' := fun b o' e => Heap.get?_push_of_some _ e
  have z := get?_size s.heap
  have S : Sat X kb av g st.hp { s with heap := s.heap.push o } := F.sat.keeps hk rfl rfl rfl
  refine F.next (S.put (F.sat.fresh_kb z) (F.sat.fresh_g z) hm) Sub.rfl' (fun b _ o e => hk b o e) (fun _ h => F.own_g h) (fun b h => ?_)
  unfold updH
  split
  · rename_i q; obtain ⟨o', ho⟩ := F.own_some h; rw [q, z] at ho; cases ho
  · exact F.own_hp h
theorem alloc_g (F : InF X env rw kb av g st s) {o : Obj} (hf : o.isFreed = false) :
    Sub g (updG g s.heap.objs.size o) ∧ InF X env rw kb av (updG g s.heap.objs.size o) st { s with heap := s.heap.push o } := by
  have hk : ∀ b o', s.heap.get? b = some o' → (s.heap.push o).get? b = some o' := fun b o' e => Heap.get?_push_of_some _ e
  have z := get?_size s.heap
  have S : Sat X kb av g st.hp { s with heap := s.heap.push o } := F.sat.keeps hk rfl rfl rfl
  have sub := Sub.updG (o := o) (F.sat.fresh_g z)
  refine ⟨sub, F.next (S.grow (Heap.get?_push_size _ hf) (F.sat.fresh_kb z) (F.sat.fresh_hp z) (F.sat.fresh_g z)) sub (fun b _ o e => hk b o e) (fun b h => ?_) (fun _ h => F.own_hp h)⟩
  unfold updG
  split
  · rename_i q; obtain ⟨o', ho⟩ := F.own_some h; rw [q, z] at ho; cases ho
  · exact F.own_g h
theorem setObj (F : InF X env rw kb av g st s) {a : Addr} {mo mo' : MO} {h' : Heap} (ha : st.hp a = some mo) (hs : Heap.SameBut a s.heap h') (hm : MR X g h' a mo') :
    InF X env rw kb av g ⟨st.loc, updH st.hp a (some mo')⟩ { s with heap := h' } := by
  obtain ⟨h1, h2, h3⟩ := F.sat.hph a mo ha
  have S := F.sat.extBut (s' := { s with heap := h' }) h2 h3 (fun b o q e => hs.extBut b o q e) rfl rfl rfl
  have S' := S.put (mo := mo') h2 h3 hm
  have e : updH (updH st.hp a none) a (some mo') = updH st.hp a (some mo') := by funext b; unfold updH; split <;> rfl
  rw [e] at S'
  have na : ∀ b, Own env b → b ≠ a := fun b h q => by have := F.own_hp h; rw [q, ha] at this; cases this
  refine F.next S' Sub.rfl' (fun b h o e => hs.extBut b o (na b h) e) (fun _ h => F.own_g h) (fun b h => ?_)
  unfold updH
  rw [if_neg (na b h)]; exact F.own_hp h
theorem fresh_hp (F : InF X env rw kb av g st s) {a : Addr} {mo : MO} (hk : ∀ b o, s.heap.get? b = some o → s'.heap.get? b = some o)
    (ha : s.heap.get? a = none) (hm : MR X g s'.heap a mo) (h1 : s'.gens = s.gens := by rfl) (h2 : s'.os = s.os := by rfl) (h3 : s'.drawn = s.drawn := by rfl) :
    InF X env rw kb av g ⟨st.loc, updH st.hp a (some mo)⟩ s' := by
  have S : Sat X kb av g st.hp s' := F.sat.keeps hk h1 h2 h3
  refine F.next (S.put (F.sat.fresh_kb ha) (F.sat.fresh_g ha) hm) Sub.rfl' (fun b _ o e => hk b o e) (fun _ h => F.own_g h) (fun b h => ?_)
  unfold updH
  split
  · rename_i q; obtain ⟨o', ho⟩ := F.own_some h; rw [q, ha] at ho; cases ho
  · exact F.own_hp h
theorem fresh_g (F : InF X env rw kb av g st s) {a : Addr} {o : Obj} (hk : ∀ b o, s.heap.get? b = some o → s'.heap.get? b = some o)
    (ha : s.heap.get? a = none) (ho : s'.heap.get? a = some o) (h1 : s'.gens = s.gens := by rfl) (h2 : s'.os = s.os := by rfl) (h3 : s'.drawn = s.drawn := by rfl) :
    Sub g (updG g a o) ∧ InF X env rw kb av (updG g a o) st s' := by
  have S : Sat X kb av g st.hp s' := F.sat.keeps hk h1 h2 h3
  have sub := Sub.updG (o := o) (F.sat.fresh_g ha)
  refine ⟨sub, F.next (S.grow ho (F.sat.fresh_kb ha) (F.sat.fresh_hp ha) (F.sat.fresh_g ha)) sub (fun b _ o e => hk b o e) (fun b h => ?_) (fun _ h => F.own_hp h)⟩
  unfold updG
  split
  · rename_i q; obtain ⟨o', ho⟩ := F.own_some h; rw [q, ha] at ho; cases ho
  · exact F.own_g h
end InF
abbrev Hp := Addr → Option MO
def lst (hp : Hp) : D → Option (List D)
  | .list xs => some xs
  | .addr a => match hp a with
    | some (.list xs) => some xs
    | _ => none
  | _ => none
def sq (hp : Hp) : D → Option (List D)
  | .list xs => some xs
  | .tup xs => some xs
  | .addr a => match hp a with
    | some (.list xs) => some xs
    | _ => none
  | _ => none
def dct (hp : Hp) : D → Option (List (Int × D))
  | .addr a => match hp a with
    | some (.dict es) => some es
    | _ => none
  | _ => none
def itemsOf (hp : Hp) : D → Option (List D)
  | .list xs => some xs
  | .tup xs => some xs
  | .rng a b => if (-1000000 < a ∧ a < 1000000) ∧ (-1000000 < b ∧ b < 1000000) then some ((List.range (b - a).toNat).map fun (k : Nat) => D.int (a + k)) else none
  | .addr a => match hp a with
    | some (.list xs) => some xs
    | _ => none
  | .dk a n ep => match hp a with
    | some (.dicte es ep') => if es.length = n ∧ ep' = ep then some (es.map fun e => D.int e.1) else none
    | _ => none
  | _ => none
mutual
def py : D → Option PyData
  | .none => some .none
  | .bool b => some (.bool b)
  | .int i => some (.int i)
  | .str x => some (.str x)
  | .list xs => (pys xs).map .list
  | .tup xs => (pys xs).map .tuple
  | _ => none
def pys : List D → Option (List PyData)
  | [] => some []
  | d :: ds => match py d, pys ds with
    | some p, some ps => some (p :: ps)
    | _, _ => none
end
def pyH (hp : Hp) : D → Option PyData
  | .addr a => match hp a with
    | some (.list xs) => (pys xs).map .list
    | _ => none
  | d => py d
def small (p : PyData) : Prop := p.canLay0 = true ∧ p.depth ≤ 20
def truth (hp : Hp) : D → Option Bool
  | .bool b => some b
  | .int i => some (i != 0)
  | .none => some false
  | .addr a => match hp a with
    | some (.list xs) => if xs.length ≤ 16000000 then some (!xs.isEmpty) else none
    | _ => none
  | _ => none
def New (xs : List D) (Q : D → St → Prop) (st : St) : Prop :=
  xs.length ≤ 16000000 ∧ (Q (.list xs) st ∨ ∀ a, st.hp a = none → Q (.addr a) ⟨st.loc, updH st.hp a (some (.list xs))⟩)
def isNone : D → Bool
  | .none => true
  | .fn v => v == .none
  | _ => false
def idx (n : Nat) (i : Int) : Option Nat :=
  if 0 ≤ i ∧ i < n then some i.toNat else if i < 0 ∧ -(n : Int) ≤ i then some (i + n).toNat else none
def lookI (k : Int) : List (Int × D) → Option D
  | [] => none
  | (i, d) :: r => if i = k then some d else lookI k r
def lookS (k : Str) : List (Str × D) → Option D
  | [] => none
  | (i, d) :: r => if i = k then some d else lookS k r
def plainD : D → Bool
  | .fn _ => false
  | _ => true
def cut {α : Type} (lo hi : Option Int) (xs : List α) : List α :=
  (xs.drop (lo.elim 0 (clipAt xs.length))).take (hi.elim xs.length (clipAt xs.length) - lo.elim 0 (clipAt xs.length))
def bound : D → Option (Option Int)
  | .none => some none
  | .int i => if -1000000000 < i ∧ i < 1000000000 then some (some i) else none
  | _ => none
def intsOf : List D → Option (List Int)
  | [] => some []
  | .int i :: r => (intsOf r).map (i :: ·)
  | _ => none

inductive PR (X : Cx) (kb : Fz) (av : Addr → Prop) (g : Fz) (Q : D → Hp → Prop) (v : Value) (s' : Shared) : Prop
  | mk (g' : Fz) (d : D) (hp' : Hp) (h : Sub g g') (S : Sat X kb av g' hp' s') (r : R g' d v) (q : Q d hp') : PR X kb av g Q v s'
def FS (X : Cx) (n : Nat) (f : Addr) (ds : List D) (hp : Hp) (Q : D → Hp → Prop) : Prop :=
  keepIn X.K (.ref f) = true ∧
  ∀ A kb av g s vs, RmC X kb av A n → Sat X kb av g hp s → Rs g ds vs →
    codeAny (model X.prog X.w) A (.call (.ref f) ⟨vs, []⟩) (fun r s' => match r with
      | .ok (.ret v) => PR X kb av g Q v s'
      | .error v => EX X A kb v s'
      | _ => False) s
inductive PV (X : Cx) (env : Env) (rw : Bool) (kb : Fz) (av : Addr → Prop) (g : Fz) (Q : D → St → Prop) (v : Value) (s' : Shared) : Prop
  | mk (g' : Fz) (d : D) (st' : St) (h : Sub g g') (F : InF X env rw kb av g' st' s') (r : R g' d v) (q : Q d st') : PV X env rw kb av g Q v s'
section
variable {X : Cx} {env : Env} {rw : Bool} {n : Nat} {A : Around} {kb : Fz} {av : Addr → Prop} {g : Fz} {st : St} {s : Shared} {E : Value → Shared → Prop} {Q : D → St → Prop}
theorem R.list' {ds : List D} {v : Value} (h : R g (.list ds) v) : ∃ a its, v = .ref a ∧ IsSeqF g "list" a its ∧ Rs g ds its.toList := h
theorem R.tup' {ds : List D} {v : Value} (h : R g (.tup ds) v) : ∃ a its, v = .ref a ∧ IsSeqF g "tuple" a its ∧ Rs g ds its.toList := h
theorem R.int' {i : Int} {v : Value} (h : R g (.int i) v) : ∃ t, v = .int i t := h
theorem R.str' {x : Str} {v : Value} (h : R g (.str x) v) : ∃ t, v = .str x t := h
theorem R.bool' {b : Bool} {v : Value} (h : R g (.bool b) v) : v = .bool b := h
theorem R.none' {v : Value} (h : R g .none v) : v = .none := h
theorem R.addr' {a : Addr} {v : Value} (h : R g (.addr a) v) : v = .ref a := h
theorem R.fn' {f : Value} {v : Value} (h : R g (.fn f) v) : v = f := h
theorem R.int_ {i : Int} {t : Tok} : R g (.int i) (.int i t) := (⟨t, rfl⟩ : ∃ t', Value.int i t = .int i t')
theorem R.str_ {x : Str} {t : Tok} : R g (.str x) (.str x t) := (⟨t, rfl⟩ : ∃ t', Value.str x t = .str x t')
theorem R.bool_ {b : Bool} : R g (.bool b) (.bool b) := rfl
theorem R.none_ : R g .none .none := rfl
theorem R.addr_ {a : Addr} : R g (.addr a) (.ref a) := rfl
theorem R.fn_ {f : Value} : R g (.fn f) f := rfl
theorem lst_real (S : Sat X kb av g st.hp s) {d : D} {v : Value} {xs : List D} (h : R g d v) (e : lst st.hp d = some xs) :
    ∃ a its n, v = .ref a ∧ s.heap.get? a = some { cls := .type "list", data := .seq its n } ∧ Rs g xs its.toList := by
  unfold lst at e
  split at e
  · cases e
    obtain ⟨a, its, rfl, ⟨n, h1⟩, h2⟩ := h.list'
    exact ⟨a, its, n, rfl, S.gh _ _ h1, h2⟩
  · split at e
    · rename_i q
      cases e
      obtain rfl := h.addr'
      obtain ⟨its, n, h1, h2⟩ := (S.hph _ _ q).1
      exact ⟨_, its, n, rfl, h1, h2⟩
    · cases e
  · cases e
theorem sq_real (S : Sat X kb av g st.hp s) {d : D} {v : Value} {xs : List D} (h : R g d v) (e : sq st.hp d = some xs) :
    ∃ a its n T, v = .ref a ∧ (T = "list" ∨ T = "tuple") ∧ s.heap.get? a = some { cls := .type T, data := .seq its n } ∧ Rs g xs its.toList := by
  unfold sq at e
  split at e
  · cases e
    obtain ⟨a, its, rfl, ⟨n, h1⟩, h2⟩ := h.list'
    exact ⟨a, its, n, _, rfl, .inl rfl, S.gh _ _ h1, h2⟩
  · cases e
    obtain ⟨a, its, rfl, ⟨n, h1⟩, h2⟩ := h.tup'
    exact ⟨a, its, n, _, rfl, .inr rfl, S.gh _ _ h1, h2⟩
  · split at e
    · rename_i q
      cases e
      obtain rfl := h.addr'
      obtain ⟨its, n, h1, h2⟩ := (S.hph _ _ q).1
      exact ⟨_, its, n, _, rfl, .inl rfl, h1, h2⟩
    · cases e
  · cases e
theorem PV.here (F : InF X env rw kb av g st s) {d : D} {v : Value} (h : R g d v) (hq : Q d st) : PV X env rw kb av g Q v s := ⟨g, d, st, Sub.rfl', F, h, hq⟩
theorem PV.tok (F : InF X env rw kb av g st s) {d : D} {v : Value} {t : Nat} (h : R g d v) (hq : Q d st) : PV X env rw kb av g Q v { s with toks := t } := ⟨g, d, st, Sub.rfl', F.toks t, h, hq⟩
theorem new_list (F : InF X env rw kb av g st s) {xs : List D} {its : Array Value} {k : Nat} (hs : Rs g xs its.toList) (h : New xs Q st) :
    PV X env rw kb av g Q (.ref s.heap.objs.size) { s with heap := s.heap.push { cls := .type "list", data := .seq its k } } := by
  rcases h.2 with h | h
  · obtain ⟨h1, h2⟩ := F.alloc_g (o := { cls := .type "list", data := .seq its k }) rfl
    refine ⟨_, _, st, h1, h2, ?_, h⟩
    change ∃ _, _
    exact ⟨_, its, rfl, ⟨k, by unfold updG; rw [if_pos rfl]⟩, hs.sub h1⟩
  · exact ⟨g, _, _, Sub.rfl', F.alloc_hp (mo := .list xs) ⟨its, k, Heap.get?_push_size _ rfl, hs⟩, R.addr_, h _ (F.sat.fresh_hp (get?_size _))⟩
theorem sizeLine_ge {k : Nat} (h : k ≤ 16000000) : k ≤ sizeLine := by rw [sizeLine_eq]; omega
theorem new_list' (F : InF X env rw kb av g st s) {xs : List D} {vs : List Value} (hs : Rs g xs vs) (h : New xs Q st) :
    wpAny (model X.prog X.w) A (newList vs) (PV X env rw kb av g Q) E s :=
  wpAny_newObj_type (new_list F (its := vs.toArray) (by simpa using hs) h) (by show vs.toArray.size ≤ sizeLine; rw [List.size_toArray, hs.length]; exact sizeLine_ge h.1)
theorem Rs_rep {xs : List D} {its : Array Value} (h : Rs g xs its.toList) : ∀ (k : Nat) (acc : Array Value) (ac : List D), Rs g ac acc.toList →
    Rs g (ac ++ (List.replicate k xs).flatten) (List.foldl (fun x1 x2 => x1 ++ x2) acc (List.replicate k its)).toList
  | 0, acc, ac, ha => by simpa using ha
  | k + 1, acc, ac, ha => by
    rw [List.replicate_succ (a := its), List.foldl_cons, List.replicate_succ (a := xs), List.flatten_cons, ← List.append_assoc]
    exact Rs_rep h k _ _ (by rw [Array.toList_append]; exact ha.append h)
end
mutual
theorem py_reads {g : Fz} {h : Heap} (hg : ∀ b o, g b = some o → h.get? b = some o) : ∀ {d : D} {v : Value} {p : PyData}, R g d v → py d = some p → ∃ as, Reads h v p as
  | .none, v, p, r, e => by simp only [py, Option.some.injEq] at e; subst e; rw [r.none']; exact ⟨_, .none⟩
  | .bool b, v, p, r, e => by simp only [py, Option.some.injEq] at e; subst e; rw [r.bool']; exact ⟨_, .bool b⟩
  | .int i, v, p, r, e => by simp only [py, Option.some.injEq] at e; subst e; obtain ⟨t, rfl⟩ := r.int'; exact ⟨_, .int i t⟩
  | .str x, v, p, r, e => by simp only [py, Option.some.injEq] at e; subst e; obtain ⟨t, rfl⟩ := r.str'; exact ⟨_, .str x t⟩
  | .list xs, v, p, r, e => by
    simp only [py, Option.map_eq_some_iff] at e
    obtain ⟨ps, e, rfl⟩ := e
    obtain ⟨a, its, rfl, ⟨n, h1⟩, h2⟩ := r.list'
    obtain ⟨as, h3⟩ := pys_reads hg h2 e
    exact ⟨_, .list (hg _ _ h1) rfl rfl h3⟩
  | .tup xs, v, p, r, e => by
    simp only [py, Option.map_eq_some_iff] at e
    obtain ⟨ps, e, rfl⟩ := e
    obtain ⟨a, its, rfl, ⟨n, h1⟩, h2⟩ := r.tup'
    obtain ⟨as, h3⟩ := pys_reads hg h2 e
    exact ⟨_, .tuple (hg _ _ h1) rfl rfl h3⟩
  | .inst _ _, v, p, r, e => by simp [py] at e
  | .rng _ _, v, p, r, e => by simp [py] at e
  | .addr _, v, p, r, e => by simp [py] at e
  | .fn _, v, p, r, e => by simp [py] at e
  | .scr _, v, p, r, e => by simp [py] at e
  | .dk _ _ _, v, p, r, e => by simp [py] at e
  | .exc _, v, p, r, e => by simp [py] at e
theorem pys_reads {g : Fz} {h : Heap} (hg : ∀ b o, g b = some o → h.get? b = some o) : ∀ {ds : List D} {vs : List Value} {ps : List PyData}, Rs g ds vs → pys ds = some ps → ∃ as, ReadsAll h vs ps as
  | [], vs, ps, r, e => by simp only [pys, Option.some.injEq] at e; subst e; subst r; exact ⟨_, .nil⟩
  | d :: ds, vs, ps, r, e => by
    obtain ⟨v, r', rfl, h1, h2⟩ := r
    simp only [pys] at e
    split at e
    · rename_i p ps' e1 e2
      cases e
      obtain ⟨as, h3⟩ := py_reads hg h1 e1
      obtain ⟨bs, h4⟩ := pys_reads hg h2 e2
      exact ⟨_, .cons h3 h4⟩
    · cases e
end
section
variable {X : Cx} {env : Env} {rw : Bool} {n : Nat} {A : Around} {kb : Fz} {av : Addr → Prop} {g : Fz} {st : St} {s : Shared} {E : Value → Shared → Prop} {Q : D → St → Prop}
theorem pyH_reads (S : Sat X kb av g st.hp s) {d : D} {v : Value} {p : PyData} (r : R g d v) (e : pyH st.hp d = some p) : ∃ as, Reads s.heap v p as := by
  unfold pyH at e
  split at e
  · split at e
    · rename_i xs q
      obtain ⟨ps, e', rfl⟩ := Option.map_eq_some_iff.mp e
      obtain rfl := r.addr'
      obtain ⟨its, k, h1, h2⟩ := (S.hph _ _ q).1
      obtain ⟨as, h3⟩ := pys_reads S.gh h2 e'
      exact ⟨_, .list h1 rfl rfl h3⟩
    · cases e
  · exact py_reads S.gh r e
theorem isEmpty_rs {xs : List D} {its : Array Value} (h : Rs g xs its.toList) : its.isEmpty = xs.isEmpty := by
  have hl := h.length
  simp only [Array.length_toList] at hl
  rw [Bool.eq_iff_iff, Array.isEmpty_iff_size_eq_zero, List.isEmpty_iff_length_eq_zero, hl]
theorem truth_ok {K : Bool → Shared → Prop} (F : InF X env rw kb av g st s) {d : D} {v : Value} {b : Bool} (r : R g d v) (e : truth st.hp d = some b)
    (h : ∀ t, K b { s with toks := t }) : wpAny (model X.prog X.w) A (truthy v) K E s := by
  unfold truth at e
  split at e
  · cases e; rw [r.bool']; exact wpAny_truthy_bool (h s.toks)
  · cases e; obtain ⟨t, rfl⟩ := r.int'; exact PySem.P.truthy_int (h s.toks)
  · cases e; rw [r.none']; exact truthy_none (h s.toks)
  · split at e
    · rename_i xs q
      split at e
      · rename_i hle
        cases e
        obtain rfl := r.addr'
        obtain ⟨its, k, h1, h2⟩ := (F.sat.hph _ _ q).1
        have hl := h2.length
        simp only [Array.length_toList] at hl
        refine wpAny_truthy_list ⟨_, h1, rfl, k, rfl⟩ (by rw [hl]; omega) ?_
        rw [isEmpty_rs h2]; exact h _
      · cases e
    · cases e
  · cases e
theorem isNone_is {a : D} {v : Value} (r : R g a v) : (v == Value.none) = isNone a := by
  cases a
  case none => obtain rfl := r.none'; rfl
  case bool => obtain rfl := r.bool'; rfl
  case int => obtain ⟨t, rfl⟩ := r; rfl
  case str => obtain ⟨t, rfl⟩ := r; rfl
  case list => obtain ⟨a, its, rfl, _⟩ := r; rfl
  case tup => obtain ⟨a, its, rfl, _⟩ := r; rfl
  case inst => obtain ⟨a, d, its, rfl, _⟩ := r; rfl
  case rng => obtain ⟨a, d, its, w, rfl, _⟩ := r; rfl
  case addr => obtain rfl := r.addr'; rfl
  case exc => obtain ⟨a, o, vs, rfl, _⟩ := r; rfl
  case dk x_ _ _ => obtain rfl : v = .ref x_ := r; rfl
  case fn => obtain rfl := r.fn'; rfl
  case scr => obtain ⟨a, d, its, w, rfl, _⟩ := r; rfl
end
theorem Rk.value {g : Fz} {k : Int} : ∀ {es : List (Int × D)} {kvs : List (Int × Value)}, Rk g es kvs →
    (valueAt kvs k).isSome = (es.any fun e => e.1 == k) ∧ ∀ d, lookI k es = some d → ∃ v, valueAt kvs k = some v ∧ R g d v
  | [], _, h => by
    simp only [Rk] at h; subst h
    exact ⟨rfl, fun d e => by simp [lookI] at e⟩
  | (i, d) :: es, _, h => by
    obtain ⟨v, r, rfl, h1, h2⟩ := h
    obtain ⟨i1, i2⟩ := Rk.value (k := k) h2
    by_cases hk : i = k
    · subst hk
      refine ⟨by simp [valueAt], fun d' e => ?_⟩
      simp only [lookI, if_true] at e
      cases e
      exact ⟨v, by simp [valueAt], h1⟩
    · have e0 : valueAt ((i, v) :: r) k = valueAt r k := by simp [valueAt, hk]
      rw [e0]
      refine ⟨by simp [hk, i1], fun d' e => ?_⟩
      simp only [lookI, if_neg hk] at e
      exact i2 d' e
section
variable {X : Cx} {env : Env} {rw : Bool} {n : Nat} {A : Around} {kb : Fz} {av : Addr → Prop} {g : Fz} {st : St} {s : Shared} {E : Value → Shared → Prop} {Q : D → St → Prop}
theorem Sat.size_sys (ok : X.Ok) {hp : Hp} (S : Sat X kb av g hp s) : (s.heap.objs.size == sysModules) = false := by
  obtain ⟨a, o, h1, h2⟩ := ok.sysm
  have := Heap.lt_size (S.topk _ _ h2)
  exact beq_eq_false_iff_ne.mpr (Nat.ne_of_gt (Nat.lt_trans h1 this))
theorem not_sys (S : Sat X kb av g st.hp s) {a : Addr} {es : List (Int × D)} (h : st.hp a = some (.dict es)) : (a == sysModules) = false := (S.hph _ _ h).1.1
theorem dct_real (S : Sat X kb av g st.hp s) {d : D} {v : Value} {es : List (Int × D)} (r : R g d v) (e : dct st.hp d = some es) :
    ∃ a kvs, v = .ref a ∧ d = .addr a ∧ st.hp a = some (.dict es) ∧ s.heap.DictOf (intKind X.prog X.w) a kvs ∧ Rk g es kvs := by
  unfold dct at e
  split at e
  · split at e
    · rename_i q
      cases e
      obtain rfl := r.addr'
      obtain ⟨hs, kvs, h1, h2⟩ := (S.hph _ _ q).1
      exact ⟨_, kvs, rfl, rfl, q, h1, h2⟩
    · cases e
  · cases e
theorem room_units {k : Nat} (hr : Rm X env rw kb av A n) (h : k ≤ 30) : A.units + k < cLine := Nat.lt_of_le_of_lt (Nat.le_trans (Nat.add_le_add_left (Nat.le_trans h (by decide : 30 ≤ 40)) _) (Nat.add_le_add_right (Nat.le_add_right _ _) 40)) hr.un
theorem small_list {ps : List PyData} (h : small (.list ps)) : PyData.canLayAll0 ps = true ∧ PyData.depthAll ps ≤ 20 := by
  obtain ⟨h1, h2⟩ := h
  refine ⟨by simpa only [PyData.canLay0] using h1, ?_⟩
  simp only [PyData.depth] at h2
  omega
theorem idx_seq {n : Nat} {k : Int} {j : Nat} (h : idx n k = some j) : seqIndex? k n = some j := by
  unfold idx at h
  unfold seqIndex?
  split at h
  · rename_i q
    cases h
    simp only [if_neg (show ¬ k < 0 by omega)]
    rw [if_pos (by simp; omega)]
  · split at h
    · rename_i q
      cases h
      simp only [if_pos q.1]
      rw [if_pos (by simp; omega)]
    · cases h
theorem idx_cases {n : Nat} {k : Int} {j : Nat} (h : idx n k = some j) : (0 ≤ k ∧ k < n ∧ j = k.toNat) ∨ (k < 0 ∧ -(n : Int) ≤ k ∧ j = (k + n).toNat) := by
  unfold idx at h
  split at h
  · rename_i q; cases h; exact .inl ⟨q.1, q.2, rfl⟩
  · split at h
    · rename_i q; cases h; exact .inr ⟨q.1, q.2, rfl⟩
    · cases h
def kindE : Expr → Nat
  | .ListComp .. => 1
  | .Tuple .. => 2
  | .Slice .. => 3
  | .Name .. => 4
  | .Subscript .. => 4
  | .Attribute .. => 4
  | .Constant .. => 4
  | _ => 0
def isSlice (e : Expr) : Bool := kindE e == 3
theorem subscripted_of {e : Expr} (h : isSlice e = false) (o i : Value) : subscripted e false o i = operate [o, i] (getItem o i) := by
  cases e <;> first | rfl | exact Bool.noConfusion (h : true = false)
theorem Rs.drop' : ∀ (k : Nat) {ds : List D} {vs : List Value}, Rs g ds vs → Rs g (ds.drop k) (vs.drop k)
  | 0, _, _, h => h
  | k + 1, [], _, h => by subst h; simpa using Rs.nil
  | k + 1, d :: ds, _, h => by
    obtain ⟨v, r, rfl, h1, h2⟩ := h
    simpa using Rs.drop' k h2
theorem Rs.take' : ∀ (k : Nat) {ds : List D} {vs : List Value}, Rs g ds vs → Rs g (ds.take k) (vs.take k)
  | 0, _, _, h => by simpa using Rs.nil
  | k + 1, [], _, h => by subst h; simpa using Rs.nil
  | k + 1, d :: ds, _, h => by
    obtain ⟨v, r, rfl, h1, h2⟩ := h
    simpa using Rs.cons h1 (Rs.take' k h2)
theorem bound_part {d : D} {v : Value} {k : Option Int} (r : R g d v) (e : bound d = some k) : IsPart v k := by
  unfold bound at e
  split at e
  · cases e; rw [r.none']; exact .none
  · split at e
    · cases e; obtain ⟨t, rfl⟩ := r.int'; exact .int _ t
    · cases e
  · cases e
theorem new_list_at (F : InF X env rw kb av g st s) {s' : Shared} {a : Addr} {xs : List D} {its : Array Value} {k : Nat} (hk : ∀ b o, s.heap.get? b = some o → s'.heap.get? b = some o)
    (ha : s.heap.get? a = none) (ho : s'.heap.get? a = some { cls := .type "list", data := .seq its k }) (hs : Rs g xs its.toList) (h : New xs Q st)
    (h1 : s'.gens = s.gens := by rfl) (h2 : s'.os = s.os := by rfl) (h3 : s'.drawn = s.drawn := by rfl) : PV X env rw kb av g Q (.ref a) s' := by
  rcases h.2 with h | h
  · obtain ⟨q1, q2⟩ := F.fresh_g hk ha ho h1 h2 h3
    refine ⟨_, _, st, q1, q2, ?_, h⟩
    change ∃ _, _
    exact ⟨_, its, rfl, ⟨k, by unfold updG; rw [if_pos rfl]⟩, hs.sub q1⟩
  · exact ⟨g, _, _, Sub.rfl', F.fresh_hp (mo := .list xs) hk ha ⟨its, k, ho, hs⟩ h1 h2 h3, R.addr_, h _ (F.sat.fresh_hp ha)⟩
theorem intsOf_real {g : Fz} : ∀ {xs : List D} {is : List Int} {vs : List Value}, intsOf xs = some is → Rs g xs vs → numsOf vs = is ∧ (∀ v ∈ vs, ∃ a t, v = .int a t) ∧ xs = is.map D.int
  | [], is, vs, e, r => by
    simp only [intsOf, Option.some.injEq] at e; subst e
    subst r
    exact ⟨rfl, by simp, rfl⟩
  | .int i :: xs, is, vs, e, r => by
    simp only [intsOf, Option.map_eq_some_iff] at e
    obtain ⟨js, e, rfl⟩ := e
    obtain ⟨v, r', rfl, h1, h2⟩ := r
    obtain ⟨t, rfl⟩ := h1.int'
    obtain ⟨q1, q2, q3⟩ := intsOf_real e h2
    refine ⟨by simp [numsOf, q1], fun v hv => ?_, by simp [q3]⟩
    rcases List.mem_cons.mp hv with rfl | hv
    · exact ⟨i, t, rfl⟩
    · exact q2 v hv
  | .none :: _, _, _, e, _ | .bool _ :: _, _, _, e, _ | .str _ :: _, _, _, e, _ | .list _ :: _, _, _, e, _ | .tup _ :: _, _, _, e, _ | .inst _ _ :: _, _, _, e, _ | .rng _ _ :: _, _, _, e, _ | .addr _ :: _, _, _, e, _ | .fn _ :: _, _, _, e, _ => by simp [intsOf] at e
theorem max_ok [Hn X] (F : InF X env rw kb av g st s) (hr : Rm X env rw kb av A n) {d : D} {v : Value} {xs : List D} {is : List Int} (r : R g d v) (e : lst st.hp d = some xs) (ei : intsOf xs = some is) (hne : is ≠ [])
    (h : ∀ M, M ∈ is → (∀ a ∈ is, a ≤ M) → Q (.int M) st) : wpAny (model X.prog X.w) A (call (.builtin "max") [v]) (PV X env rw kb av g Q) E s := by
  obtain ⟨c, its, m, rfl, hc, hrs⟩ := lst_real F.sat r e
  obtain ⟨q1, q2, q3⟩ := intsOf_real ei hrs
  obtain ⟨ys, rfl⟩ := AllInts.items (vs := its) (fun v hv => q2 v (Array.mem_toList_iff.mpr hv))
  rw [nums_intItems] at q1
  have hsz : 0 < ys.size := by
    rw [Nat.pos_iff_ne_zero]
    intro q
    apply hne
    rw [← q1]
    have : ys.toList = [] := by rw [← List.length_eq_zero_iff]; simpa using q
    rw [this]; rfl
  refine max_intList (hr.hd Hn.h) ⟨_, hc, rfl, m, rfl⟩ hsz fun v h' tk hv hk => ?_
  obtain ⟨t, rfl⟩ := intItems_at hv
  obtain ⟨h1, h2⟩ := argBest_gt (numAt ys) (ys.size - 1)
  refine PV.here (F.keeps (s' := { s with heap := h', toks := tk }) hk) R.int_ (h _ ?_ fun a ha => ?_)
  · rw [← q1, numAt_eq]; exact getD_mem (by rw [List.length_map, Array.length_toList]; omega)
  · rw [← q1] at ha
    obtain ⟨j, hj, rfl⟩ := mem_getD ha
    rw [List.length_map, Array.length_toList] at hj
    rw [← numAt_eq]; exact h2 j (by omega)
theorem range1_ok (F : InF X env rw kb av g st s) {i : Int} {u : Value} (ri : R g (.int i) u) (h : Q (.rng 0 i) st) :
    wpAny (model X.prog X.w) A (call (.type "range") [u]) (PV X env rw kb av g Q) E s := by
  obtain ⟨t, rfl⟩ := ri.int'
  refine call_range_1 ?_
  obtain ⟨q1, q2⟩ := F.alloc_g (o := { cls := .type "range", data := .fields #[.int 0 s.toks, .int i t, .int 1 (s.toks + 1)] }) rfl
  refine ⟨_, _, st, q1, q2.toks _, ?_, h⟩
  change ∃ _, _
  exact ⟨_, _, _, _, rfl, by unfold updG; rw [if_pos rfl]⟩
theorem list_ok (F : InF X env rw kb av g st s) {d : D} {v : Value} {xs : List D} (r : R g d v) (e : lst st.hp d = some xs) (h : New xs Q st) :
    wpAny (model X.prog X.w) A (call (.type "list") [v]) (PV X env rw kb av g Q) E s := by
  obtain ⟨c, its, m, rfl, hc, hrs⟩ := lst_real F.sat r e
  have hl := hrs.length
  simp only [Array.length_toList] at hl
  exact call_list_seq c (.inl rfl) hc rfl rfl (fun h' c' hk hD => new_list_at F (s' := { s with heap := h' }) hk (get?_size _) hD hrs h) (sizeLine_ge (by have := h.1; omega))
theorem small_rng {a b : Int} (h1 : -2000000 < a) (h2 : a < 2000000) (h3 : -2000000 < b) (h4 : b < 2000000) : Builtin.Range.small a b 1 = true := by
  unfold Builtin.Range.small Builtin.Range.rangeFitsLong
  rw [rangeSize_one]
  split <;> simp <;> omega
end
theorem Rf_get {g : Fz} {name : Str} : ∀ {fs : List (Str × D)} {es : List DictEntry}, Rf g fs es →
    (∀ d, lookS name fs = some d → ∃ v, getL name es = some (some v) ∧ R g d v) ∧ (lookS name fs = none → getL name es = some none)
  | [], es, h => by
    subst h
    exact ⟨fun d e => by simp [lookS] at e, fun _ => rfl⟩
  | (k, d) :: fs, es, h => by
    obtain ⟨hk, t, v, r, rfl, h1, h2⟩ := h
    obtain ⟨i1, i2⟩ := Rf_get (name := name) h2
    by_cases e : k = name
    · subst e
      refine ⟨fun d' e' => ?_, fun e' => by simp [lookS] at e'⟩
      simp only [lookS, if_true] at e'
      cases e'
      exact ⟨v, by simp [getL, Value.isStr], h1⟩
    · have hf : (Value.str k t).isStr name = false := by simp [Value.isStr, e]
      have e0 : getL name (⟨hk, .str k t, v⟩ :: r) = getL name r := by
        simp [getL, hf, DictEntry.refKey]
      rw [e0]
      simp only [lookS, if_neg e]
      exact ⟨i1, i2⟩
theorem handed_R {g : Fz} {d : D} {v : Value} (r : R g d v) (h : plainD d = true) : handedIn v = true := by
  cases d
  case none => obtain rfl := r.none'; rfl
  case bool => obtain rfl := r.bool'; rfl
  case int => obtain ⟨t, rfl⟩ := r; rfl
  case str => obtain ⟨t, rfl⟩ := r; rfl
  case list => obtain ⟨a, its, rfl, _⟩ := r; rfl
  case tup => obtain ⟨a, its, rfl, _⟩ := r; rfl
  case inst => obtain ⟨a, d, its, rfl, _⟩ := r; rfl
  case rng => obtain ⟨a, d, its, w, rfl, _⟩ := r; rfl
  case addr => obtain rfl := r.addr'; rfl
  case exc => obtain ⟨a, o, vs, rfl, _⟩ := r; rfl
  case dk x_ _ _ => obtain rfl : v = .ref x_ := r; rfl
  case fn => simp [plainD] at h
  case scr => obtain ⟨a, d, its, w, rfl, _⟩ := r; rfl
section
variable {X : Cx} {env : Env} {rw : Bool} {n : Nat} {A : Around} {kb : Fz} {av : Addr → Prop} {g : Fz} {st : St} {s : Shared} {E : Value → Shared → Prop} {Q : D → St → Prop}
theorem Sat.kin (ok : X.Ok) {hp : Hp} (S : Sat X kb av g hp s) : X.K.In s.heap := ok.Kin.keeps S.topk
theorem inst_real (S : Sat X kb av g st.hp s) {a : D} {v : Value} {C : Addr} {fs : List (Str × D)} (r : R g a v)
    (h : a = .inst C fs ∨ ∃ p d, a = .addr p ∧ st.hp p = some (.inst C d) ∧ st.hp d = some (.ns fs)) :
    ∃ x dx es k, v = .ref x ∧ InstAt s.heap x { cls := .ref C, dict := some dx, data := .plain } C (some (dictOf es k)) ∧ Rf g fs es := by
  rcases h with rfl | ⟨p, d, rfl, h1, h2⟩
  · obtain ⟨x, d, ents, rfl, h1, ⟨k, h2⟩, h3⟩ := r
    exact ⟨x, d, ents.toList, k, rfl, ⟨S.gh _ _ h1, rfl, rfl, by show _ = some (dictOf _ _); rw [S.gh _ _ h2]⟩, h3⟩
  · obtain rfl := r.addr'
    have q1 := (S.hph _ _ h1).1
    obtain ⟨ents, k, q2, q3⟩ := (S.hph _ _ h2).1
    exact ⟨p, d, ents.toList, k, rfl, ⟨q1, rfl, rfl, by show _ = some (dictOf _ _); rw [q2]⟩, q3⟩
theorem fs_call [Nc X] (F : InF X env rw kb av g st s) (hr : Rm X env rw kb av A n) {f : Addr} {ds : List D} {vs : List Value} (rs : Rs g ds vs) (h : FS X n f ds st.hp fun d hp => Q d ⟨st.loc, hp⟩) :
    wpAny (model X.prog X.w) A (call (.ref f) vs) (PV X env rw kb av g Q) (EXF X env A kb) s := by
  let kb₁ : Fz := fun b => if (st.hp b).isSome then none else X.get s.heap b
  let av₁ : Addr → Prop := fun b => av b ∨ Own env b
  have up : ∀ b o, kb b = some o → kb₁ b = some o := fun b o e => by
    show (if (st.hp b).isSome then none else X.get s.heap b) = some o
    have : st.hp b = none := by
      cases q : st.hp b with
      | none => rfl
      | some mo => rw [(F.sat.hph _ _ q).2.1] at e; cases e
    rw [this]
    exact F.sat.kbh b o e
  have upo : ∀ b, Own env b → ∀ o, s.heap.get? b = some o → kb₁ b = some o := fun b hb o e => by
    show (if (st.hp b).isSome then none else X.get s.heap b) = some o
    rw [F.own_hp hb]; show X.get s.heap b = some o; rw [get_not (F.own_fz hb)]; exact e
  have S₁ : Sat X kb₁ av₁ g st.hp s := {
    gens := F.sat.gens, os := F.sat.os, drawn := F.sat.drawn
    top := fun b o e => up b o (F.sat.top b o e)
    kbh := fun b o e => by
      have e' : (if (st.hp b).isSome then none else X.get s.heap b) = some o := e
      split at e'
      · cases e'
      · exact e'
    gh := F.sat.gh
    avk := fun b hb => by
      rcases hb with hb | hb
      · obtain ⟨o, ho⟩ := Option.isSome_iff_exists.mp (F.sat.avk b hb)
        rw [up b o ho]; rfl
      · obtain ⟨o, ho⟩ := F.own_some hb
        rw [upo b hb o ho]; rfl
    gav := fun b hb => hb.elim (F.sat.gav b) F.own_g
    hph := fun a mo e => by
      obtain ⟨h1, h2, h3⟩ := F.sat.hph a mo e
      refine ⟨h1, ?_, h3⟩
      show (if (st.hp a).isSome then none else X.get s.heap a) = none
      rw [e]; rfl
    fza := fun b hb => .inl (F.sat.fza b hb)
    fzT := F.sat.fzT }
  have hrC : RmC X kb₁ av₁ A n := by
    obtain ⟨f, l, L, h1, h2, h3, h4, h5, h6⟩ := hr.fr
    refine ⟨hr.toRoom, hr.hd, fun q1 q2 => (hr.hk q1 q2).mono up, f :: l, h1, fun f' hf' => ?_⟩
    rcases List.mem_cons.mp hf' with e | e
    · subst e
      refine ⟨h2, L, h3, ?_, fun q => by rw [Nc.h] at q; cases q⟩
      rcases h5 with ⟨_, h5⟩ | ⟨_, h5⟩
      · obtain ⟨m, ⟨o, es, ep, ho, hd, _⟩, _⟩ := F.ns
        subst h5
        exact ⟨⟨o, upo _ (.inl rfl) o ho, fun vs q => by rw [hd] at q; cases q⟩, .inr (.inl rfl)⟩
      · exact h5.mono up fun b hb => .inl hb
    · exact (h6 f' e).mono up fun b hb => .inl hb
  have out : ∀ {v : Value} {s' : Shared}, EX X A kb₁ v s' → (∃ m, s'.heap.Ns env.locals m) ∧ CellsOk env s'.heap := fun {v s'} ⟨e, C, tr, l, _, _, _, z⟩ => by
    refine ⟨?_, fun x c h1 h2 => ?_⟩
    · obtain ⟨m, ⟨o, es, ep, ho, hd, r⟩, _⟩ := F.ns
      obtain ⟨sl, q, _⟩ := z.kbh _ o (upo _ (.inl rfl) o ho)
      exact ⟨m, _, es, ep, q, hd, r⟩
    · obtain ⟨vo, ⟨o, ho, hd⟩, _⟩ := F.cell x c h1 h2
      obtain ⟨sl, q, _⟩ := z.kbh _ o (upo _ (.inr ⟨x, h1, h2⟩) o ho)
      exact ⟨vo, _, q, hd⟩
  refine wpAny_call (codeAny_mono (h.2 A kb₁ av₁ g s vs hrC S₁ rs) fun r s' z => ?_)
  rcases r with e | (_ | _ | _ | v) <;> first | exact ⟨EX.mono z up, out z⟩ | exact z.elim | skip
  obtain ⟨g', d, hp', h1, S', h3, h4⟩ := z
  refine ⟨g', d, ⟨st.loc, hp'⟩, h1, ?_, h3, h4⟩
  have S : Sat X kb av g' hp' s' := {
    gens := S'.gens, os := S'.os, drawn := S'.drawn
    top := F.sat.top
    kbh := fun b o e => S'.kbh b o (up b o e)
    gh := S'.gh
    avk := F.sat.avk
    gav := fun b hb => S'.gav b (.inl hb)
    hph := fun a mo e => by
      obtain ⟨q1, q2, q3⟩ := S'.hph a mo e
      refine ⟨q1, ?_, q3⟩
      cases q : kb a with
      | none => rfl
      | some o => rw [up a o q] at q2; cases q2
    fza := F.sat.fza
    fzT := F.sat.fzT }
  refine F.next S h1 (fun b hb o e => by have := S'.kbh b o (upo b hb o e); rwa [get_not (F.own_fz hb)] at this) (fun b hb => S'.gav b (.inr hb)) fun b hb => ?_
  cases q : hp' b with
  | none => rfl
  | some mo =>
    obtain ⟨o, ho⟩ := F.own_some hb
    have := (S'.hph b mo q).2.1
    rw [upo b hb o ho] at this; cases this
end
end Mine

namespace Mine
open PySem PySem.W PyProof.Rows PySem.Spec
abbrev Names := List (Str × NameKind)
def relab (names : Names) (scope : Scope) : Names :=
  scope.names.map fun (n, k) => if k == .free && names.lookup n == some .cell then (n, .cell) else (n, k)
def okName (G : Str → Bool) (names : Names) (x : Str) : Bool :=
  !(x == ("__debug__" : Str)) && (if G x then names.lookup x == some .globalImplicit else (names.lookup x == some .local || names.lookup x == some .cell))
def okBase (e : Expr) : Bool := kindE e == 4
def okScope (names : Names) (scope : Scope) (x : Str) : Bool :=
  scope.kind == .function && (scope.names.all fun y => y.2 != .cell) && (scope.names.lookup x == some .local) && (scope.names.all fun y => y.2 != .local || scope.names.lookup y.1 == some .local) &&
  (scope.names.all fun y => y.2 != .free || names.lookup y.1 == some .cell) && (scope.names.all fun y => y.2 != .local || (y.1 == x || y.1 == (".0" : Str)))
mutual
def okE (G : Str → Bool) (names : Names) : Expr → Bool
  | .Constant _ _ _ => true
  | .Name x _ => okName G names x
  | .BoolOp _ es _ => okEs G names es
  | .BinOp l _ r _ => okE G names l && okE G names r
  | .UnaryOp _ e _ => okE G names e
  | .Compare l _ cs _ => okE G names l && okEs G names cs
  | .Call f args ks pos => ks.isEmpty && okEs G names args && decide (args.length < 29) && okF G names pos f
  | .Attribute e _ _ => okE G names e && okBase e
  | .Subscript e i _ => okE G names e && okI G names i
  | .List es _ => okEs G names es
  | .Tuple es _ _ => okEs G names es
  | .Dict ks vs _ => ks.isEmpty && vs.isEmpty
  | .ListComp elt gens scope _ => okGs G names scope gens && okE G (relab names scope) elt
  | _ => false
def okF (G : Str → Bool) (names : Names) (pos : Pos) : Expr → Bool
  | .Attribute o name apos => okE G names o && okBase o && apos.endLine == pos.line
  | .Name x _ => okName G names x
  | _ => false
def okI (G : Str → Bool) (names : Names) : Expr → Bool
  | .Slice l u s _ => okO G names l && okO G names u && s.isNone
  | .Name x _ => okName G names x
  | .Constant _ _ _ => true
  | .BinOp l _ r _ => okE G names l && okE G names r
  | .UnaryOp _ e _ => okE G names e
  | .Subscript e i _ => okE G names e && okI G names i
  | .Call f args ks pos => ks.isEmpty && okEs G names args && decide (args.length < 29) && okF G names pos f
  | _ => false
def okO (G : Str → Bool) (names : Names) : Option Expr → Bool
  | none => true
  | some e => okE G names e
def okEs (G : Str → Bool) (names : Names) : List Expr → Bool
  | [] => true
  | e :: es => okE G names e && okEs G names es
def okGs (G : Str → Bool) (names : Names) (scope : Scope) : List Comprehension → Bool
  | [g] => okG G names scope g
  | _ => false
def okG (G : Str → Bool) (names : Names) (scope : Scope) : Comprehension → Bool
  | ⟨t, iter, ifs, a⟩ => (match t with | .Name x _ => okScope names scope x && !G x | _ => false) && okE G names iter && okEs G (relab names scope) ifs && a == 0
end
abbrev Cx.isG (X : Cx) : Str → Bool := fun x => (X.G x).isSome
abbrev W (X : Cx) (env : Env) (A : Around) (kb : Fz) {α : Type} (t : Sem α) (P : α → Shared → Prop) (s : Shared) : Prop := wpAny (model X.prog X.w) A t P (EXF X env A kb) s

def Snd (X : Cx) (env : Env) (rw : Bool) (n : Nat) (t : Sem Value) (Q : D → St → Prop) (st : St) : Prop :=
  ∀ A kb av g s, Rm X env rw kb av A n → InF X env rw kb av g st s → W X env A kb t (PV X env rw kb av g Q) s
inductive PB (X : Cx) (env : Env) (rw : Bool) (kb : Fz) (av : Addr → Prop) (g : Fz) (K : Bool → St → Prop) (b : Bool) (s' : Shared) : Prop
  | mk (g' : Fz) (st' : St) (h : Sub g g') (F : InF X env rw kb av g' st' s') (q : K b st') : PB X env rw kb av g K b s'
def SndB (X : Cx) (env : Env) (rw : Bool) (n : Nat) (t : Sem Bool) (K : Bool → St → Prop) (st : St) : Prop :=
  ∀ A kb av g s, Rm X env rw kb av A n → InF X env rw kb av g st s → W X env A kb t (PB X env rw kb av g K) s
inductive PL (X : Cx) (env : Env) (rw : Bool) (kb : Fz) (av : Addr → Prop) (g : Fz) (Q : List D → St → Prop) (vs : List Value) (s' : Shared) : Prop
  | mk (g' : Fz) (ds : List D) (st' : St) (h : Sub g g') (F : InF X env rw kb av g' st' s') (r : Rs g' ds vs) (q : Q ds st') : PL X env rw kb av g Q vs s'
def SndL (X : Cx) (env : Env) (rw : Bool) (n : Nat) (t : Sem (List Value)) (Q : List D → St → Prop) (st : St) : Prop :=
  ∀ A kb av g s, Rm X env rw kb av A n → InF X env rw kb av g st s → W X env A kb t (PL X env rw kb av g Q) s

/-! ## what is asked of a part of the text -/
def wpE (X : Cx) (n : Nat) (e : Expr) (Q : D → St → Prop) (st : St) : Prop := ∀ env rw, okE X.isG env.scope.names e = true → Snd X env rw n (eval e env) Q st
def wpEs (X : Cx) (n : Nat) (es : List Expr) (Q : List D → St → Prop) (st : St) : Prop := (es = [] → Q [] st) ∧ ∀ env rw pos, okEs X.isG env.scope.names es = true → SndL X env rw n (spliced (backTo pos (starEach es env))) Q st
def wpBoolV (X : Cx) (n : Nat) (op : BoolOp) (es : List Expr) (Q : D → St → Prop) (st : St) : Prop := ∀ env rw pos, okEs X.isG env.scope.names es = true → Snd X env rw n (boolOp pos op (evalEach es env)) Q st
def wpCV (X : Cx) (n : Nat) (a : D) (ops : List CmpOp) (cs : List Expr) (K : Bool → St → Prop) (st : St) : Prop := ∀ env rw pos, okEs X.isG env.scope.names cs = true → ∀ A kb av g s v, Rm X env rw kb av A n → InF X env rw kb av g st s → R g a v →
  W X env A kb (compareChain pos v ops (evalEach cs env)) (fun u s' => ∃ b, u = .bool b ∧ PB X env rw kb av g K b s') s
def wpCT (X : Cx) (n : Nat) (a : D) (ops : List CmpOp) (cs : List Expr) (K : Bool → St → Prop) (st : St) : Prop := ∀ env rw pos, okEs X.isG env.scope.names cs = true → ∀ A kb av g s v, Rm X env rw kb av A n → InF X env rw kb av g st s → R g a v →
  W X env A kb (testChain pos v ops (evalEach cs env)) (PB X env rw kb av g K) s
def wpT (X : Cx) (n : Nat) (e : Expr) (K : Bool → St → Prop) (st : St) : Prop := ∀ env rw, okE X.isG env.scope.names e = true → SndB X env rw n (isTrue e env (eval e env)) K st
def wpTs (X : Cx) (n : Nat) (op : BoolOp) (es : List Expr) (K : Bool → St → Prop) (st : St) : Prop := ∀ env rw, okEs X.isG env.scope.names es = true → SndB X env rw n (allTrue op es env) K st
def wpOpt (X : Cx) (n : Nat) (o : Option Expr) (Q : D → St → Prop) (st : St) : Prop := ∀ env rw, okO X.isG env.scope.names o = true → Snd X env rw n (valueOrNone (evalOpt o env)) Q st

/-! ## what is asked of an operation -/
def wpBin (X : Cx) (n : Nat) (op : Operator) (a b : D) (Q : D → St → Prop) (st : St) : Prop := ∀ env rw A kb av g s v u, Rm X env rw kb av A n → InF X env rw kb av g st s → R g a v → R g b u → W X env A kb (binaryOp op v u) (PV X env rw kb av g Q) s
def wpUn (X : Cx) (n : Nat) (op : UnaryOp) (a : D) (Q : D → St → Prop) (st : St) : Prop := ∀ env rw A kb av g s v, Rm X env rw kb av A n → InF X env rw kb av g st s → R g a v → W X env A kb (unaryOp op v) (PV X env rw kb av g Q) s
def wpC1 (X : Cx) (n : Nat) (op : CmpOp) (a b : D) (K : Bool → Prop) (st : St) : Prop := ∀ env rw A kb av g s v u (Q' : Value → Shared → Prop), Rm X env rw kb av A n → InF X env rw kb av g st s → R g a v → R g b u → (∀ r t, K r → Q' (.bool r) { s with toks := t }) → W X env A kb (compareOp op v u) Q' s
def wpItem (X : Cx) (n : Nat) (a k : D) (Q : D → St → Prop) (st : St) : Prop := ∀ env rw A kb av g s v u value slice, Rm X env rw kb av A n → InF X env rw kb av g st s → R g a v → R g k u → isSlice slice = false → W X env A kb (subscriptTail value slice v u) (PV X env rw kb av g Q) s
def wpAttr (X : Cx) (n : Nat) (a : D) (name : Str) (Q : D → St → Prop) (st : St) : Prop := ∀ env rw A kb av g s v, Rm X env rw kb av A n → InF X env rw kb av g st s → R g a v → W X env A kb (getAttr v name true) (PV X env rw kb av g Q) s
def Keep (X : Cx) (f : D) : Prop := (∃ id, f = .fn (.builtin id)) ∨ (∃ T, f = .fn (.type T)) ∨ ∃ a, f = .fn (.ref a) ∧ keepIn X.K (.ref a) = true
def CV (X : Cx) (n : Nat) (f : D) (ds : List D) (Q : D → St → Prop) (st : St) : Prop := Keep X f ∧ ∀ env rw A kb av g s fv vs, Rm X env rw kb av A n → InF X env rw kb av g st s → R g f fv → Rs g ds vs → W X env A kb (call fv vs) (PV X env rw kb av g Q) s
def Meth (X : Cx) (ov : D) (name : Str) (f : D) (st : St) : Prop := ∀ env rw A kb av g s v pl (Q' : Value × List Value → Shared → Prop), InF X env rw kb av g st s → R g ov v → (∀ fv, R g f fv → Q' (fv, [v]) s) → W X env A kb (getMethod v name pl) Q' s

section
variable {X : Cx} {env : Env} {rw : Bool} {n : Nat} {A : Around} {kb : Fz} {av : Addr → Prop} {g g' : Fz} {st : St} {s : Shared} {Q Q₁ : D → St → Prop}
theorem and2 {a b : Bool} (h : (a && b) = true) : a = true ∧ b = true := (Bool.and_eq_true a b).mp h
theorem PV.up (h : Sub g g') {v : Value} {s : Shared} (p : PV X env rw kb av g' Q v s) : PV X env rw kb av g Q v s :=
  let ⟨g2, d, st', h1, h2, h3, h4⟩ := p; ⟨g2, d, st', h.trans h1, h2, h3, h4⟩
theorem PB.up (h : Sub g g') {K : Bool → St → Prop} {b : Bool} {s : Shared} (p : PB X env rw kb av g' K b s) : PB X env rw kb av g K b s :=
  let ⟨g2, st', h1, h2, h3⟩ := p; ⟨g2, st', h.trans h1, h2, h3⟩
theorem W.up (h : Sub g g') {t : Sem Value} (w : W X env A kb t (PV X env rw kb av g' Q) s) : W X env A kb t (PV X env rw kb av g Q) s := wpAny_mono w (fun _ _ p => p.up h) fun _ _ x => x
theorem Snd.use {t : Sem Value} {P : Value → Shared → Prop} (h : Snd X env rw n t Q₁ st) (hr : Rm X env rw kb av A n) (F : InF X env rw kb av g st s) (k : ∀ v s₁ g₁ d st₁, Sub g g₁ → InF X env rw kb av g₁ st₁ s₁ → R g₁ d v → Q₁ d st₁ → P v s₁) : W X env A kb t P s :=
  wpAny_mono (h A kb av g s hr F) (fun v s₁ ⟨g₁, d, st₁, h1, F₁, h3, h4⟩ => k v s₁ g₁ d st₁ h1 F₁ h3 h4) fun _ _ x => x
theorem none_sub {g : Fz} : Sub none' g := fun _ _ e => by cases e

/-! ## names and constants -/
theorem e_loc {loc : Str → Option D} {hp : Hp} {x : Str} {p : Pos} {d : D} (hl : loc x = some d) (h : Q d ⟨loc, hp⟩) : wpE X n (.Name x p) Q ⟨loc, hp⟩ := fun env rw hx A kb av g s hr F => by
  have hg := F.lg x d hl
  have hx : okName X.isG env.scope.names x = true := hx
  simp only [okName, Cx.isG, hg, Option.isSome_none, Bool.false_eq_true, if_false, Bool.and_eq_true, Bool.not_eq_true', Bool.or_eq_true, beq_iff_eq] at hx
  obtain ⟨hd, hx⟩ := hx
  refine wpAny_Name ?_ hd
  rcases hx with hx | hx
  · obtain ⟨m, hn, hm⟩ := F.ns
    obtain ⟨v, h1, h2⟩ := hm x d hx hl
    exact wpAny_loadName_local F.ok.kind hx hn h1 (PV.here F h2 h)
  · obtain ⟨c, hc⟩ := F.ok.cel x hx
    obtain ⟨vo, h1, h2, _⟩ := F.cell x c hx hc
    obtain ⟨v, rfl, h3⟩ := h2 d hl
    exact wpAny_loadName_cell F.ok.kind hx hc h1 (PV.here F h3 h)
theorem e_glob (ok : X.Ok) {x : Str} {p : Pos} {d : D} (hg : X.G x = some d) (h : Q d st) : wpE X n (.Name x p) Q st := fun env rw hx A kb av g s hr F => by
  have hx : okName X.isG env.scope.names x = true := hx
  simp only [okName, Cx.isG, hg, Option.isSome_some, if_true, Bool.and_eq_true, Bool.not_eq_true', beq_iff_eq] at hx
  obtain ⟨hd, hx⟩ := hx
  obtain ⟨v, r, hv⟩ := ok.glob x d hg
  refine Calls.Name_function_global F.ok.kind hx ?_ hd
  have pv : PV X env rw kb av g Q v s := PV.here F (r.sub none_sub) h
  rcases hv with ⟨mg, h1, h2⟩ | ⟨mg, mb, h1, h2, h3, h4⟩
  · exact Calls.loadGlobal_global (by rw [F.ok.globals]; exact h1.keeps F.sat.topk) h2 pv
  · exact Calls.loadGlobal_builtin (by rw [F.ok.globals]; exact h1.keeps F.sat.topk) h2 (by rw [F.ok.builtins]; exact h3.keeps F.sat.topk) h4 pv
theorem e_int {i : Int} {k : Nat} {p : Pos} (h : Q (.int i) st) : wpE X n (.Constant (.int i) k p) Q st := fun _ _ _ _ _ _ _ _ _ F => wpAny_mkInt (PV.tok F R.int_ h)
theorem e_none {k : Nat} {p : Pos} (h : Q .none st) : wpE X n (.Constant .none k p) Q st := fun _ _ _ _ _ _ _ _ _ F => wpAny_pure (PV.here F R.none_ h)
theorem e_bool {b : Bool} {k : Nat} {p : Pos} (h : Q (.bool b) st) : wpE X n (.Constant (.bool b) k p) Q st := fun _ _ _ _ _ _ _ _ _ F => wpAny_pure (PV.here F R.bool_ h)
theorem e_str {x : Str} {k : Nat} {p : Pos} (h : Q (.str x) st) : wpE X n (.Constant (.str x) k p) Q st := fun _ _ _ _ _ _ _ _ _ F => wpAny_mkText (PV.tok F R.str_ h)

/-! ## operators -/
abbrev kBin2 (X : Cx) (n : Nat) (op : Operator) (a : D) (Q : D → St → Prop) : D → St → Prop := fun b st => wpBin X n op a b Q st
abbrev kBin (X : Cx) (n : Nat) (r : Expr) (op : Operator) (Q : D → St → Prop) : D → St → Prop := fun a st => wpE X n r (kBin2 X n op a Q) st
theorem e_bin {l r : Expr} {op : Operator} {p : Pos} (h : wpE X n l (kBin X n r op Q) st) : wpE X n (.BinOp l op r p) Q st := fun env rw hok A kb av g s hr F => by
  obtain ⟨o1, o2⟩ := and2 hok
  exact wpAny_BinOp ((h env rw o1).use hr F fun v s₁ g₁ d st₁ h1 F₁ h3 h4 => (h4 env rw o2).use hr F₁ fun u s₂ g₂ d' st₂ k1 F₂ k3 k4 => (k4 env rw A kb av g₂ s₂ v u hr F₂ (h3.sub k1) k3).up (h1.trans k1))
abbrev kUn (X : Cx) (n : Nat) (op : UnaryOp) (Q : D → St → Prop) : D → St → Prop := fun a st => wpUn X n op a Q st
theorem e_un {e : Expr} {op : UnaryOp} {p : Pos} (h : wpE X n e (kUn X n op Q) st) : wpE X n (.UnaryOp op e p) Q st := fun env rw hok A kb av g s hr F => by
  show wpAny _ _ (do let v ← eval e env; standAt p; holding [v] (unaryOp op v)) _ _ s
  exact wpAny_bind ((h env rw hok).use hr F fun v s₁ g₁ d st₁ h1 F₁ h3 h4 => wpAny_bind (wpAny_standAt (wpAny_holding ((h4 env rw A kb av g₁ s₁ v hr F₁ h3).up h1))))
theorem u_neg {i : Int} (h : Q (.int (-i)) st) : wpUn X n .USub (.int i) Q st := fun _ _ _ _ _ _ _ _ _ F r => by obtain ⟨t, rfl⟩ := r.int'; exact PySem.P.neg_int (PV.tok F R.int_ h)
theorem u_not {d : D} {b : Bool} (ht : truth st.hp d = some b) (h : Q (.bool (!b)) st) : wpUn X n .Not d Q st := fun _ _ _ _ _ _ _ _ _ F r => not_value (truth_ok F r ht fun t => PV.tok F R.bool_ h)
theorem b_add {i j : Int} (h : Q (.int (i + j)) st) : wpBin X n .Add (.int i) (.int j) Q st := fun _ _ _ _ _ _ _ _ _ _ F h1 h2 => by
  obtain ⟨t, rfl⟩ := h1.int'; obtain ⟨t', rfl⟩ := h2.int'; exact PySem.P.add_int (PV.tok F R.int_ h)
theorem b_sub {i j : Int} (h : Q (.int (i - j)) st) : wpBin X n .Sub (.int i) (.int j) Q st := fun _ _ _ _ _ _ _ _ _ _ F h1 h2 => by
  obtain ⟨t, rfl⟩ := h1.int'; obtain ⟨t', rfl⟩ := h2.int'; exact PySem.P.sub_int (PV.tok F R.int_ h)
theorem b_mul {i j : Int} (ha : -4611686018427387904 < j) (hb : j < 4611686018427387904) (h : Q (.int (i * j)) st) : wpBin X n .Mult (.int i) (.int j) Q st := fun _ _ _ _ _ _ _ _ _ _ F h1 h2 => by
  obtain ⟨t, rfl⟩ := h1.int'; obtain ⟨t', rfl⟩ := h2.int'
  exact PySem.P.mul_int (PV.tok F R.int_ h) (IntMulOk.of_right (intBits_le_64 (Int.lt_trans (by decide) ha) (Int.lt_trans hb (by decide))))
theorem b_fdiv {i j : Int} (ha : 0 < j) (hb : j < 1073741824) (h : Q (.int (i / j)) st) : wpBin X n .FloorDiv (.int i) (.int j) Q st := fun _ _ _ _ _ _ _ _ _ _ F h1 h2 => by
  obtain ⟨t, rfl⟩ := h1.int'; obtain ⟨t', rfl⟩ := h2.int'
  rw [(Int.fdiv_eq_ediv_of_nonneg i (Int.le_of_lt ha)).symm] at h
  exact floordiv_int (Int.ne_of_gt ha) (PV.tok F R.int_ h) (.inl (PyProof.noPylong_small (by omega)))
theorem b_mod {i j : Int} (ha : 0 < j) (h : Q (.int (i % j)) st) : wpBin X n .Mod (.int i) (.int j) Q st := fun _ _ _ _ _ _ _ _ _ _ F h1 h2 => by
  obtain ⟨t, rfl⟩ := h1.int'; obtain ⟨t', rfl⟩ := h2.int'
  rw [(Int.fmod_eq_emod_of_nonneg i (Int.le_of_lt ha)).symm] at h
  exact mod_int' (Int.ne_of_gt ha) (PV.tok F R.int_ h)
theorem b_addq {a b : D} {xs ys : List D} (e1 : lst st.hp a = some xs) (e2 : lst st.hp b = some ys) (hn : New (xs ++ ys) Q st) : wpBin X n .Add a b Q st := fun _ _ _ _ _ _ _ _ _ _ F h1 h2 => by
  obtain ⟨p, its, k, rfl, hp, hs⟩ := lst_real F.sat h1 e1
  obtain ⟨q, its', k', rfl, hq, hs'⟩ := lst_real F.sat h2 e2
  have hl : its.size + its'.size = (xs ++ ys).length := by
    have a := hs.length; have b := hs'.length
    simp only [Array.length_toList] at a b
    rw [List.length_append, a, b]
  exact PySem.P.add_list hp hq (new_list F (by rw [Array.toList_append]; exact hs.append hs') hn) (by rw [hl]; exact sizeLine_ge hn.1)
theorem b_mulq {a : D} {j : Int} {xs : List D} (e1 : lst st.hp a = some xs) (h0 : 0 ≤ j) (hj : j < 1000000) (hz : xs.length * j.toNat ≤ 16000000) (hn : New ((List.replicate j.toNat xs).flatten) Q st) : wpBin X n .Mult a (.int j) Q st := fun _ _ _ _ _ _ s _ _ _ F h1 h2 => by
  obtain ⟨p, its, k, rfl, hp, hs⟩ := lst_real F.sat h1 e1
  obtain ⟨t', rfl⟩ := h2.int'
  have hl : its.size = xs.length := by have a := hs.length; simpa using a
  refine wpAny_binaryOp_repeat_ref (T := "list") (U := "int") (by decide) ⟨_, hp, rfl⟩ (fun s' => typeIs_int s' j t') noFill_list_mul PySem.F.fills_int_mul PySem.F.slot_int_rmul repeat_list PySem.F.slot_int_index.lookup
    (call_meets PySem.F.slot_int_rmul (typeIs_int s j t') PySem.F.entry_int_rmul (PySem.F.args_int_rmul_2 _ _) (lm_int_rmul_list_any j t' p its k none #[])
      ⟨hp, rfl, ⟨_, hp, rfl⟩, call_meets PySem.F.slot_list_mul ⟨_, hp, rfl⟩ PySem.F.entry_list_mul (PySem.F.args_list_mul_2 _ _)
        (lm_list_mul_any p its k none #[] j t' (by simp [Builtin.List.listFitsIndex]; omega) (by rw [hl]; omega) (by rw [hl]; simp [Builtin.List.listTooLong, sizeLine]; omega))
        ⟨hp, new_list F ?_ hn⟩⟩)
  have key := Rs_rep hs (if its.isEmpty = true then 0 else j.toNat) #[] [] Rs.nil
  by_cases he : its.isEmpty = true
  · have hx : xs = [] := by
      rw [Array.isEmpty_iff_size_eq_zero, hl] at he
      exact List.eq_nil_of_length_eq_zero he
    subst hx
    rw [if_pos he] at key ⊢
    have e2 : (List.replicate j.toNat ([] : List D)).flatten = [] := by simp
    rw [e2]
    simpa using key
  · rw [if_neg he] at key ⊢
    simpa using key

/-! ## comparisons -/
variable {K : Bool → Prop}
theorem q_eq {i j : Int} (h : K (decide (i = j))) : wpC1 X n .Eq (.int i) (.int j) K st := fun _ _ _ _ _ _ s _ _ _ _ _ h1 h2 hk => by
  obtain ⟨t, rfl⟩ := h1.int'; obtain ⟨t', rfl⟩ := h2.int'; exact PySem.P.eq_int (hk _ s.toks h)
theorem q_ne {i j : Int} (h : K (!decide (i = j))) : wpC1 X n .NotEq (.int i) (.int j) K st := fun _ _ _ _ _ _ s _ _ _ _ _ h1 h2 hk => by
  obtain ⟨t, rfl⟩ := h1.int'; obtain ⟨t', rfl⟩ := h2.int'; exact PySem.P.ne_int (hk _ s.toks h)
theorem q_lt {i j : Int} (h : K (decide (i < j))) : wpC1 X n .Lt (.int i) (.int j) K st := fun _ _ _ _ _ _ s _ _ _ _ _ h1 h2 hk => by
  obtain ⟨t, rfl⟩ := h1.int'; obtain ⟨t', rfl⟩ := h2.int'; exact PySem.P.lt_int (hk _ s.toks h)
theorem q_le {i j : Int} (h : K (decide (i ≤ j))) : wpC1 X n .LtE (.int i) (.int j) K st := fun _ _ _ _ _ _ s _ _ _ _ _ h1 h2 hk => by
  obtain ⟨t, rfl⟩ := h1.int'; obtain ⟨t', rfl⟩ := h2.int'; exact PySem.P.le_int (hk _ s.toks h)
theorem q_gt {i j : Int} (h : K (decide (i > j))) : wpC1 X n .Gt (.int i) (.int j) K st := fun _ _ _ _ _ _ s _ _ _ _ _ h1 h2 hk => by
  obtain ⟨t, rfl⟩ := h1.int'; obtain ⟨t', rfl⟩ := h2.int'; exact PySem.P.gt_int (hk _ s.toks h)
theorem q_ge {i j : Int} (h : K (decide (i ≥ j))) : wpC1 X n .GtE (.int i) (.int j) K st := fun _ _ _ _ _ _ s _ _ _ _ _ h1 h2 hk => by
  obtain ⟨t, rfl⟩ := h1.int'; obtain ⟨t', rfl⟩ := h2.int'; exact PySem.P.ge_int (hk _ s.toks h)
theorem q_is {a : D} (h : K (isNone a)) : wpC1 X n .Is a .none K st := fun _ _ _ _ _ _ s _ _ _ _ _ h1 h2 hk => by
  rw [h2.none']; exact is_none (by rw [isNone_is h1]; exact hk _ s.toks h)
theorem q_eqp {a b : D} {p q : PyData} (e1 : pyH st.hp a = some p) (e2 : pyH st.hp b = some q) (s1 : small p) (s2 : small q) (h : K (PyData.eqv p q)) : wpC1 X n .Eq a b K st := fun _ _ _ _ _ _ s _ _ _ hr F h1 h2 hk => by
  obtain ⟨as, r1⟩ := pyH_reads F.sat h1 e1
  obtain ⟨bs, r2⟩ := pyH_reads F.sat h2 e2
  exact SeqAt.compareEq_reads r1 r2 s1.1 s2.1 (room_units hr (Nat.le_trans (Nat.le_trans (Nat.min_le_left _ _) s1.2) (by decide))) (hk _ s.toks h)
theorem q_nep {a b : D} {p q : PyData} (e1 : pyH st.hp a = some p) (e2 : pyH st.hp b = some q) (s1 : small p) (s2 : small q) (h : K (!PyData.eqv p q)) : wpC1 X n .NotEq a b K st := fun _ _ _ _ _ _ s _ _ _ hr F h1 h2 hk => by
  obtain ⟨as, r1⟩ := pyH_reads F.sat h1 e1
  obtain ⟨bs, r2⟩ := pyH_reads F.sat h2 e2
  exact SeqAt.compareNe_reads r1 r2 s1.1 s2.1 (room_units hr (Nat.le_trans (Nat.le_trans (Nat.min_le_left _ _) s1.2) (by decide))) (hk _ s.toks h)
theorem q_inp {a b : D} {xs : List D} {ps : List PyData} {p : PyData} (e1 : sq st.hp b = some xs) (e2 : pys xs = some ps) (e3 : pyH st.hp a = some p) (s1 : small (.list ps)) (s2 : small p) (h : K (ps.any fun q => PyData.eqv q p)) : wpC1 X n .In a b K st := fun _ _ A _ _ _ s _ _ _ hr F h1 h2 hk => by
  obtain ⟨as, rp⟩ := pyH_reads F.sat h1 e3
  obtain ⟨c, its, k, T, rfl, hT, hc, hs⟩ := sq_real F.sat h2 e1
  obtain ⟨bs, rs⟩ := pys_reads F.sat.gh hs e2
  obtain ⟨l1, l2⟩ := small_list s1
  have hu : A.units + 1 + min (PyData.depthAll ps) p.depth < cLine := by have := hr.un; have := s2.2; omega
  rcases hT with rfl | rfl
  · exact SeqAt.in_list_reads (.list hc rfl rfl rs) rp l1 s2.1 hu (hk _ s.toks h)
  · exact SeqAt.in_tuple_reads (.tuple hc rfl rfl rs) rp l1 s2.1 hu (hk _ s.toks h)
theorem q_notinp {a b : D} {xs : List D} {ps : List PyData} {p : PyData} (e1 : sq st.hp b = some xs) (e2 : pys xs = some ps) (e3 : pyH st.hp a = some p) (s1 : small (.list ps)) (s2 : small p) (h : K (!ps.any fun q => PyData.eqv q p)) : wpC1 X n .NotIn a b K st := fun _ _ A _ _ _ s _ _ _ hr F h1 h2 hk => by
  obtain ⟨as, rp⟩ := pyH_reads F.sat h1 e3
  obtain ⟨c, its, k, T, rfl, hT, hc, hs⟩ := sq_real F.sat h2 e1
  obtain ⟨bs, rs⟩ := pys_reads F.sat.gh hs e2
  obtain ⟨l1, l2⟩ := small_list s1
  have hu : A.units + 1 + min (PyData.depthAll ps) p.depth < cLine := by have := hr.un; have := s2.2; omega
  rcases hT with rfl | rfl
  · exact SeqAt.notIn_list_reads (.list hc rfl rfl rs) rp l1 s2.1 hu (hk _ s.toks h)
  · exact SeqAt.notIn_tuple_reads (.tuple hc rfl rfl rs) rp l1 s2.1 hu (hk _ s.toks h)
theorem q_ind {a : Addr} {es : List (Int × D)} {k : Int} (hs : st.hp a = some (.dict es)) (h : K (es.any fun e => e.1 == k)) : wpC1 X n .In (.int k) (.addr a) K st := fun _ _ _ _ _ _ s _ _ _ _ F h1 h2 hk => by
  obtain ⟨c, kvs, rfl, _, q, hd, hkv⟩ := dct_real (es := es) F.sat h2 (by simp only [dct, hs])
  obtain ⟨t, rfl⟩ := h1.int'
  exact wpAny_in_of (knd := intKind X.prog X.w) (k := k) (by simp [intKind, Value.isInt]) (not_sys F.sat q) hd.mapOf (by rw [(hkv.value (k := k)).1]; exact hk _ _ h)
end
end Mine

namespace Mine
open PySem PySem.W PyProof.Rows PySem.Spec

theorem okE_notStar {G : Str → Bool} {names : Names} {e : Expr} (h : okE G names e = true) (env : Env) (rest : List Expr) : starEach (e :: rest) env = (false, eval e env) :: starEach rest env := by
  cases e <;> first | rfl | exact Bool.noConfusion (h : false = true)
theorem okE_notSet {G : Str → Bool} {names : Names} {e : Expr} (h : okE G names e = true) (op : CmpOp) : behindInMarks op e = false := by
  cases e <;> first | rfl | exact Bool.noConfusion (h : false = true)
theorem okE_folded {G : Str → Bool} {names : Names} {e : Expr} (h : okE G names e = true) (env : Env) (x : Value) : foldedSetIterable e env x = pure x := by
  cases e <;> first | rfl | exact Bool.noConfusion (h : false = true)
theorem okBase_eq {o : Expr} (h : okBase o = true) (attr : Str) (env : Env) (whole : Sem Value) : attributeBase o attr env whole = whole := by
  cases o <;> first | rfl | exact Bool.noConfusion (h : false = true)
theorem okI_okE {G : Str → Bool} {names : Names} {i : Expr} (h : okI G names i = true) (hs : isSlice i = false) : okE G names i = true := by
  cases i <;> first | exact Bool.noConfusion (hs : true = false) | exact Bool.noConfusion (h : false = true) | exact h
theorem lastMarks_of {G : Str → Bool} {ops : List CmpOp} {es : List Expr} {names : Names} (h : okEs G names es = true) : lastMarks ops es = false := by
  induction ops generalizing es with
  | nil => cases es <;> rfl
  | cons op ops ih =>
    cases es with
    | nil => cases ops <;> rfl
    | cons e es =>
      obtain ⟨h1, h2⟩ := and2 h
      cases ops with
      | nil =>
        cases es with
        | nil => exact okE_notSet h1 op
        | cons e' es => rfl
      | cons op' ops => exact ih h2

section
variable {X : Cx} {env : Env} {rw : Bool} {n : Nat} {A : Around} {kb : Fz} {av : Addr → Prop} {g g' : Fz} {st : St} {s : Shared} {Q Q₁ : D → St → Prop} {KB : Bool → St → Prop}

/-! ## comparisons -/
abbrev kCmpV (X : Cx) (n : Nat) (ops : List CmpOp) (cs : List Expr) (Q : D → St → Prop) : D → St → Prop := fun a st => wpCV X n a ops cs (fun b st => Q (.bool b) st) st
abbrev kCmpT (X : Cx) (n : Nat) (ops : List CmpOp) (cs : List Expr) (KB : Bool → St → Prop) : D → St → Prop := fun a st => wpCT X n a ops cs KB st
theorem e_cmp {l : Expr} {ops : List CmpOp} {cs : List Expr} {p : Pos} (h : wpE X n l (kCmpV X n ops cs Q) st) : wpE X n (.Compare l ops cs p) Q st := fun env rw hok A kb av g s hr F => by
  obtain ⟨o1, o2⟩ := and2 hok
  show wpAny _ _ (do compareChain p (← eval l env) ops (markedEach ops cs (evalEach cs env))) _ _ s
  rw [markedEach_of_false _ _ _ (lastMarks_of o2)]
  refine wpAny_bind ((h env rw o1).use hr F fun v s₁ g₁ d st₁ h1 F₁ h3 h4 => wpAny_mono (h4 env rw p o2 A kb av g₁ s₁ v hr F₁ h3) (fun u s₂ ⟨b, e, q⟩ => ?_) fun _ _ x => x)
  obtain ⟨g₂, st₂, k1, F₂, k4⟩ := q
  exact ⟨g₂, .bool b, st₂, h1.trans k1, F₂, e ▸ R.bool_, k4⟩
theorem t_cmp {l : Expr} {ops : List CmpOp} {cs : List Expr} {p : Pos} (h : wpE X n l (kCmpT X n ops cs KB) st) : wpT X n (.Compare l ops cs p) KB st := fun env rw hok A kb av g s hr F => by
  obtain ⟨o1, o2⟩ := and2 hok
  show wpAny _ _ (do testChain p (← eval l env) ops (markedEach ops cs (evalEach cs env))) _ _ s
  rw [markedEach_of_false _ _ _ (lastMarks_of o2)]
  exact wpAny_bind ((h env rw o1).use hr F fun v s₁ g₁ d st₁ h1 F₁ h3 h4 => wpAny_mono (h4 env rw p o2 A kb av g₁ s₁ v hr F₁ h3) (fun _ _ p => p.up h1) fun _ _ x => x)
abbrev kC1 (X : Cx) (n : Nat) (op : CmpOp) (a : D) (KB : Bool → St → Prop) : D → St → Prop := fun b st => wpC1 X n op a b (fun r => KB r st) st
theorem cv_one {a : D} {op : CmpOp} {e : Expr} (h : wpE X n e (kC1 X n op a KB) st) : wpCV X n a [op] [e] KB st := fun env rw pos hok A kb av g s v hr F ra => by
  refine chain_last ((h env rw (and2 hok).1).use hr F fun u s₁ g₁ d st₁ h1 F₁ h3 h4 => ?_)
  exact h4 env rw A kb av g₁ s₁ v u _ hr F₁ (ra.sub h1) h3 fun r t hq => ⟨r, rfl, g₁, st₁, h1, F₁.toks t, hq⟩
theorem ct_one {a : D} {op : CmpOp} {e : Expr} (h : wpE X n e (kC1 X n op a KB) st) : wpCT X n a [op] [e] KB st := fun env rw pos hok A kb av g s v hr F ra => by
  refine test_last ((h env rw (and2 hok).1).use hr F fun u s₁ g₁ d st₁ h1 F₁ h3 h4 => ?_)
  exact h4 env rw A kb av g₁ s₁ v u _ hr F₁ (ra.sub h1) h3 fun r t hq => wpAny_truthy_bool ⟨g₁, st₁, h1, F₁.toks t, hq⟩
def c2K (X : Cx) (n : Nat) (op' : CmpOp) (b : D) (e' : Expr) (KB : Bool → St → Prop) : Bool → St → Prop := fun r st => if r = true then wpE X n e' (kC1 X n op' b KB) st else KB false st
abbrev kC2 (X : Cx) (n : Nat) (op op' : CmpOp) (a : D) (e' : Expr) (KB : Bool → St → Prop) : D → St → Prop := fun b st => wpC1 X n op a b (fun r => c2K X n op' b e' KB r st) st
theorem cv_two {a : D} {op op' : CmpOp} {e e' : Expr} (h : wpE X n e (kC2 X n op op' a e' KB) st) : wpCV X n a [op, op'] [e, e'] KB st := fun env rw pos hok A kb av g s v hr F ra => by
  obtain ⟨o1, o2⟩ := and2 hok
  refine chain_link ((h env rw o1).use hr F fun u s₁ g₁ d st₁ h1 F₁ h3 h4 => ?_)
  refine h4 env rw A kb av g₁ s₁ v u _ hr F₁ (ra.sub h1) h3 fun r t hq => wpAny_truthy_bool ?_
  cases r with
  | false => exact ⟨false, rfl, g₁, st₁, h1, F₁.toks t, hq⟩
  | true =>
    refine chain_last (Snd.use ((show wpE X n e' (kC1 X n op' d KB) st₁ from hq) env rw (and2 o2).1) hr (F₁.toks t) fun u' s₂ g₂ d' st₂ k1 F₂ k3 k4 => ?_)
    exact k4 env rw A kb av g₂ s₂ u u' _ hr F₂ (h3.sub k1) k3 fun r t hq => ⟨r, rfl, g₂, st₂, h1.trans k1, F₂.toks t, hq⟩
theorem ct_two {a : D} {op op' : CmpOp} {e e' : Expr} (h : wpE X n e (kC2 X n op op' a e' KB) st) : wpCT X n a [op, op'] [e, e'] KB st := fun env rw pos hok A kb av g s v hr F ra => by
  obtain ⟨o1, o2⟩ := and2 hok
  refine test_link ((h env rw o1).use hr F fun u s₁ g₁ d st₁ h1 F₁ h3 h4 => ?_)
  refine h4 env rw A kb av g₁ s₁ v u _ hr F₁ (ra.sub h1) h3 fun r t hq => wpAny_truthy_bool ?_
  cases r with
  | false => exact ⟨g₁, st₁, h1, F₁.toks t, hq⟩
  | true =>
    refine test_last (Snd.use ((show wpE X n e' (kC1 X n op' d KB) st₁ from hq) env rw (and2 o2).1) hr (F₁.toks t) fun u' s₂ g₂ d' st₂ k1 F₂ k3 k4 => ?_)
    exact k4 env rw A kb av g₂ s₂ u u' _ hr F₂ (h3.sub k1) k3 fun r t hq => wpAny_truthy_bool ⟨g₂, st₂, h1.trans k1, F₂.toks t, hq⟩
theorem c2_t {op' : CmpOp} {b : D} {e' : Expr} {r : Bool} (hr : r = true) (h : wpE X n e' (kC1 X n op' b KB) st) : c2K X n op' b e' KB r st := by subst hr; exact h
theorem c2_f {op' : CmpOp} {b : D} {e' : Expr} {r : Bool} (hr : r = false) (h : KB false st) : c2K X n op' b e' KB r st := by subst hr; exact h

/-! ## and, or, tests -/
def bvK (X : Cx) (n : Nat) (op : BoolOp) (es : List Expr) (Q : D → St → Prop) : D → St → Prop := fun d st => ∃ b, truth st.hp d = some b ∧ (if (op == .And) = b then wpBoolV X n op es Q st else Q d st)
theorem e_boolop {op : BoolOp} {es : List Expr} {p : Pos} (h : wpBoolV X n op es Q st) : wpE X n (.BoolOp op es p) Q st := fun env rw hok => h env rw p hok
theorem bv_one {op : BoolOp} {e : Expr} (h : wpE X n e Q st) : wpBoolV X n op [e] Q st := fun env rw pos hok => h env rw (and2 hok).1
theorem bv_cons {op : BoolOp} {e e' : Expr} {es : List Expr} (h : wpE X n e (bvK X n op (e' :: es) Q) st) : wpBoolV X n op (e :: e' :: es) Q st := fun env rw pos hok A kb av g s hr F => by
  obtain ⟨o1, o2⟩ := and2 hok
  show wpAny _ _ (do
    let v ← eval e env
    standAt pos
    let t ← holding [v] (truthy v)
    match op, t with
    | .And, false | .Or, true => pure v
    | _, _ => boolOp pos op (evalEach (e' :: es) env)) _ _ s
  refine wpAny_bind ((h env rw o1).use hr F fun v s₁ g₁ d st₁ h1 F₁ h3 h4 => ?_)
  obtain ⟨b, hb, h4⟩ := h4
  refine wpAny_bind (wpAny_standAt (wpAny_bind (wpAny_holding (truth_ok F₁ h3 hb fun t => ?_))))
  have rest : wpBoolV X n op (e' :: es) Q st₁ → W X env A kb (boolOp pos op (evalEach (e' :: es) env)) (PV X env rw kb av g Q) { s₁ with toks := t } := fun hh => W.up h1 (hh env rw pos o2 A kb av g₁ _ hr (F₁.toks t))
  cases op <;> cases b
  · exact wpAny_pure ⟨g₁, d, st₁, h1, F₁.toks t, h3, h4⟩
  · exact rest h4
  · exact rest h4
  · exact wpAny_pure ⟨g₁, d, st₁, h1, F₁.toks t, h3, h4⟩
theorem bv_at {es : List Expr} {d : D} {b : Bool} (ht : truth st.hp d = some b) (hb : b = true) (h : wpBoolV X n .And es Q st) : bvK X n .And es Q d st := ⟨b, ht, by subst hb; exact h⟩
theorem bv_af {es : List Expr} {d : D} {b : Bool} (ht : truth st.hp d = some b) (hb : b = false) (h : Q d st) : bvK X n .And es Q d st := ⟨b, ht, by subst hb; exact h⟩
theorem bv_of {es : List Expr} {d : D} {b : Bool} (ht : truth st.hp d = some b) (hb : b = false) (h : wpBoolV X n .Or es Q st) : bvK X n .Or es Q d st := ⟨b, ht, by subst hb; exact h⟩
theorem bv_ot {es : List Expr} {d : D} {b : Bool} (ht : truth st.hp d = some b) (hb : b = true) (h : Q d st) : bvK X n .Or es Q d st := ⟨b, ht, by subst hb; exact h⟩

abbrev kNot (KB : Bool → St → Prop) : Bool → St → Prop := fun b st => KB (!b) st
theorem t_not {e : Expr} {p : Pos} (h : wpT X n e (kNot KB) st) : wpT X n (.UnaryOp .Not e p) KB st := fun env rw hok A kb av g s hr F => by
  show wpAny _ _ (do return !(← isTrue e env (eval e env))) _ _ s
  exact wpAny_bind (wpAny_mono (h env rw hok A kb av g s hr F) (fun b s₁ ⟨g', st', h, F, q⟩ => wpAny_pure ⟨g', st', h, F, q⟩) fun _ _ x => x)
def tK (KB : Bool → St → Prop) : D → St → Prop := fun d st => ∃ b, truth st.hp d = some b ∧ KB b st
theorem tK_ {d : D} {b : Bool} (ht : truth st.hp d = some b) (h : KB b st) : tK KB d st := ⟨b, ht, h⟩
theorem t_any {e : Expr} (he : ∀ env, isTrue e env (eval e env) = (do let v ← eval e env; standAt e.pos; holding [v] (truthy v))) (h : wpE X n e (tK KB) st) : wpT X n e KB st := fun env rw hok A kb av g s hr F => by
  refine isTrue_plain ((h env rw hok).use hr F fun u s₁ g₁ d st₁ h1 F₁ h3 h4 => ?_) (he env)
  obtain ⟨b, e, h4⟩ := h4
  exact truth_ok F₁ h3 e fun t => ⟨g₁, st₁, h1, F₁.toks t, h4⟩
theorem t_name {x : Str} {p : Pos} (h : wpE X n (.Name x p) (tK KB) st) : wpT X n (.Name x p) KB st := t_any (fun _ => rfl) h
theorem t_call {f : Expr} {as : List Expr} {ks : List Keyword} {p : Pos} (h : wpE X n (.Call f as ks p) (tK KB) st) : wpT X n (.Call f as ks p) KB st := t_any (fun _ => rfl) h
theorem t_bool {op : BoolOp} {es : List Expr} {p : Pos} (h : wpTs X n op es KB st) : wpT X n (.BoolOp op es p) KB st := fun env rw hok => h env rw hok
def tsK (X : Cx) (n : Nat) (op : BoolOp) (es : List Expr) (KB : Bool → St → Prop) : Bool → St → Prop := fun b st => if (op == .And) = b then wpTs X n op es KB st else KB b st
theorem ts_nil {op : BoolOp} (h : KB (op == .And) st) : wpTs X n op [] KB st := fun env rw hok A kb av g s hr F => wpAny_pure ⟨g, st, Sub.rfl', F, h⟩
theorem ts_cons {op : BoolOp} {e : Expr} {es : List Expr} (h : wpT X n e (tsK X n op es KB) st) : wpTs X n op (e :: es) KB st := fun env rw hok A kb av g s hr F => by
  obtain ⟨o1, o2⟩ := and2 hok
  show wpAny _ _ (do match op, ← isTrue e env (eval e env) with | .And, false => pure false | .Or, true => pure true | _, _ => allTrue op es env) _ _ s
  refine wpAny_bind (wpAny_mono (h env rw o1 A kb av g s hr F) (fun b s₁ ⟨g₁, st₁, h1, F₁, h4⟩ => ?_) fun _ _ x => x)
  have rest : wpTs X n op es KB st₁ → W X env A kb (allTrue op es env) (PB X env rw kb av g KB) s₁ := fun hh => wpAny_mono (hh env rw o2 A kb av g₁ _ hr F₁) (fun _ _ p => p.up h1) fun _ _ x => x
  cases op <;> cases b
  · exact wpAny_pure ⟨g₁, st₁, h1, F₁, h4⟩
  · exact rest h4
  · exact rest h4
  · exact wpAny_pure ⟨g₁, st₁, h1, F₁, h4⟩
theorem ts_at {es : List Expr} {b : Bool} (hb : b = true) (h : wpTs X n .And es KB st) : tsK X n .And es KB b st := by subst hb; exact h
theorem ts_af {es : List Expr} {b : Bool} (hb : b = false) (h : KB b st) : tsK X n .And es KB b st := by subst hb; exact h
theorem ts_of {es : List Expr} {b : Bool} (hb : b = false) (h : wpTs X n .Or es KB st) : tsK X n .Or es KB b st := by subst hb; exact h
theorem ts_ot {es : List Expr} {b : Bool} (hb : b = true) (h : KB b st) : tsK X n .Or es KB b st := by subst hb; exact h

/-! ## lists, tuples, dicts -/
abbrev kEs (X : Cx) (n : Nat) (es : List Expr) (Q : List D → St → Prop) : D → St → Prop := fun d st => wpEs X n es (fun ds st => Q (d :: ds) st) st
theorem es_nil {Q : List D → St → Prop} (h : Q [] st) : wpEs X n [] Q st := ⟨fun _ => h, fun env rw pos hok A kb av g s hr F => wpAny_pure ⟨g, [], st, Sub.rfl', F, Rs.nil, h⟩⟩
theorem es_cons {Q : List D → St → Prop} {e : Expr} {es : List Expr} (h : wpE X n e (kEs X n es Q) st) : wpEs X n (e :: es) Q st := ⟨fun q => (by cases q), fun env rw pos hok A kb av g s hr F => by
  obtain ⟨o1, o2⟩ := and2 hok
  rw [okE_notStar o1]
  refine Calls.spliced_cons ((h env rw o1).use hr F fun v s₁ g₁ d st₁ h1 F₁ h3 h4 => ?_)
  exact wpAny_mono (h4.2 env rw pos o2 A kb av g₁ s₁ hr F₁) (fun vs s₂ ⟨g₂, ds, st₂, k1, F₂, k3, k4⟩ => ⟨g₂, d :: ds, st₂, h1.trans k1, F₂, Rs.cons (h3.sub k1) k3, k4⟩) fun _ _ x => x⟩
abbrev kNew (Q : D → St → Prop) : List D → St → Prop := fun ds st => New ds Q st
theorem e_list {es : List Expr} {p : Pos} (h : wpEs X n es (kNew Q) st) : wpE X n (.List es p) Q st := fun env rw hok A kb av g s hr F =>
  List_ (wpAny_mono (h.2 env rw p hok A kb av g s hr F) (fun vs s₁ ⟨g₁, ds, st₁, h1, F₁, h3, h4⟩ => W.up h1 (new_list' F₁ h3 h4)) fun _ _ x => x)
abbrev kTup (Q : D → St → Prop) : List D → St → Prop := fun ds st => ds.length ≤ 1000 ∧ Q (.tup ds) st
theorem newTuple_ok (F : InF X env rw kb av g st s) {ds : List D} {vs : List Value} (rs : Rs g ds vs) (hle : vs.length ≤ sizeLine) (h : Q (.tup ds) st) : W X env A kb (newTuple vs) (PV X env rw kb av g Q) s := by
  refine wpAny_newObj_type ?_ (by show vs.toArray.size ≤ sizeLine; rw [List.size_toArray]; exact hle)
  obtain ⟨q1, q2⟩ := F.alloc_g (o := { cls := .type "tuple", data := .seq vs.toArray }) rfl
  refine ⟨_, _, st, q1, q2, ?_, h⟩
  change ∃ _, _
  exact ⟨_, vs.toArray, rfl, ⟨0, by unfold updG; rw [if_pos rfl]⟩, by simpa using rs.sub q1⟩
theorem e_tup {es : List Expr} {k : Nat} {p : Pos} (h : wpEs X n es (kTup Q) st) : wpE X n (.Tuple es k p) Q st := fun env rw hok A kb av g s hr F =>
  Tuple_ (wpAny_mono (h.2 env rw p hok A kb av g s hr F) (fun vs s₁ ⟨g₁, ds, st₁, h1, F₁, h3, h4⟩ => W.up h1 (newTuple_ok F₁ h3 (by rw [h3.length]; exact sizeLine_ge (Nat.le_trans h4.1 (by decide))) h4.2)) fun _ _ x => x)
theorem e_dict (ok : X.Ok) {loc : Str → Option D} {hp : Hp} {p : Pos} (h : ∀ a, hp a = none → Q (.addr a) ⟨loc, updH hp a (some (.dict []))⟩) : wpE X n (.Dict [] [] p) Q ⟨loc, hp⟩ := fun env rw hok A kb av g s hr F => by
  rw [eval_Dict_empty]
  refine wpAny_bind (wpAny_standAt (wpAny_newObj_type ?_))
  exact ⟨g, _, _, Sub.rfl', F.alloc_hp (mo := .dict []) ⟨F.sat.size_sys ok, [], Heap.DictOf.new _, rfl⟩, R.addr_, h _ (F.sat.fresh_hp (get?_size _))⟩
theorem new_frozen {xs : List D} (hl : xs.length ≤ 16000000) (h : Q (.list xs) st) : New xs Q st := ⟨hl, .inl h⟩
theorem new_mut {loc : Str → Option D} {hp : Hp} {xs : List D} (hl : xs.length ≤ 16000000) (h : ∀ a, hp a = none → Q (.addr a) ⟨loc, updH hp a (some (.list xs))⟩) : New xs Q ⟨loc, hp⟩ := ⟨hl, .inr h⟩

/-! ## items, slices, attributes -/
abbrev kItem2 (X : Cx) (n : Nat) (a : D) (Q : D → St → Prop) : D → St → Prop := fun k st => wpItem X n a k Q st
abbrev kItem (X : Cx) (n : Nat) (i : Expr) (Q : D → St → Prop) : D → St → Prop := fun a st => wpE X n i (kItem2 X n a Q) st
theorem e_item {e i : Expr} {p : Pos} (hi : isSlice i = false) (h : wpE X n e (kItem X n i Q) st) : wpE X n (.Subscript e i p) Q st := fun env rw hok A kb av g s hr F => by
  obtain ⟨o1, o2⟩ := and2 hok
  refine Subscript_ ((h env rw o1).use hr F fun v s₁ g₁ d st₁ h1 F₁ h3 h4 => (h4 env rw (okI_okE o2 hi)).use hr F₁ fun u s₂ g₂ d' st₂ k1 F₂ k3 k4 => ?_)
  exact W.up (h1.trans k1) (k4 env rw A kb av g₂ s₂ v u _ _ hr F₂ (h3.sub k1) k3 hi)
theorem i_idx {x d : D} {k : Int} {xs : List D} {j : Nat} (hs : sq st.hp x = some xs) (hl : xs.length ≤ 16000000) (e2 : idx xs.length k = some j) (hk : xs[j]? = some d) (h : Q d st) : wpItem X n x (.int k) Q st := fun _ _ A _ _ _ s _ _ _ _ hr F h1 h2 hsl => by
  obtain ⟨t', rfl⟩ := h2.int'
  obtain ⟨c, its, m, T, rfl, hT, hc, hrs⟩ := sq_real F.sat h1 hs
  obtain ⟨w, hw, hr⟩ := hrs.get hk
  have hl := hrs.length
  simp only [Array.length_toList] at hl
  rw [Array.getElem?_toList] at hw
  have hcs := idx_cases e2
  rcases hT with rfl | rfl
  · have IL : s.heap.IsList c its := ⟨_, hc, rfl, m, rfl⟩
    refine tail_any IL.typeIs slot_list_getitem.lookup ?_ (subscripted_of hsl _ _)
    rcases hcs with ⟨q1, q2, rfl⟩ | ⟨q1, q2, rfl⟩
    · exact wpAny_getItem_list IL q1 (by omega) hw (PV.here F hr h)
    · exact wpAny_getItem_list_neg IL q1 (by omega) (by omega) (by rw [hl]; exact hw) (PV.here F hr h)
  · refine tail_any ⟨_, hc, rfl⟩ PySem.F.slot_tuple_getitem.lookup ?_ (subscripted_of hsl _ _)
    exact PySem.P.getItem_tuple hc (by omega) (by omega) (by rw [hl]; exact idx_seq e2) hw (PV.here F hr h)
theorem idx_nn {m : Nat} {k : Int} (h0 : 0 ≤ k) (h1 : k < m) : idx m k = some k.toNat := by unfold idx; rw [if_pos ⟨h0, h1⟩]
theorem i_at {x d : D} {k : Int} {xs : List D} (hs : sq st.hp x = some xs) (hl : xs.length ≤ 16000000) (h0 : 0 ≤ k) (hk : xs[k.toNat]? = some d) (h : Q d st) : wpItem X n x (.int k) Q st :=
  i_idx hs hl (idx_nn h0 (by have := (List.getElem?_eq_some_iff.mp hk).1; omega)) hk h
theorem i_scr {ns : List Int} {k : Int} (hl : ns.length ≤ 16000000) {i : Int} (h0 : 0 ≤ k) (hlt : k < ns.length) (hi : ns[k.toNat]? = some i) (h : Q (.int i) st) : wpItem X n (.scr ns) (.int k) Q st := fun _ _ A _ _ _ s _ _ _ _ hr F h1 h2 hsl => by
  obtain ⟨t', rfl⟩ := h2.int'
  obtain ⟨c, o, its, m, rfl, hg, hc, hd, hl, hii⟩ := h1
  have IL : s.heap.IsList c its := ⟨_, F.sat.gh _ _ hg, hc, m, hd⟩
  obtain ⟨t, hw⟩ := hii k.toNat i hi
  exact tail_any IL.typeIs slot_list_getitem.lookup (wpAny_getItem_list IL h0 (by omega) hw (PV.here F R.int_ h)) (subscripted_of hsl _ _)
theorem o_none (h : Q .none st) : wpOpt X n none Q st := fun env rw hok A kb av g s hr F => wpAny_pure (PV.here F R.none_ h)
theorem o_some {e : Expr} (h : wpE X n e Q st) : wpOpt X n (some e) Q st := fun env rw hok => h env rw hok
def wpSl (X : Cx) (n : Nat) (a dl du : D) (Q : D → St → Prop) (st : St) : Prop := ∃ lo hi xs, bound dl = some lo ∧ bound du = some hi ∧ lst st.hp a = some xs ∧ xs.length ≤ 16000000 ∧ New (cut lo hi xs) Q st
abbrev kAttr (X : Cx) (n : Nat) (name : Str) (Q : D → St → Prop) : D → St → Prop := fun a st => wpAttr X n a name Q st
theorem e_attr {e : Expr} {name : Str} {p : Pos} (h : wpE X n e (kAttr X n name Q) st) : wpE X n (.Attribute e name p) Q st := fun env rw hok A kb av g s hr F => by
  obtain ⟨o1, o2⟩ := and2 hok
  rw [arm_eval_Attribute, okBase_eq o2]
  exact wpAny_bind ((h env rw o1).use hr F fun v s₁ g₁ d st₁ h1 F₁ h3 h4 => wpAny_bind (wpAny_standAt (wpAny_bind (wpAny_holding (wpAny_mono (h4 env rw A kb av g₁ s₁ v hr F₁ h3) (fun r s₂ p => wpAny_bind (wpAny_letTemporaryGo (wpAny_pure (p.up h1)))) fun _ _ x => x)))))
theorem at_inst (ok : X.Ok) {C : Addr} {fs : List (Str × D)} {name : Str} {d : D} (hA : X.At C name = true) (hl : lookS name fs = some d) (hp : plainD d = true) (h : Q d st) : wpAttr X n (.inst C fs) name Q st := fun _ _ _ _ _ _ _ _ _ F r => by
  obtain ⟨x, dx, es, k, rfl, I, hf⟩ := inst_real F.sat r (.inl rfl)
  obtain ⟨w, e1, e2⟩ := (Rf_get (name := name) hf).1 d hl
  obtain ⟨p1, p2, p3, _⟩ := ok.attr C name hA
  exact get_value (F.sat.kin ok) I (plainGet_of p1).1 (findObj_own p2 p3 rfl e1) (handed_R e2 hp) (PV.tok F e2 h)

/-! ## calls -/
theorem backTo_any {es : List Expr} {names : Names} {pos : Pos} (h : okEs X.isG names es = true) (env : Env) : (backTo pos (starEach es env)).any (·.1) = false := by
  induction es with
  | nil => rfl
  | cons e es ih =>
    obtain ⟨h1, h2⟩ := and2 h
    rw [okE_notStar h1]
    show (false || (backTo pos (starEach es env)).any (·.1)) = false
    rw [ih h2]; rfl
theorem callWith_ok (ok : X.Ok) {f : D} {fv : Value} {fds : List D} {first : List Value} {args : List Expr} {pos : Pos} (hok : okEs X.isG env.scope.names args = true) (hr : Rm X env rw kb av A n) (F : InF X env rw kb av g st s)
    (rf : R g f fv) (rs : Rs g fds first) (h : wpEs X n args (fun ds st' => CV X n f (fds ++ ds) Q st') st) :
    W X env A kb (callWith pos fv first (backTo pos (starEach args env)) []) (PV X env rw kb av g Q) s := by
  refine callWith_of (P := fun h => X.K.In h ∧ Keep X f) (by rw [backTo_any hok]; rfl) (fun hh ⟨hK, hk⟩ => ?_) ?_
  · rcases hk with ⟨id, rfl⟩ | ⟨T, rfl⟩ | ⟨a, rfl, hk⟩
    · rw [rf.fn']; exact ⟨.machine, .inr (.inl rfl), Looks.of_pure rfl⟩
    · rw [rf.fn']; exact ⟨.machine, .inr (.inl rfl), Looks.of_pure rfl⟩
    · rw [rf.fn']; exact keeps_K hk hh hK
  · have key : ∀ (a : List Value) (s₁ : Shared), PL X env rw kb av g (fun ds st' => CV X n f (fds ++ ds) Q st') a s₁ → (X.K.In s₁.heap ∧ Keep X f) ∧ W X env A kb (call fv (first ++ a) []) (PV X env rw kb av g Q) s₁ := by
      rintro a s₁ ⟨g', ds, st', h1, F', h3, h4⟩
      exact ⟨⟨F'.sat.kin ok, h4.1⟩, W.up h1 (h4.2 env rw A kb av g' s₁ fv _ hr F' (rf.sub h1) ((rs.sub h1).append h3))⟩
    cases args with
    | nil => exact evalArgs_nil3 (key [] s ⟨g, [], st, Sub.rfl', F, Rs.nil, h.1 rfl⟩)
    | cons e es =>
      have hl := h.2 env rw pos hok A kb av g s hr F
      rw [okE_notStar (and2 hok).1] at hl ⊢
      exact Calls.evalArgs_plain (wpAny_mono hl key fun _ _ x => x)
abbrev kArgs (X : Cx) (n : Nat) (f : D) (Q : D → St → Prop) : List D → St → Prop := fun ds st => CV X n f ds Q st
abbrev kArgsM (X : Cx) (n : Nat) (f ov : D) (Q : D → St → Prop) : List D → St → Prop := fun ds st => CV X n f (ov :: ds) Q st
theorem e_calln (ok : X.Ok) {x : Str} {ap p : Pos} {args : List Expr} {f : D} (hg : X.G x = some f) (h : wpEs X n args (kArgs X n f Q) st) : wpE X n (.Call (.Name x ap) args [] p) Q st := fun env rw hok A kb av g s hr F => by
  obtain ⟨o1, o4⟩ := and2 hok
  obtain ⟨o1, o3⟩ := and2 o1
  obtain ⟨_, o2⟩ := and2 o1
  refine wpAny_Call_Name_kw (wpAny_mono (e_glob (n := n) (p := ap) ok hg (Q := fun d st' => d = f ∧ st' = st) ⟨rfl, rfl⟩ env rw o4 A kb av g s hr F) (fun fv s₁ ⟨g₁, d, st₁, h1, F₁, h3, e1, e2⟩ => ?_) fun _ _ x => x)
  subst e1 e2
  exact W.up h1 (callWith_ok ok (fds := []) o2 hr F₁ h3 Rs.nil h)
def mK (X : Cx) (n : Nat) (name : Str) (args : List Expr) (Q : D → St → Prop) : D → St → Prop := fun ov st => ∃ f, Meth X ov name f st ∧ wpEs X n args (kArgsM X n f ov Q) st
theorem m_ {ov f : D} {name : Str} {args : List Expr} (hm : Meth X ov name f st) (h : wpEs X n args (kArgsM X n f ov Q) st) : mK X n name args Q ov st := ⟨f, hm, h⟩
theorem e_callm (ok : X.Ok) {o : Expr} {name : Str} {ap p : Pos} {args : List Expr} (h : wpE X n o (mK X n name args Q) st) : wpE X n (.Call (.Attribute o name ap) args [] p) Q st := fun env rw hok A kb av g s hr F => by
  obtain ⟨o1, o4⟩ := and2 hok
  obtain ⟨o1, hlen⟩ := and2 o1
  obtain ⟨_, o2⟩ := and2 o1
  obtain ⟨o4, hline⟩ := and2 (show (okE X.isG env.scope.names o && okBase o && ap.endLine == p.line) = true from o4)
  obtain ⟨o4, hb⟩ := and2 o4
  rw [arm_eval_Call, okBase_eq hb]
  refine wpAny_bind ((h env rw o4).use hr F fun ov s₁ g₁ d st₁ h1 F₁ h3 h4 => wpAny_bind (wpAny_standAt ?_))
  obtain ⟨f, hm, h4⟩ := h4
  have hform : methodCallForm (args.length + ([] : List Keyword).length) (backTo p (starEach args env)) (backToKw p (keywordEach [] env)) = true := by
    have := backTo_any (X := X) (pos := p) o2 env
    have hlen := of_decide_eq_true hlen
    rw [show backToKw p (keywordEach [] env) = [] from rfl]
    unfold methodCallForm
    simp only [List.all_nil, List.isEmpty_nil, if_true, List.length_nil, Nat.add_zero, Bool.and_true, Bool.and_eq_true, decide_eq_true_eq]
    refine ⟨?_, by omega⟩
    rw [List.all_eq_not_any_not]
    simpa using this
  have hpos : methodCallPos true o env ap p = pure p := by unfold methodCallPos; simp [beq_iff_eq.mp hline]
  unfold methodCall
  rw [hform]
  refine wpAny_bind (wpAny_holding (hm env rw A kb av g₁ s₁ ov _ _ F₁ h3 fun fv rf => ?_))
  exact wpAny_bind (wpAny_of_eq hpos (W.up h1 (callWith_ok ok (fds := [d]) o2 hr F₁ rf (Rs.one h3) h4)))
theorem meth_inst (ok : X.Ok) {C fa : Addr} {fs : List (Str × D)} {name : Str} (h3 : X.M C name = some fa) (h2 : lookS name fs = none) : Meth X (.inst C fs) name (.fn (.ref fa)) st := fun _ _ _ _ _ _ _ _ _ _ F r hq => by
  obtain ⟨x, dx, es, k, rfl, I, hf⟩ := inst_real F.sat r (.inl rfl)
  obtain ⟨p1, p2, p3⟩ := ok.meth C name fa h3
  exact method_fn (F.sat.kin ok) I (plainGet_of p1).1 (plainGet_of p1).2 p2 (beq_iff_eq.mp p3) (by show (lookIn name (dictOf es k)).map _ = _; rw [lookIn_dict, (Rf_get hf).2 h2]; rfl) (hq _ R.fn_)
end
end Mine

namespace Mine
open PySem PySem.W PyProof.Rows PySem.Spec
section
variable {X : Cx} {env : Env} {rw : Bool} {n : Nat} {A : Around} {kb : Fz} {av : Addr → Prop} {g g' : Fz} {st : St} {s : Shared} {Q Q₁ : D → St → Prop} {loc : Str → Option D} {hp : Hp}
/-! ## calls of what is known -/
theorem cv_f [Nc X] {f : Addr} {ds : List D} (h : FS X n f ds hp (fun d hp => Q d ⟨loc, hp⟩)) : CV X n (.fn (.ref f)) ds Q ⟨loc, hp⟩ := ⟨.inr (.inr ⟨f, rfl, h.1⟩), fun _ _ _ _ _ _ _ _ _ hr F rf rs => by rw [rf.fn']; exact fs_call F hr rs h⟩
theorem CV.b1 {id : String} {d : D} (h : ∀ env rw A kb av g s v, Rm X env rw kb av A n → InF X env rw kb av g st s → R g d v → W X env A kb (call (.builtin id) [v]) (PV X env rw kb av g Q) s) : CV X n (.fn (.builtin id)) [d] Q st :=
  ⟨.inl ⟨id, rfl⟩, fun env rw A kb av g s fv vs hr F rf rs => by
    obtain ⟨v, _, rfl, r, rfl⟩ := rs; rw [rf.fn']; exact h env rw A kb av g s v hr F r⟩
theorem CV.b2 {id : String} {d e : D} (h : ∀ env rw A kb av g s v u, Rm X env rw kb av A n → InF X env rw kb av g st s → R g d v → R g e u → W X env A kb (call (.builtin id) [v, u]) (PV X env rw kb av g Q) s) : CV X n (.fn (.builtin id)) [d, e] Q st :=
  ⟨.inl ⟨id, rfl⟩, fun env rw A kb av g s fv vs hr F rf rs => by
    obtain ⟨v, _, rfl, r, u, _, rfl, r', rfl⟩ := rs; rw [rf.fn']; exact h env rw A kb av g s v u hr F r r'⟩
theorem CV.t1 {T : String} {d : D} (h : ∀ env rw A kb av g s v, Rm X env rw kb av A n → InF X env rw kb av g st s → R g d v → W X env A kb (call (.type T) [v]) (PV X env rw kb av g Q) s) : CV X n (.fn (.type T)) [d] Q st :=
  ⟨.inr (.inl ⟨T, rfl⟩), fun env rw A kb av g s fv vs hr F rf rs => by
    obtain ⟨v, _, rfl, r, rfl⟩ := rs; rw [rf.fn']; exact h env rw A kb av g s v hr F r⟩
theorem f_len {d : D} {xs : List D} (e : sq st.hp d = some xs) (hle : xs.length ≤ 16000000) (h : Q (.int xs.length) st) : CV X n (.fn (.builtin "len")) [d] Q st := CV.b1 fun _ _ _ _ _ _ _ _ _ F r => by
  obtain ⟨c, its, m, T, rfl, hT, hc, hrs⟩ := sq_real F.sat r e
  have hl := hrs.length
  simp only [Array.length_toList] at hl
  rw [← hl] at h
  rcases hT with rfl | rfl
  · exact Calls.call_len_list ⟨_, hc, rfl, m, rfl⟩ (by omega) (PV.tok F R.int_ h)
  · exact PySem.P.len_tuple hc (by omega) (PV.tok F R.int_ h)
theorem f_len_scr {ns : List Int} (hle : ns.length ≤ 16000000) (h : Q (.int ns.length) st) : CV X n (.fn (.builtin "len")) [.scr ns] Q st := CV.b1 fun _ _ _ _ _ _ _ _ _ F r => by
  obtain ⟨c, o, its, m, rfl, hg, hc, hd, hl, hi⟩ := r
  rw [← hl] at h
  exact Calls.call_len_list ⟨_, F.sat.gh _ _ hg, hc, m, hd⟩ (by omega) (PV.tok F R.int_ h)
theorem CV.isi {T : String} {d : D} (h : ∀ env rw A kb av g s v, Rm X env rw kb av A n → InF X env rw kb av g st s → R g d v → W X env A kb (call (.builtin "isinstance") [v, .type T]) (PV X env rw kb av g Q) s) : CV X n (.fn (.builtin "isinstance")) [d, .fn (.type T)] Q st :=
  CV.b2 fun env rw A kb av g s v u hr F r r' => by rw [r'.fn']; exact h env rw A kb av g s v hr F r
theorem s_int_int : isSubtype (.type "int") (.type "int") = pure true := by rw [isSubtype_type]; kernel_rfl
theorem s_int_bool : isSubtype (.type "int") (.type "bool") = pure false := by rw [isSubtype_type]; kernel_rfl
theorem s_list_list : isSubtype (.type "list") (.type "list") = pure true := by rw [isSubtype_type]; kernel_rfl
theorem append_ok (F : InF X env rw kb av g st s) {a : Addr} {d : D} {v : Value} {xs : List D} (r : R g d v) (e : st.hp a = some (.list xs)) (hle : xs.length ≤ 16000000)
    (h : Q .none ⟨st.loc, updH st.hp a (some (.list (xs ++ [d])))⟩) :
    wpAny (model X.prog X.w) A (call (.builtin "list.append") [.ref a, v]) (PV X env rw kb av g Q) E s := by
  obtain ⟨its, k, hc, hrs⟩ := (F.sat.hph _ _ e).1
  have hl := hrs.length
  simp only [Array.length_toList] at hl
  refine call_meets PySem.F.slot_list_append ⟨_, hc, rfl⟩ PySem.F.entry_list_append (PySem.F.args_list_append_2 _ _) (PySem.list_append a its k v (sizeLine_ge (by omega))) ⟨hc, ?_⟩
  refine ⟨g, _, _, Sub.rfl', F.setObj (mo' := .list (xs ++ [d])) e (Heap.SameBut.update ..) ⟨its.push v, _, Heap.get?_update_self _ hc rfl, ?_⟩, R.none_, h⟩
  rw [Array.toList_push]
  exact hrs.append (Rs.one r)
theorem f_isi_ii {i : Int} (h : Q (.bool true) st) : CV X n (.fn (.builtin "isinstance")) [.int i, .fn (.type "int")] Q st := CV.isi fun _ _ _ _ _ _ s _ _ F r => by
  obtain ⟨t, rfl⟩ := r.int'; exact call_isinstance (isinstance_true (Tx := "int") PySem.F.isi_meta_int s_int_int) ⟨(typeIs_int s _ _), PV.here F R.bool_ h⟩
theorem f_isi_ib {i : Int} (h : Q (.bool false) st) : CV X n (.fn (.builtin "isinstance")) [.int i, .fn (.type "bool")] Q st := CV.isi fun _ _ _ _ _ _ s _ _ F r => by
  obtain ⟨t, rfl⟩ := r.int'; exact call_isinstance (isinstance_false_int (by decide) PySem.F.isi_meta_bool s_int_bool) (PV.tok F R.bool_ h)
theorem f_isi_ll {d : D} {xs : List D} (e : lst st.hp d = some xs) (h : Q (.bool true) st) : CV X n (.fn (.builtin "isinstance")) [d, .fn (.type "list")] Q st := CV.isi fun _ _ _ _ _ _ s _ _ F r => by
  obtain ⟨c, its, m, rfl, hc, _⟩ := lst_real F.sat r e
  exact call_isinstance (isinstance_true (Tx := "list") PySem.F.isi_meta_list s_list_list) ⟨⟨_, hc, rfl⟩, PV.here F R.bool_ h⟩
theorem f_maxp [Hn X] {d : D} {xs : List D} {is : List Int} (e : lst st.hp d = some xs) (ei : intsOf xs = some is) (hne : is ≠ []) (h : ∀ M, M ∈ is → (∀ a ∈ is, a ≤ M) → Q (.int M) st) : CV X n (.fn (.builtin "max")) [d] Q st := CV.b1 fun _ _ _ _ _ _ _ _ hr F r => max_ok F hr r e ei hne h
theorem f_range1 {i : Int} (h1 : -1000000 < i) (h2 : i < 1000000) (h : Q (.rng 0 i) st) : CV X n (.fn (.type "range")) [.int i] Q st := CV.t1 fun _ _ _ _ _ _ _ _ _ F r => range1_ok F r h
theorem f_list {d : D} {xs : List D} (e : lst st.hp d = some xs) (h : New xs Q st) : CV X n (.fn (.type "list")) [d] Q st := CV.t1 fun _ _ _ _ _ _ _ _ _ F r => list_ok F r e h
/-! methods of lists -/
theorem meth_l {name : String} {id : String} {d : D} {xs : List D} (e : lst st.hp d = some xs) (h : ∀ (env : Env) (kb : Fz) (A : Around) (s : Shared) (c : Addr) (its : Array Value) (m : Nat) (Q' : Value × List Value → Shared → Prop) (pl : Sem Bool), s.heap.get? c = some { cls := .type "list", data := .seq its m } → Q' (.builtin id, [.ref c]) s → W X env A kb (getMethod (.ref c) (Str.ofString name) pl) Q' s) :
    Meth X d (Str.ofString name) (.fn (.builtin id)) st := fun env _ A kb av g s _ pl Q' F r hq => by
  obtain ⟨c, its, m, rfl, hc, _⟩ := lst_real F.sat r e
  exact h env kb A s c its m Q' pl hc (hq _ R.fn_)
theorem no_dict {s : Shared} {c : Addr} {its : Array Value} {m : Nat} (hc : s.heap.get? c = some { cls := .type "list", data := .seq its m }) : ∀ a, Value.ref c = .ref a → ∃ o, s.heap.get? a = some o ∧ o.dict = none := fun a e => by cases e; exact ⟨_, hc, rfl⟩
theorem meth_append {d : D} {xs : List D} (e : lst st.hp d = some xs) : Meth X d "append" (.fn (.builtin "list.append")) st := meth_l (name := "append") e fun _ _ _ _ _ _ _ _ _ hc h => getMethod_builtin ⟨_, hc, rfl⟩ PySem.F.plainAttrs_list PySem.F.slot_list_append PySem.F.type_list_append (no_dict hc) h
theorem f_append {a : Addr} {d : D} {xs : List D} (hs : hp a = some (.list xs)) (hl : xs.length ≤ 16000000) (h : Q .none ⟨loc, updH hp a (some (.list (xs ++ [d])))⟩) : CV X n (.fn (.builtin "list.append")) [.addr a, d] Q ⟨loc, hp⟩ := CV.b2 fun env rw A kb av g s v u hr F r r' => by
  rw [r.addr']
  exact append_ok F r' hs hl h
end
end Mine

namespace Mine
open PySem PySem.W PyProof.Rows PySem.Spec
open Classical in
noncomputable def addK (X : Cx) (kb : Fz) (P : Addr → Prop) (h : Heap) : Fz := fun b => if P b then X.get h b else kb b
section
variable {X : Cx} {env : Env} {rw : Bool} {n : Nat} {A : Around} {kb : Fz} {av : Addr → Prop} {g g' : Fz} {st st' : St} {s s' : Shared} {hp hp' : Hp} {E : Value → Shared → Prop} {P : Addr → Prop}
theorem addK_of {h : Heap} {b : Addr} (hb : P b) : addK X kb P h b = X.get h b := by unfold addK; rw [if_pos hb]
theorem addK_not {h : Heap} {b : Addr} (hb : ¬ P b) : addK X kb P h b = kb b := by unfold addK; rw [if_neg hb]
theorem Sat.up (S : Sat X kb av g hp s) {b : Addr} {o : Obj} (e : kb b = some o) : addK X kb P s.heap b = some o := by
  by_cases h : P b
  · rw [addK_of h]; exact S.kbh b o e
  · rw [addK_not h]; exact e
theorem Sat.push (S : Sat X kb av g hp s) (hP : ∀ b, P b → (∃ o, s.heap.get? b = some o) ∧ g b = none ∧ hp b = none) :
    Sat X (addK X kb P s.heap) (fun b => av b ∨ P b) g hp s where
  gens := S.gens
  os := S.os
  drawn := S.drawn
  top := fun b o e => S.up (S.top b o e)
  kbh := fun b o e => by
    by_cases h : P b
    · rw [addK_of h] at e; exact e
    · rw [addK_not h] at e; exact S.kbh b o e
  gh := S.gh
  avk := fun b hb => by
    rcases hb with hb | hb
    · obtain ⟨o, ho⟩ := Option.isSome_iff_exists.mp (S.avk b hb)
      rw [S.up ho]; rfl
    · obtain ⟨⟨o, ho⟩, _⟩ := hP b hb
      rw [addK_of hb, get_of ho]; rfl
  gav := fun b hb => hb.elim (S.gav b) fun h => (hP b h).2.1
  hph := fun a mo e => by
    obtain ⟨h1, h2, h3⟩ := S.hph a mo e
    refine ⟨h1, ?_, h3⟩
    rw [addK_not fun h => by rw [(hP a h).2.2] at e; cases e]; exact h2
  fza := fun b hb => .inl (S.fza b hb)
  fzT := S.fzT
theorem Sat.pop (S : Sat X kb av g hp s) (S' : Sat X (addK X kb P s.heap) (fun b => av b ∨ P b) g' hp' s') (hP : ∀ b, P b → (∃ o, s.heap.get? b = some o) ∧ ¬ X.fz b) :
    Sat X kb av g' hp' s' ∧ ∀ b, P b → s'.heap.get? b = s.heap.get? b ∧ g' b = none ∧ hp' b = none := by
  refine ⟨⟨S'.gens, S'.os, S'.drawn, S.top, fun b o e => S'.kbh b o (S.up e), S'.gh, S.avk, fun b hb => S'.gav b (.inl hb), fun a mo e => ?_, S.fza, S.fzT⟩, fun b hb => ?_⟩
  · obtain ⟨h1, h2, h3⟩ := S'.hph a mo e
    refine ⟨h1, ?_, h3⟩
    cases q : kb a with
    | none => rfl
    | some o => rw [S.up q] at h2; cases h2
  · obtain ⟨⟨o, ho⟩, hz⟩ := hP b hb
    have eq1 := S'.kbh b o (by rw [addK_of hb, get_not hz]; exact ho)
    rw [get_not hz] at eq1
    refine ⟨eq1.trans ho.symm, S'.gav b (.inr hb), ?_⟩
    cases q : hp' b with
    | none => rfl
    | some mo =>
      have := (S'.hph b mo q).2.1
      rw [addK_of hb, get_of ho] at this; cases this
structure Loose (env : Env) (kb g : Fz) (hp : Hp) (s : Shared) (a : Addr) : Prop where
  k : kb a = none
  g : g a = none
  h : hp a = none
  o : ¬ Own env a
  ex : ∃ o, s.heap.get? a = some o
theorem InF.loose (F : InF X env rw kb av g st s) {a : Addr} (ha : s.heap.get? a = none) (hs : ∃ o, s'.heap.get? a = some o) : Loose env kb g st.hp s' a :=
  ⟨F.sat.fresh_kb ha, F.sat.fresh_g ha, F.sat.fresh_hp ha, (fun h => by obtain ⟨o, ho⟩ := F.own_some h; rw [ha] at ho; cases ho), hs⟩
theorem Loose.keeps {a : Addr} (L : Loose env kb g hp s a) (hk : ∀ b o, s.heap.get? b = some o → s'.heap.get? b = some o) : Loose env kb g hp s' a :=
  let ⟨o, ho⟩ := L.ex; ⟨L.k, L.g, L.h, L.o, o, hk _ _ ho⟩
theorem InF.push (F : InF X env rw kb av g st s) (hP : ∀ b, P b → Loose env kb g st.hp s b) : InF X env rw (addK X kb P s.heap) (fun b => av b ∨ P b) g st s where
  sat := F.sat.push fun b h => ⟨(hP b h).ex, (hP b h).g, (hP b h).h⟩
  ok := F.ok
  ns := F.ns
  Lk := by rw [addK_not fun h => (hP _ h).o (.inl rfl)]; exact F.Lk
  Lg := F.Lg
  Lh := F.Lh
  cell := fun x c h1 h2 => by
    obtain ⟨vo, a1, a2, a3, a4, a5, a6⟩ := F.cell x c h1 h2
    exact ⟨vo, a1, a2, a3, a4, a5, fun hw => by rw [addK_not fun h => (hP _ h).o (.inr ⟨x, h1, h2⟩)]; exact a6 hw⟩
  apart := F.apart
  lg := F.lg
  nfz := F.nfz
theorem InF.pop (F : InF X env rw kb av g st s) (F' : InF X env rw (addK X kb P s.heap) (fun b => av b ∨ P b) g' st' s') (hP : ∀ b, P b → Loose env kb g st.hp s b) :
    InF X env rw kb av g' st' s' ∧ ∀ b, P b → s'.heap.get? b = s.heap.get? b ∧ Loose env kb g' st'.hp s' b := by
  obtain ⟨S, hS⟩ := F.sat.pop F'.sat fun b h => ⟨(hP b h).ex, F.sat.nfz (hP b h).k⟩
  refine ⟨⟨S, F.ok, F'.ns, F.Lk, F'.Lg, F'.Lh, fun x c h1 h2 => ?_, F.apart, F'.lg, F.nfz⟩, fun b hb => ?_⟩
  · obtain ⟨vo, a1, a2, a3, a4, a5, a6⟩ := F'.cell x c h1 h2
    obtain ⟨_, _, _, _, _, _, b6⟩ := F.cell x c h1 h2
    exact ⟨vo, a1, a2, a3, a4, a5, b6⟩
  · obtain ⟨h1, h2, h3⟩ := hS b hb
    obtain ⟨o, ho⟩ := (hP b hb).ex
    exact ⟨h1, (hP b hb).k, h2, h3, (hP b hb).o, o, h1.trans ho⟩
theorem InF.extI (F : InF X env rw kb av g st s) {a : Addr} (L : Loose env kb g st.hp s a) (hk : ∀ b o, b ≠ a → s.heap.get? b = some o → s'.heap.get? b = some o)
    (h1 : s'.gens = s.gens := by rfl) (h2 : s'.os = s.os := by rfl) (h3 : s'.drawn = s.drawn := by rfl) : InF X env rw kb av g st s' := by
  have S := F.sat.extBut (s' := s') L.k L.g hk h1 h2 h3
  have e : updH st.hp a none = st.hp := by funext b; unfold updH; split; · rename_i q; rw [q, L.h]
                                           · rfl
  rw [e] at S
  exact F.next S Sub.rfl' (fun b hb o e => hk b o (fun q => L.o (q ▸ hb)) e) (fun _ h => F.own_g h) (fun _ h => F.own_hp h)
theorem InF.take (F : InF X env rw kb av g st s) {a : Addr} (L : Loose env kb g st.hp s a) {xs : List D} {its : Array Value} {k : Nat} {Q : D → St → Prop} (ho : s.heap.get? a = some { cls := .type "list", data := .seq its k })
    (hs : Rs g xs its.toList) (h : New xs Q st) : PV X env rw kb av g Q (.ref a) s := by
  rcases h.2 with h | h
  · have sub := Sub.updG (o := { cls := .type "list", data := .seq its k }) L.g
    refine ⟨_, _, st, sub, F.next (F.sat.grow ho L.k L.h L.g) sub (fun _ _ _ e => e) (fun b hb => ?_) (fun _ h => F.own_hp h), ?_, h⟩
    · unfold updG; rw [if_neg fun (q : b = a) => L.o (q ▸ hb)]; exact F.own_g hb
    · change ∃ _, _
      exact ⟨_, its, rfl, ⟨k, by unfold updG; rw [if_pos rfl]⟩, hs.sub sub⟩
  · refine ⟨g, _, _, Sub.rfl', F.next (F.sat.put (mo := .list xs) L.k L.g ⟨its, k, ho, hs⟩) Sub.rfl' (fun _ _ _ e => e) (fun _ h => F.own_g h) (fun b hb => ?_), R.addr_, h _ L.h⟩
    unfold updH; rw [if_neg fun (q : b = a) => L.o (q ▸ hb)]; exact F.own_hp hb
def ItAt (src : D) (v : Value) (I : Addr) (i : Nat) (h : Heap) : Prop := match src with
  | .rng a b => IsRangeIter h I (a + i) (((b - a).toNat : Int) - i) 1
  | .tup _ => ∃ ax, v = .ref ax ∧ h.IsTupleIter I ax i
  | .dk a n ep => ∃ ax, v = .ref ax ∧ h.IsKeyIter I a i n ep
  | _ => ∃ ax, v = .ref ax ∧ h.IsListIter I ax i
theorem ItAt.at' {src : D} {v : Value} {I : Addr} {i : Nat} {h h' : Heap} (x : ItAt src v I i h) (e : h'.get? I = h.get? I) : ItAt src v I i h' := by
  cases src <;> simp only [ItAt] at x ⊢ <;> first | (obtain ⟨ax, rfl, o, h1, h2⟩ := x; exact ⟨ax, rfl, o, e.trans h1, h2⟩) | exact e.trans x
theorem items_cases {src : D} {xs : List D} (e : itemsOf hp src = some xs) :
    (∃ a b, src = .rng a b ∧ ((-1000000 < a ∧ a < 1000000) ∧ (-1000000 < b ∧ b < 1000000)) ∧ xs = (List.range (b - a).toNat).map fun (k : Nat) => D.int (a + k)) ∨
    (src = .tup xs) ∨ (∃ a ep es, src = .dk a es.length ep ∧ hp a = some (.dicte es ep) ∧ xs = es.map fun e => D.int e.1) ∨ (lst hp src = some xs ∧ ∀ v I i h, ItAt src v I i h ↔ ∃ ax, v = .ref ax ∧ h.IsListIter I ax i) := by
  unfold itemsOf at e
  split at e
  · cases e; exact .inr (.inr (.inr ⟨rfl, fun _ _ _ _ => Iff.rfl⟩))
  · cases e; exact .inr (.inl rfl)
  · split at e
    · cases e; rename_i a b h; exact .inl ⟨a, b, rfl, h, rfl⟩
    · cases e
  · split at e
    · cases e; rename_i q; exact .inr (.inr (.inr ⟨by simp only [lst, q], fun _ _ _ _ => Iff.rfl⟩))
    · cases e
  · split at e
    · split at e
      · rename_i h; obtain ⟨rfl, rfl⟩ := h; cases e; rename_i q; exact .inr (.inr (.inl ⟨_, _, _, rfl, q, rfl⟩))
      · cases e
    · cases e
  · cases e
theorem it_new (F : InF X env rw kb av g st s) {src : D} {v : Value} {xs : List D} (r : R g src v) (e : itemsOf st.hp src = some xs) :
    wpAny (model X.prog X.w) A (pyIter v) (fun it s' => ∃ I, it = .ref I ∧ InF X env rw kb av g st s' ∧ Loose env kb g st.hp s' I ∧ ItAt src v I 0 s'.heap ∧ (∀ b o, s.heap.get? b = some o → s'.heap.get? b = some o)) E s := by
  have hk : ∀ o b o', s.heap.get? b = some o' → (s.heap.push o).get? b = some o' := fun o b o' e => Heap.get?_push_of_some _ e
  rcases items_cases e with ⟨a, b, rfl, hb, rfl⟩ | rfl | ⟨a, ep, es, rfl, ha, rfl⟩ | ⟨hl, hit⟩
  · obtain ⟨c, t, u, w, rfl, hg⟩ := r
    have hn : Builtin.Range.rangeSize a b 1 = ((b - a).toNat : Int) := by rw [rangeSize_one]; split <;> omega
    refine wpAny_pyIter_range (F.sat.gh _ _ hg) (small_rng (by omega) (by omega) (by omega) (by omega)) ?_
    refine ⟨_, rfl, F.keeps (hk _), F.loose (get?_size _) ⟨_, Heap.get?_push_size _ rfl⟩, ?_, hk _⟩
    simp only [ItAt]
    refine (Heap.get?_push_size _ rfl).trans ?_
    rw [hn]; simp
  · obtain ⟨c, its, rfl, ⟨k, hg⟩, hrs⟩ := r.tup'
    refine wpAny_pyIter_tuple ⟨_, F.sat.gh _ _ hg, rfl, ⟨k, rfl⟩⟩ ?_
    refine ⟨_, rfl, F.keeps (hk _), F.loose (get?_size _) ⟨_, Heap.get?_push_size _ rfl⟩, ?_, hk _⟩
    simp only [ItAt]
    exact ⟨_, rfl, _, Heap.get?_push_size _ rfl, rfl, rfl⟩
  · obtain rfl : v = .ref a := r
    obtain ⟨hs, kvs, hd, hkv⟩ := (F.sat.hph _ _ ha).1
    refine wpAny_pyIter_dict hs hd ?_
    refine ⟨_, rfl, F.keeps (hk _), F.loose (get?_size _) ⟨_, Heap.get?_push_size _ rfl⟩, ?_, hk _⟩
    simp only [ItAt]
    refine ⟨_, rfl, _, Heap.get?_push_size _ rfl, rfl, ?_⟩
    rw [← hkv.len]; rfl
  · obtain ⟨c, its, m, rfl, hc, hrs⟩ := lst_real F.sat r hl
    refine wpAny_pyIter_list ⟨_, hc, rfl, ⟨m, rfl⟩⟩ ?_
    refine ⟨_, rfl, F.keeps (hk _), F.loose (get?_size _) ⟨_, Heap.get?_push_size _ rfl⟩, ?_, hk _⟩
    rw [hit]
    exact ⟨_, rfl, _, Heap.get?_push_size _ rfl, rfl, rfl⟩
theorem it_self {src : D} {v : Value} {I : Addr} {i : Nat} {Q : Value → Shared → Prop} (h : ItAt src v I i s.heap) (hq : Q (.ref I) s) : wpAny (model X.prog X.w) A (pyIter (.ref I)) Q E s := by
  cases src <;> simp only [ItAt] at h <;> first | (obtain ⟨ax, rfl, h⟩ := h; exact wpAny_pyIter_listiter h hq) | (obtain ⟨ax, rfl, h⟩ := h; exact wpAny_pyIter_tupleiter h hq) | (obtain ⟨ax, rfl, h⟩ := h; exact wpAny_pyIter_keyiter h hq) | exact wpAny_pyIter_rangeiter h hq
theorem it_item (F : InF X env rw kb av g st s) {src : D} {v : Value} {xs : List D} {I : Addr} {i : Nat} {y : D} (r : R g src v) (e : itemsOf st.hp src = some xs) (L : Loose env kb g st.hp s I) (h : ItAt src v I i s.heap) (hi : xs[i]? = some y) :
    wpAny (model X.prog X.w) A (pyNext (.ref I)) (fun q s' => ∃ u, q = some u ∧ R g y u ∧ InF X env rw kb av g st s' ∧ Loose env kb g st.hp s' I ∧ ItAt src v I (i + 1) s'.heap ∧ (∀ b o, b ≠ I → s.heap.get? b = some o → s'.heap.get? b = some o)) E s := by
  rcases items_cases e with ⟨a, b, rfl, hb, rfl⟩ | rfl | ⟨a, ep, es, rfl, ha, rfl⟩ | ⟨hl, hit⟩
  · simp only [ItAt] at h
    rw [List.getElem?_map] at hi
    obtain ⟨k, e1, rfl⟩ := Option.map_eq_some_iff.mp hi
    obtain ⟨q1, q2⟩ := List.getElem?_eq_some_iff.mp e1
    simp at q1 q2
    subst q2
    refine wpAny_pyNext_range_item h (by omega) fun h' hit' hs => ?_
    refine ⟨_, rfl, R.int_, F.extI (s' := { s with heap := h', toks := s.toks + 1 }) L (fun b o hb e => hs.extBut b o hb e), ⟨L.k, L.g, L.h, L.o, _, hit'⟩, ?_, fun b o hb e => hs.extBut b o hb e⟩
    simp only [ItAt]
    refine hit'.trans ?_
    have e1 : a + (i : Int) + 1 = a + ((i + 1 : Nat) : Int) := by omega
    have e2 : ((b - a).toNat : Int) - (i : Int) - 1 = ((b - a).toNat : Int) - ((i + 1 : Nat) : Int) := by omega
    rw [e1, e2]
  · obtain ⟨c, its, rfl, ⟨k, hg⟩, hrs⟩ := r.tup'
    simp only [ItAt] at h
    obtain ⟨ax, e2, h⟩ := h
    cases e2
    obtain ⟨u, hu, ru⟩ := hrs.get hi
    refine wpAny_pyNext_tuple_item h ⟨_, F.sat.gh _ _ hg, rfl, ⟨k, rfl⟩⟩ (x := u) (by rw [← Array.getElem?_toList]; exact hu) fun h' hit' hs => ?_
    refine ⟨_, rfl, ru, F.extI (s' := { s with heap := h' }) L (fun b o hb e => hs.extBut b o hb e), ⟨L.k, L.g, L.h, L.o, let ⟨o, ho, _⟩ := hit'; ⟨o, ho⟩⟩, ?_, fun b o hb e => hs.extBut b o hb e⟩
    simp only [ItAt]
    exact ⟨_, rfl, hit'⟩
  · obtain rfl : v = .ref a := r
    simp only [ItAt] at h
    obtain ⟨ax, e2, h⟩ := h
    cases e2
    obtain ⟨hs, kvs, hd, hkv⟩ := (F.sat.hph _ _ ha).1
    rw [List.getElem?_map] at hi
    obtain ⟨kd, e1, rfl⟩ := Option.map_eq_some_iff.mp hi
    obtain ⟨vv, hvv⟩ := hkv.get_key e1
    rw [hkv.len] at h
    refine wpAny_pyNext_dict_item h hd hvv fun key h' hkey hit' hs' => ?_
    obtain ⟨t, rfl⟩ := intKind_is hkey
    refine ⟨_, rfl, R.int_, F.extI (s' := { s with heap := h' }) L (fun b o hb e => hs'.extBut b o hb e), ⟨L.k, L.g, L.h, L.o, let ⟨o, ho, _⟩ := hit'; ⟨o, ho⟩⟩, ?_, fun b o hb e => hs'.extBut b o hb e⟩
    simp only [ItAt]
    rw [hkv.len]
    exact ⟨_, rfl, hit'⟩
  · obtain ⟨c, its, m, rfl, hc, hrs⟩ := lst_real F.sat r hl
    obtain ⟨ax, e2, h⟩ := (hit _ _ _ _).mp h
    cases e2
    obtain ⟨u, hu, ru⟩ := hrs.get hi
    refine wpAny_pyNext_list_item h ⟨_, hc, rfl, ⟨m, rfl⟩⟩ (x := u) (by rw [← Array.getElem?_toList]; exact hu) fun h' hit' hs => ?_
    refine ⟨_, rfl, ru, F.extI (s' := { s with heap := h' }) L (fun b o hb e => hs.extBut b o hb e), ⟨L.k, L.g, L.h, L.o, let ⟨o, ho, _⟩ := hit'; ⟨o, ho⟩⟩, ?_, fun b o hb e => hs.extBut b o hb e⟩
    rw [hit]
    exact ⟨_, rfl, hit'⟩
theorem it_end (F : InF X env rw kb av g st s) (hh : A.handled = none) {src : D} {v : Value} {xs : List D} {I : Addr} (r : R g src v) (e : itemsOf st.hp src = some xs) (L : Loose env kb g st.hp s I) (h : ItAt src v I xs.length s.heap) :
    wpAny (model X.prog X.w) A (pyNext (.ref I)) (fun q s' => q = none ∧ InF X env rw kb av g st s' ∧ (∀ b o, b ≠ I → s.heap.get? b = some o → s'.heap.get? b = some o)) E s := by
  rcases items_cases e with ⟨a, b, rfl, hb, rfl⟩ | rfl | ⟨a, ep, es, rfl, ha, rfl⟩ | ⟨hl, hit⟩
  · simp only [ItAt] at h
    simp only [List.length_map, List.length_range] at h
    refine wpAny_pyNext_range_end hh h (by omega) fun h' hs => ?_
    exact ⟨rfl, F.extI (s' := { s with heap := h' }) L (fun b o hb e => hs b o hb e), fun b o hb e => hs b o hb e⟩
  · obtain ⟨c, its, rfl, ⟨k, hg⟩, hrs⟩ := r.tup'
    simp only [ItAt] at h
    obtain ⟨ax, e2, h⟩ := h
    cases e2
    have hl := hrs.length
    refine wpAny_pyNext_tuple_end hh h ⟨_, F.sat.gh _ _ hg, rfl, ⟨k, rfl⟩⟩ (by simp at hl ⊢; omega) fun h' hs => ?_
    exact ⟨rfl, F.extI (s' := { s with heap := h' }) L (fun b o hb e => hs b o hb e), fun b o hb e => hs b o hb e⟩
  · obtain rfl : v = .ref a := r
    simp only [ItAt] at h
    obtain ⟨ax, e2, h⟩ := h
    cases e2
    obtain ⟨hs, kvs, hd, hkv⟩ := (F.sat.hph _ _ ha).1
    rw [List.length_map, hkv.len] at h
    refine wpAny_pyNext_dict_end hh h hd (by simp) fun h' hs' => ?_
    exact ⟨rfl, F.extI (s' := { s with heap := h' }) L (fun b o hb e => hs' b o hb e), fun b o hb e => hs' b o hb e⟩
  · obtain ⟨c, its, m, rfl, hc, hrs⟩ := lst_real F.sat r hl
    obtain ⟨ax, e2, h⟩ := (hit _ _ _ _).mp h
    cases e2
    have hl := hrs.length
    refine wpAny_pyNext_list_end hh h ⟨_, hc, rfl, ⟨m, rfl⟩⟩ (by simp at hl ⊢; omega) fun h' hs => ?_
    exact ⟨rfl, F.extI (s' := { s with heap := h' }) L (fun b o hb e => hs b o hb e), fun b o hb e => hs b o hb e⟩
end
def compG (F : D → (Option D → St → Prop) → St → Prop) (src : D) (xs : List D) : List D → List D → (List D → St → Prop) → St → Prop
  | [], acc, K, st => itemsOf st.hp src = some xs ∧ K acc st
  | y :: ys, acc, K, st => itemsOf st.hp src = some xs ∧ F y (fun r st' => compG F src xs ys (match r with | some v => acc ++ [v] | none => acc) K st') st

def wpIfs (X : Cx) (n : Nat) (ifs : List Expr) (K : Bool → St → Prop) (st : St) : Prop := ∀ env, okEs X.isG env.scope.names ifs = true →
  SndB X env false n (forIn ifs true fun c r => if r = true then do let ok ← isTrue c env (eval c env); pure (ForInStep.yield ok) else pure (ForInStep.yield r)) K st
abbrev kSome (K : Option D → St → Prop) : D → St → Prop := fun v st => K (some v) st
def cbK (X : Cx) (n : Nat) (elt : Expr) (KO : Option D → St → Prop) : Bool → St → Prop := fun b st => if b = true then wpE X n elt (kSome KO) st else KO none st
def cmpF (X : Cx) (n : Nat) (ifs : List Expr) (elt : Expr) (x : Str) (loc : Str → Option D) : D → (Option D → St → Prop) → St → Prop := fun y K st' => wpIfs X n ifs (cbK X n elt K) ⟨updC loc x y, st'.hp⟩
abbrev kComp (X : Cx) (n : Nat) (ifs : List Expr) (elt : Expr) (x : Str) (Q : D → St → Prop) : D → St → Prop := fun src st => ∃ xs, itemsOf st.hp src = some xs ∧ xs.length ≤ 16000000 ∧ compG (cmpF X n ifs elt x st.loc) src xs xs [] (fun ds st' => New ds Q ⟨st.loc, st'.hp⟩) st
theorem closure_list (env : Env) : ∀ (l : List (Str × NameKind)) (cs : List (Str × Addr)), (∀ y ∈ l, y.2 = .free → ∃ c, env.cells.lookup y.1 = some c) → (∀ y c, cs.lookup y = some c → env.cells.lookup y = some c) →
    ∃ cl : List (Str × Addr), (forIn l cs fun (x : Str × NameKind) (r : List (Str × Addr)) => (match x with | (name, kind) => if (kind == NameKind.free) = true then do let a ← cellOf env name; pure (ForInStep.yield ((name, a) :: r)) else pure (ForInStep.yield r) : Sem (ForInStep (List (Str × Addr))))) = (pure cl : Sem (List (Str × Addr))) ∧
      (∀ y c, cl.lookup y = some c → env.cells.lookup y = some c) ∧ (∀ y, (y, NameKind.free) ∈ l → ∃ c, cl.lookup y = some c) ∧ (∀ y, (∃ c, cs.lookup y = some c) → ∃ c, cl.lookup y = some c)
  | [], cs, h, h' => ⟨cs, rfl, h', by simp, fun _ x => x⟩
  | (nm, k) :: l, cs, h, h' => by
    rw [List.forIn_cons]
    by_cases hk : k = .free
    · obtain ⟨c, hc⟩ := h (nm, k) List.mem_cons_self hk
      obtain ⟨cl, e1, e2, e3, e4⟩ := closure_list env l ((nm, c) :: cs) (fun y hy => h y (List.mem_cons_of_mem _ hy)) (fun y c' hy => by
        rw [List.lookup_cons] at hy
        split at hy
        · rename_i q; cases hy; rw [beq_iff_eq.mp q]; exact hc
        · exact h' y c' hy)
      refine ⟨cl, ?_, e2, fun y hy => ?_, fun y hy => ?_⟩
      · subst hk
        simp only [cellOf, hc]
        exact e1
      · rcases List.mem_cons.mp hy with q | q
        · cases q; exact e4 _ ⟨c, by rw [List.lookup_cons]; simp⟩
        · exact e3 y q
      · obtain ⟨c', hy⟩ := hy
        refine e4 y ?_
        rw [List.lookup_cons]
        split
        · exact ⟨_, rfl⟩
        · exact ⟨c', hy⟩
    · obtain ⟨cl, e1, e2, e3, e4⟩ := closure_list env l cs (fun y hy => h y (List.mem_cons_of_mem _ hy)) h'
      refine ⟨cl, ?_, e2, fun y hy => ?_, e4⟩
      · have : (k == NameKind.free) = false := by simpa using hk
        simp only [this, Bool.false_eq_true, if_false]
        exact e1
      · rcases List.mem_cons.mp hy with q | q
        · cases q; exact absurd rfl hk
        · exact e3 y q

theorem closure_ok {env : Env} {scope : Scope} (h : ∀ y ∈ scope.names, y.2 = .free → ∃ c, env.cells.lookup y.1 = some c) :
    ∃ cl, closureFor scope env = pure cl ∧ (∀ y c, cl.lookup y = some c → env.cells.lookup y = some c) ∧ (∀ y, (y, NameKind.free) ∈ scope.names → ∃ c, cl.lookup y = some c) := by
  obtain ⟨cl, e1, e2, e3, _⟩ := closure_list env scope.names [] h (by simp)
  refine ⟨cl, ?_, e2, e3⟩
  unfold closureFor
  simp only [bind_pure]
  exact e1

theorem relab_mem {names : Names} : ∀ {l : Names} {y : Str} {k : NameKind}, (l.map fun (p : Str × NameKind) => match p with | (n, k) => if k == .free && names.lookup n == some .cell then (n, NameKind.cell) else (n, k)).lookup y = some k →
    (y, k) ∈ l ∨ ((y, NameKind.free) ∈ l ∧ k = .cell ∧ names.lookup y = some .cell)
  | [], y, k, h => by simp at h
  | (nm, k') :: l, y, k, h => by
    rw [List.map_cons, List.lookup_cons] at h
    by_cases q : (k' == NameKind.free && names.lookup nm == some NameKind.cell) = true
    · simp only [q, if_true] at h
      split at h
      · rename_i e
        cases h
        have := beq_iff_eq.mp e
        subst this
        simp only [Bool.and_eq_true, beq_iff_eq] at q
        refine .inr ⟨?_, rfl, q.2⟩
        rw [q.1]; exact List.mem_cons_self
      · rcases relab_mem h with e | e
        · exact .inl (List.mem_cons_of_mem _ e)
        · exact .inr ⟨List.mem_cons_of_mem _ e.1, e.2⟩
    · simp only [q] at h
      split at h
      · rename_i e
        cases h
        have := beq_iff_eq.mp e
        subst this
        exact .inl List.mem_cons_self
      · rcases relab_mem h with e | e
        · exact .inl (List.mem_cons_of_mem _ e)
        · exact .inr ⟨List.mem_cons_of_mem _ e.1, e.2⟩

theorem relabel_names {scope : Scope} {env : Env} (hk : env.scope.kind = .function) : (relabel scope env).names = relab env.scope.names scope := by
  unfold relabel relab
  simp only [hk, Env.kindOf]
  congr 1
  funext ⟨n, k⟩
  simp

structure OkScope (names : Names) (scope : Scope) (x : Str) : Prop where
  kind : scope.kind = .function
  ncell : ∀ y ∈ scope.names, y.2 ≠ .cell
  xl : scope.names.lookup x = some .local
  loc : ∀ y ∈ scope.names, y.2 = .local → scope.names.lookup y.1 = some .local
  free : ∀ y ∈ scope.names, y.2 = .free → names.lookup y.1 = some .cell
  only : ∀ y ∈ scope.names, y.2 = .local → y.1 = x ∨ y.1 = (".0" : Str)

theorem okScope_of {names : Names} {scope : Scope} {x : Str} (h : okScope names scope x = true) : OkScope names scope x := by
  simp only [okScope, Bool.and_eq_true, List.all_eq_true, bne_iff_ne, beq_iff_eq, Bool.or_eq_true] at h
  obtain ⟨⟨⟨⟨⟨h1, h2⟩, h3⟩, h4⟩, h5⟩, h6⟩ := h
  refine ⟨h1, h2, h3, fun y hy e => ?_, fun y hy e => ?_, fun y hy e => ?_⟩
  · rcases h4 y hy with q | q
    · exact absurd e q
    · exact q
  · rcases h5 y hy with q | q
    · exact absurd e q
    · exact q
  · rcases h6 y hy with q | q
    · exact absurd e q
    · exact q

section
variable {X : Cx} {env : Env} {rw : Bool} {n : Nat} {A : Around} {kb : Fz} {av : Addr → Prop} {g g' : Fz} {st st' : St} {s s' : Shared} {scope : Scope} {x : Str} {cl : List (Str × Addr)} {C I Dd : Addr}

theorem cenv_names (F : InF X env rw kb av g st s) : (compEnvC scope cl C env).scope.names = relab env.scope.names scope := relabel_names F.ok.kind

structure ClOk (env : Env) (scope : Scope) (cl : List (Str × Addr)) : Prop where
  sub : ∀ y c, cl.lookup y = some c → env.cells.lookup y = some c
  all : ∀ y, (y, NameKind.free) ∈ scope.names → ∃ c, cl.lookup y = some c

theorem cenv_ok (F : InF X env rw kb av g st s) (hs : OkScope env.scope.names scope x) (hc : ClOk env scope cl) : EnvOk (compEnvC scope cl C env) where
  kind := hs.kind
  globals := F.ok.globals
  builtins := F.ok.builtins
  cel := fun y hy => by
    unfold Env.kindOf at hy
    rw [cenv_names F] at hy
    rcases relab_mem hy with q | q
    · exact absurd rfl (hs.ncell _ q)
    · exact hc.all y q.1

abbrev inC (env : Env) (I Dd : Addr) : Addr → Prop := fun b => Own env b ∨ b = I ∨ b = Dd

theorem enter_comp (F : InF X env rw kb av g st s) (hs : OkScope env.scope.names scope x) (hc : ClOk env scope cl) (LC : Loose env kb g st.hp s C) (LI : Loose env kb g st.hp s I) (LD : Loose env kb g st.hp s Dd) (hCI : C ≠ I) (hCD : C ≠ Dd)
    {m : Str → Option Value} (hn : s.heap.Ns C m) {u : Value} {y : D} (hx : m x = some u) (r : R g y u) (hgx : X.G x = none) :
    InF X (compEnvC scope cl C env) false (addK X kb (inC env I Dd) s.heap) (fun b => av b ∨ inC env I Dd b) g ⟨updC st.loc x y, st.hp⟩ s where
  sat := F.sat.push fun b hb => by
    rcases hb with hb | rfl | rfl
    · exact ⟨F.own_some hb, F.own_g hb, F.own_hp hb⟩
    · exact ⟨LI.ex, LI.g, LI.h⟩
    · exact ⟨LD.ex, LD.g, LD.h⟩
  ok := cenv_ok F hs hc
  ns := by
    refine ⟨m, hn, fun z d hz hd => ?_⟩
    unfold Env.kindOf at hz
    rw [cenv_names F] at hz
    rcases relab_mem hz with q | q
    · rcases hs.only _ q rfl with e | e
      · simp only at e
        subst e
        simp only [updC, if_true, Option.some.injEq] at hd
        subst hd
        exact ⟨u, hx, r⟩
      · simp only at e
        subst e
        simp only [updC] at hd
        split at hd
        · rename_i e; cases hd; rw [e]; exact ⟨u, hx, r⟩
        · simp at hd
    · cases q.2.1
  Lk := by
    show addK X kb (inC env I Dd) s.heap C = none
    rw [addK_not (fun h => h.elim LC.o fun h => h.elim hCI hCD)]
    exact LC.k
  Lg := LC.g
  Lh := LC.h
  cell := fun z c hz hcz => by
    unfold Env.kindOf at hz
    rw [cenv_names F] at hz
    rcases relab_mem hz with q | q
    · exact absurd rfl (hs.ncell _ q)
    · have hz' : env.kindOf z = some .cell := q.2.2
      obtain ⟨vo, a1, a2, a3, a4, a5, a6⟩ := F.cell z c hz' (hc.sub z c hcz)
      refine ⟨vo, a1, fun d hd => ?_, ?_, a4, a5, fun h => by cases h⟩
      · simp only [updC] at hd
        split at hd
        · rename_i e; subst e
          have q := lookup_relab_local (names := env.scope.names) hs.xl
          rw [show List.lookup z (relab env.scope.names scope) = some .local from q] at hz; cases hz
        · split at hd
          · cases hd
          · exact a2 d hd
      · rintro rfl
        exact LC.o (.inr ⟨z, hz', hc.sub z _ hcz⟩)
  apart := fun h => by cases h
  lg := fun z d hd => by
    have hd : updC st.loc x y z = some d := hd
    unfold updC at hd
    split at hd
    · rename_i e; rw [e]; exact hgx
    · split at hd
      · cases hd
      · exact F.lg z d hd
  nfz := fun z c hz hcz => by
    unfold Env.kindOf at hz
    rw [cenv_names F] at hz
    rcases relab_mem hz with q | q
    · exact absurd rfl (hs.ncell _ q)
    · exact F.nfz z c q.2.2 (hc.sub z c hcz)
where
  lookup_relab_local {names : Names} : ∀ {l : Names} {y : Str}, l.lookup y = some .local → (l.map fun (p : Str × NameKind) => match p with | (n, k) => if k == .free && names.lookup n == some .cell then (n, NameKind.cell) else (n, k)).lookup y = some .local
  | [], _, h => by simp at h
  | (n', k) :: r, y, h => by
    rw [List.map_cons]
    rw [List.lookup_cons] at h
    split at h
    · cases h
      rename_i e
      simp [List.lookup_cons, e]
    · rename_i e
      have ih := lookup_relab_local (names := names) h
      dsimp only
      split <;> rw [List.lookup_cons, e] <;> exact ih

theorem leave_comp (F : InF X env rw kb av g st s) (LC : Loose env kb g st.hp s C) (LI : Loose env kb g st.hp s I) (LD : Loose env kb g st.hp s Dd) (sub : Sub g g')
    (F' : InF X (compEnvC scope cl C env) false (addK X kb (inC env I Dd) s.heap) (fun b => av b ∨ inC env I Dd b) g' st' s') :
    InF X env rw kb av g' ⟨st.loc, st'.hp⟩ s' ∧ Loose env kb g' st'.hp s' C ∧ (Loose env kb g' st'.hp s' I ∧ s'.heap.get? I = s.heap.get? I) ∧ (Loose env kb g' st'.hp s' Dd ∧ s'.heap.get? Dd = s.heap.get? Dd) ∧ ∃ m, s'.heap.Ns C m := by
  obtain ⟨S, hS⟩ := F.sat.pop F'.sat fun b hb => by
    rcases hb with hb | rfl | rfl
    · exact ⟨F.own_some hb, F.own_fz hb⟩
    · exact ⟨LI.ex, F.sat.nfz LI.k⟩
    · exact ⟨LD.ex, F.sat.nfz LD.k⟩
  have lo : ∀ a, inC env I Dd a → Loose env kb g st.hp s a → Loose env kb g' st'.hp s' a ∧ s'.heap.get? a = s.heap.get? a := fun a ha L => by
    obtain ⟨h1, h2, h3⟩ := hS a ha
    obtain ⟨o, ho⟩ := L.ex
    exact ⟨⟨L.k, h2, h3, L.o, o, h1.trans ho⟩, h1⟩
  obtain ⟨m, hm, _⟩ := F'.ns
  refine ⟨F.next S sub (fun b hb o e => by rw [(hS b (.inl hb)).1]; exact e) (fun b hb => (hS b (.inl hb)).2.1) (fun b hb => (hS b (.inl hb)).2.2), ⟨LC.k, F'.Lg, F'.Lh, LC.o, ?_⟩, lo I (.inr (.inl rfl)) LI, lo Dd (.inr (.inr rfl)) LD, m, hm⟩
  obtain ⟨o, _, _, ho, _⟩ := hm
  exact ⟨o, ho⟩

theorem Loose.up {a : Addr} (L : Loose env kb g st.hp s a) {b : Addr} (hab : a ≠ b) (hk : ∀ c o, c ≠ b → s.heap.get? c = some o → s'.heap.get? c = some o) : Loose env kb g st.hp s' a :=
  let ⟨o, ho⟩ := L.ex; ⟨L.k, L.g, L.h, L.o, o, hk _ _ hab ho⟩

inductive CInv (X : Cx) (env : Env) (rw : Bool) (n : Nat) (kb : Fz) (av : Addr → Prop) (g : Fz) (loc : Str → Option D) (C I Dd : Addr) (src : D) (v : Value) (xs : List D) (ifs : List Expr) (elt : Expr) (x : Str) (K : List D → St → Prop) (j : Nat) (s' : Shared) : Prop
  | mk (i : Nat) (g' : Fz) (stc : St) (acc : List D) (its : Array Value) (k : Nat) (mm : Str → Option Value) (e : j = xs.length + 1 - i) (hi : i ≤ xs.length) (h : Sub g g') (F : InF X env rw kb av g' ⟨loc, stc.hp⟩ s') (LC : Loose env kb g' stc.hp s' C) (LI : Loose env kb g' stc.hp s' I) (LD : Loose env kb g' stc.hp s' Dd)
    (hI : ItAt src v I i s'.heap) (hD : s'.heap.get? Dd = some { cls := .type "list", data := .seq its k }) (hs : Rs g' acc its.toList) (hl : acc.length ≤ i) (hn : s'.heap.Ns C mm) (hG : compG (cmpF X n ifs elt x loc) src xs (xs.drop i) acc K stc) : CInv X env rw n kb av g loc C I Dd src v xs ifs elt x K j s'
theorem comp_loop [Hn X] {elt iter : Expr} {px : Pos} {ifs : List Expr} {pos : Pos} (hs : OkScope env.scope.names scope x) (hc : ClOk env scope cl)
    (hgx : X.G x = none) (hoke : okE X.isG (relab env.scope.names scope) elt = true) (hoki : okEs X.isG (relab env.scope.names scope) ifs = true)
    (hr : Rm X env rw kb av A n) (F : InF X env rw kb av g st s) {src : D} {v : Value} {xs : List D} (r : R g src v) (hlen : xs.length ≤ 16000000)
    (LC : Loose env kb g st.hp s C) (LI : Loose env kb g st.hp s I) (LD : Loose env kb g st.hp s Dd) (hCI : C ≠ I) (hCD : C ≠ Dd) (hDI : Dd ≠ I) (hI : ItAt src v I 0 s.heap)
    {k : Nat} (hD : s.heap.get? Dd = some { cls := .type "list", data := .seq #[] k }) {m : Str → Option Value} (hn : s.heap.Ns C m)
    {K : List D → St → Prop} (h : compG (cmpF X n ifs elt x st.loc) src xs xs [] K st) {RR : Result → Shared → Prop}
    (hRR : ∀ g' st' s' m its k ds, Sub g g' → InF X env rw kb av g' ⟨st.loc, st'.hp⟩ s' → Loose env kb g' st'.hp s' Dd → Loose env kb g' st'.hp s' C → s'.heap.get? Dd = some { cls := .type "list", data := .seq its k } → Rs g' ds its.toList → s'.heap.Ns C m → K ds st' → RR (.ok .next) s')
    (hRE : ∀ v s', EXF X env A kb v s' → (∃ m, s'.heap.Ns C m) → notedBy (model X.prog X.w) A (compEnvC scope cl C env) (fun e s' => RR (.error e) s') v s') :
    codeAny (model X.prog X.w) A (.compLoop (.ListComp elt [⟨.Name x px, iter, ifs, 0⟩] scope pos) 0 (.ref I) (.ref Dd) (compEnvC scope cl C env)) RR s := by
  refine codeAny_compLoop_tests (CInv X env rw n kb av g st.loc C I Dd src v xs ifs elt x K) ?_ (xs.length + 1)
    ⟨0, g, st, [], #[], k, m, by omega, by omega, Sub.rfl', F, LC, LI, LD, hI, hD, rfl, by simp, hn, by simpa using h⟩
  rintro j s₁ ⟨i, g₁, stc, acc, its, k, mm, rfl, hi, sub, F₁, LC₁, LI₁, LD₁, hI₁, hD₁, hacc, hal, hn₁, hG⟩
  by_cases hlt : i < xs.length
  · have hd : xs.drop i = xs[i] :: xs.drop (i + 1) := List.drop_eq_getElem_cons hlt
    rw [hd] at hG
    simp only [compG] at hG
    obtain ⟨hit, hG⟩ := hG
    refine wpAny_mono (it_item F₁ (r.sub sub) hit LI₁ hI₁ (List.getElem?_eq_getElem hlt)) (fun q s₂ ⟨u, hu, ru, F₂, LI₂, hI₂, hk₂⟩ => ?_) fun _ _ x => x
    subst hu
    have LC₂ := LC₁.up (st := ⟨st.loc, stc.hp⟩) hCI hk₂
    have LD₂ := LD₁.up (st := ⟨st.loc, stc.hp⟩) hDI hk₂
    have hn₂ : s₂.heap.Ns C mm := hn₁.at' fun o e => hk₂ _ _ hCI e
    refine wpAny_assign_Name (wpAny_storeName_local (env := compEnvC scope cl C env) (lookup_relabel_local hs.xl) hn₂ (fun h₃ hn₃ hs₃ => ?_) (by simp [compEnvC, relabel, hs.kind]))
    have hk₃ : ∀ b o, b ≠ C → s₂.heap.get? b = some o → h₃.get? b = some o := fun b o hb e => hs₃.extBut b o hb e
    have F₃ := F₂.extI (s' := { s₂ with heap := h₃, toks := s₂.toks + 1 }) LC₂ hk₃
    have LC₃ : Loose env kb g₁ stc.hp { s₂ with heap := h₃, toks := s₂.toks + 1 } C := ⟨LC₂.k, LC₂.g, LC₂.h, LC₂.o, let ⟨o, _, _, ho, _⟩ := hn₃; ⟨o, ho⟩⟩
    have LI₃ := LI₂.up (s' := { s₂ with heap := h₃, toks := s₂.toks + 1 }) (st := ⟨st.loc, stc.hp⟩) (Ne.symm hCI) hk₃
    have LD₃ := LD₂.up (s' := { s₂ with heap := h₃, toks := s₂.toks + 1 }) (st := ⟨st.loc, stc.hp⟩) (Ne.symm hCD) hk₃
    have C₃ := enter_comp F₃ hs hc LC₃ LI₃ LD₃ hCI hCD hn₃ (by simp) ru hgx
    have hIe : ItAt src v I (i + 1) h₃ := hI₂.at' (by obtain ⟨o, ho⟩ := LI₂.ex; rw [ho]; exact hk₃ _ _ (Ne.symm hCI) ho)
    have hDe : h₃.get? Dd = some { cls := .type "list", data := .seq its k } := hk₃ _ _ (Ne.symm hCD) (hk₂ _ _ hDI hD₁)
    have own₃ : ∀ o, h₃.get? env.locals = some o → addK X kb (inC env I Dd) h₃ env.locals = some o := fun o ho => by
      rw [addK_of (.inl (.inl rfl)), get_not (F₃.own_fz (.inl rfl))]; exact ho
    have hrc : Rm X (compEnvC scope cl C env) false (addK X kb (inC env I Dd) h₃) (fun b => av b ∨ inC env I Dd b) A n := by
      obtain ⟨f, l, L, h1, h2, h3, h4, h5, h6⟩ := hr.fr
      refine ⟨hr.toRoom, hr.hd, fun q => (by rw [Hn.c] at q; cases q), fun q1 q2 => (hr.hk q1 q2).mono fun b o q => F₃.sat.up q, f, l, L, h1, h2, h3, h4, .inr ⟨rfl, ?_⟩, fun f' hf' => (h6 f' hf').mono (fun b o q => F₃.sat.up q) fun b hb => .inl hb⟩
      rcases h5 with ⟨_, h5⟩ | ⟨_, h5⟩
      · obtain ⟨m', ⟨o, es, ep, ho, hd', _⟩, _⟩ := F₃.ns
        subst h5
        exact ⟨⟨o, own₃ o ho, fun vs q => by rw [hd'] at q; cases q⟩, .inr (.inl (.inl rfl))⟩
      · exact h5.mono (fun b o q => F₃.sat.up q) fun b hb => .inl hb
    have out : ∀ v s', EXF X (compEnvC scope cl C env) A (addK X kb (inC env I Dd) h₃) v s' → EXF X env A kb v s' ∧ ∃ m, s'.heap.Ns C m := fun v s' x => by
      refine ⟨⟨x.1.mono fun b o q => F₃.sat.up q, ?_, ?_⟩, x.2.1⟩
      · obtain ⟨e, C', tr, l, _, _, _, z⟩ := x.1
        obtain ⟨m', ⟨o, es, ep, ho, hd', r'⟩, _⟩ := F₃.ns
        obtain ⟨sl, q, _⟩ := z.kbh env.locals o (own₃ o ho)
        exact ⟨m', _, es, ep, q, hd', r'⟩
      · intro z c hz hcz
        obtain ⟨e, C', tr, l, _, _, _, zz⟩ := x.1
        obtain ⟨vo, ⟨o, ho, hd'⟩, _⟩ := F₃.cell z c hz hcz
        obtain ⟨sl, q, _⟩ := zz.kbh c o (by rw [addK_of (.inl (.inr ⟨z, hz, hcz⟩)), get_not (F₃.nfz z c hz hcz)]; exact ho)
        exact ⟨vo, _, q, hd'⟩
    refine wpAny_mono (hG _ (by rw [cenv_names F₃]; exact hoki) A _ _ g₁ _ hrc C₃) (fun b s₄ ⟨g₄, st₄, q1, C₄, hb⟩ => ?_) fun v s' x => hRE v s' (out v s' x).1 (out v s' x).2
    have fin : ∀ (g₅ : Fz) (st₅ : St) (s₅ : Shared), Sub g₁ g₅ → InF X (compEnvC scope cl C env) false (addK X kb (inC env I Dd) h₃) (fun b => av b ∨ inC env I Dd b) g₅ st₅ s₅ → ∀ (acc' : List D) (its' : Array Value), Rs g₅ acc' its'.toList → ∀ (s₆ : Shared) k', Heap.SameBut Dd s₅.heap s₆.heap → s₆.gens = s₅.gens → s₆.os = s₅.os → s₆.drawn = s₅.drawn →
        s₆.heap.get? Dd = some { cls := .type "list", data := .seq its' k' } → acc'.length ≤ i + 1 →
        compG (cmpF X n ifs elt x st.loc) src xs (xs.drop (i + 1)) acc' K st₅ → ∃ j, j < xs.length + 1 - i ∧ CInv X env rw n kb av g st.loc C I Dd src v xs ifs elt x K j s₆ := by
      intro g₅ st₅ s₅ sub₅ C₅ acc' its' hacc' s₆ k' hs₆ e1 e2 e3 hD₆ hal' hG'
      obtain ⟨F₅, LC₅, ⟨LI₅, eI⟩, ⟨LD₅, eD⟩, mm', hn₅⟩ := leave_comp F₃ LC₃ LI₃ LD₃ sub₅ C₅
      have hk₆ : ∀ b o, b ≠ Dd → s₅.heap.get? b = some o → s₆.heap.get? b = some o := fun b o hb e => hs₆.extBut b o hb e
      have F₆ := F₅.extI (s' := s₆) LD₅ hk₆ e1 e2 e3
      have LI₆ := LI₅.up (s' := s₆) (st := ⟨st.loc, st₅.hp⟩) (Ne.symm hDI) hk₆
      refine ⟨xs.length + 1 - (i + 1), by omega, i + 1, g₅, st₅, acc', its', k', mm', rfl, by omega, sub.trans sub₅, F₆, LC₅.up (st := ⟨st.loc, st₅.hp⟩) hCD hk₆, LI₆,
        ⟨LD₅.k, LD₅.g, LD₅.h, LD₅.o, _, hD₆⟩, hIe.at' ?_, hD₆, hacc', hal', hn₅.at' fun o e => hk₆ _ _ hCD e, hG'⟩
      obtain ⟨o, ho⟩ := LI₅.ex
      rw [hk₆ _ _ (Ne.symm hDI) ho, ← ho, eI]
    cases b with
    | false =>
      refine fin g₄ st₄ s₄ q1 C₄ acc its (hacc.sub q1) s₄ k (Heap.SameBut.refl ..) rfl rfl rfl ?_ (by omega) hb
      obtain ⟨_, _, _, ⟨LD₅, eD⟩, _⟩ := leave_comp F₃ LC₃ LI₃ LD₃ q1 C₄
      rw [eD]; exact hDe
    | true =>
      have hb : wpE X n elt _ st₄ := hb
      refine wpAny_mono (hb _ false (by rw [cenv_names F₃]; exact hoke) A _ _ g₄ _ hrc C₄) (fun w s₅ ⟨g₅, d, st₅, p1, C₅, rw', hb'⟩ => ?_) fun v s' x => hRE v s' (out v s' x).1 (out v s' x).2
      obtain ⟨_, _, _, ⟨LD₅, eD⟩, _⟩ := leave_comp F₃ LC₃ LI₃ LD₃ (q1.trans p1) C₅
      have hl := hacc.length
      simp only [Array.length_toList] at hl
      refine wpAny_list_append_plain (items := its) ⟨k, by rw [eD]; exact hDe⟩ (fun h₆ hl₆ hs₆ => ?_) (sizeLine_ge (by omega))
      obtain ⟨k', hl₆⟩ := hl₆
      refine fin g₅ st₅ s₅ (q1.trans p1) C₅ (acc ++ [d]) (its.push w) ?_ { s₅ with heap := h₆ } k' hs₆ rfl rfl rfl hl₆ (by simp; omega) hb'
      rw [Array.toList_push]
      exact (hacc.sub (q1.trans p1)).append (Rs.one rw')
  · have hie : i = xs.length := by omega
    subst hie
    rw [List.drop_length] at hG
    simp only [compG] at hG
    obtain ⟨hit, hK⟩ := hG
    refine wpAny_mono (it_end F₁ (hr.hd Hn.h) (r.sub sub) hit LI₁ hI₁) (fun q s₂ ⟨hq, F₂, hk₂⟩ => ?_) fun _ _ x => x
    subst hq
    exact hRR g₁ stc s₂ mm its k acc sub F₂ (LD₁.up (st := ⟨st.loc, stc.hp⟩) hDI hk₂) (LC₁.up (st := ⟨st.loc, stc.hp⟩) hCI hk₂) (hk₂ _ _ hDI hD₁) hacc (hn₁.at' fun o e => hk₂ _ _ hCI e) hK

theorem comp_gen [Hn X] {elt iter : Expr} {px : Pos} {ifs : List Expr} {pos : Pos} {use : Option (Value → Sem Unit)} {Q : D → St → Prop} {QQ : Value → Shared → Prop}
    (hos : okScope env.scope.names scope x = true)
    (hgx : X.G x = none) (hoke : okE X.isG (relab env.scope.names scope) elt = true) (hoki : okEs X.isG (relab env.scope.names scope) ifs = true) (hokit : okE X.isG env.scope.names iter = true)
    (hr : Rm X env rw kb av A n) (F : InF X env rw kb av g st s) (h : wpE X n iter (kComp X n ifs elt x Q) st)
    (hRR : ∀ g' st' s' Dd C m its k ds, Sub g g' → InF X env rw kb av g' st' s' → Loose env kb g' st'.hp s' Dd → Loose env kb g' st'.hp s' C → C ≠ Dd → s'.heap.get? Dd = some { cls := .type "list", data := .seq its k } → Rs g' ds its.toList → s'.heap.Ns C m → New ds Q st' →
      compPost (model X.prog X.w) A (EXF X env A kb) use QQ (.ref Dd) C (.ok .next) s') :
    wpAny (model X.prog X.w) A (comprehension (.ListComp elt [⟨.Name x px, iter, ifs, 0⟩] scope pos) scope env (firstIterPos [⟨.Name x px, iter, ifs, 0⟩] pos) (newList []) false (eval iter env) use) QQ (EXF X env A kb) s := by
  have hs := okScope_of hos
  have hcl := closure_ok (env := env) (scope := scope) fun y hy hf => F.ok.cel y.1 (hs.free y hy hf)
  obtain ⟨cl, hcl, hc1, hc2⟩ := hcl
  have hc : ClOk env scope cl := ⟨hc1, hc2⟩
  refine wpAny_comprehension_free rfl (okE_folded hokit env) hcl hs.kind hs.loc ?_
  refine wpAny_mono (h env rw hokit A kb av g s hr F) (fun v s₁ ⟨g₁, src, st₁, sub, F₁, rv, hx⟩ => ?_) fun _ _ x => x
  obtain ⟨xs, hit, hlen, hG⟩ := hx
  refine wpAny_mono (it_new F₁ rv hit) (fun it s₂ ⟨I, hI, F₂, LI, hIt, hk₂⟩ => ?_) fun _ _ x => x
  subst hI
  refine wpAny_newObj_type (wpAny_newFunctionEnv hs.ncell (by intro y hy; simp at hy) (fun h₃ hn₃ hs₃ => ?_) hs.kind)
  dsimp only at hn₃ hs₃ ⊢
  generalize hH2 : s₂.heap.push { cls := .type "list", dict := none, data := .seq ([] : List Value).toArray } = H2 at hn₃ hs₃ ⊢
  have hC : H2.objs.size = s₂.heap.objs.size + 1 := by rw [← hH2, Heap.size_push]
  have hne : H2.objs.size ≠ s₂.heap.objs.size := by omega
  have old : ∀ b o, s₂.heap.get? b = some o → h₃.get? b = some o := fun b o e =>
    hs₃.extBut b o (by rw [hC]; exact Nat.ne_of_lt (Nat.lt_succ_of_lt (Heap.lt_size e))) (Heap.get?_push_of_some _ (hH2 ▸ Heap.get?_push_of_some _ e))
  have hD₃ : h₃.get? s₂.heap.objs.size = some { cls := .type "list", dict := none, data := .seq ([] : List Value).toArray } := hs₃.extBut _ _ (Ne.symm hne) (Heap.get?_push_of_some _ (hH2 ▸ Heap.get?_push_size _ rfl))
  have fresh : ∀ a, s₂.heap.objs.size ≤ a → s₂.heap.get? a = none := fun a ha => by
    cases e : s₂.heap.get? a with
    | none => rfl
    | some o' => exact absurd (Heap.lt_size e) (Nat.not_lt.mpr ha)
  let s₃ : Shared := { s₂ with heap := h₃, toks := s₂.toks + ([] : List (Str × Value)).length }
  have F₃ : InF X env rw kb av g₁ st₁ s₃ := F₂.keeps old
  have LI₃ : Loose env kb g₁ st₁.hp s₃ I := LI.keeps old
  have LD₃ : Loose env kb g₁ st₁.hp s₃ s₂.heap.objs.size := F₂.loose (fresh _ (Nat.le_refl _)) ⟨_, hD₃⟩
  have LC₃ : Loose env kb g₁ st₁.hp s₃ H2.objs.size := F₂.loose (fresh _ (by omega)) (let ⟨o, _, _, ho, _⟩ := hn₃; ⟨o, ho⟩)
  have hIlt : I < s₂.heap.objs.size := let ⟨o, ho⟩ := LI.ex; Heap.lt_size ho
  have hIt₃ : ItAt src v I 0 h₃ := hIt.at' (by obtain ⟨o, ho⟩ := LI.ex; rw [ho]; exact old _ _ ho)
  have loop := comp_loop (C := H2.objs.size) (cl := cl) (iter := iter) (px := px) (pos := pos) (RR := compPost (model X.prog X.w) A (EXF X env A kb) use QQ (.ref s₂.heap.objs.size) H2.objs.size) hs hc hgx hoke hoki hr F₃ rv hlen LC₃ LI₃ LD₃ (by rw [hC]; exact (Nat.ne_of_lt (Nat.lt_succ_of_lt hIlt)).symm) hne (Nat.ne_of_lt hIlt).symm hIt₃ hD₃ hn₃ (K := fun ds st' => New ds Q ⟨st₁.loc, st'.hp⟩) hG
    (fun g' st' s' m its k ds q1 q2 q3 q4 q5 q6 q7 q8 => hRR g' ⟨st₁.loc, st'.hp⟩ s' _ _ m its k ds (sub.trans q1) q2 q3 q4 hne q5 q6 q7 q8)
    (fun v s' x hm => by
      obtain ⟨⟨e, C', tr, l, rfl, hC', hfr, Fl⟩, ⟨me, hme⟩, hcel⟩ := x
      obtain ⟨mC, hmC⟩ := hm
      obtain ⟨f, l', L, h1, h2, h3, h4, h5, h6⟩ := hr.fr
      rw [hfr] at h1
      cases h1
      have hnf : H2.objs.size ∉ frs (f :: l') := fun hm => by
        obtain ⟨f', hf', q⟩ := List.mem_filterMap.mp hm
        have key : ∀ L, KN kb av L → L ≠ H2.objs.size := fun L ⟨⟨o, q1, _⟩, _⟩ q => by rw [q, LC₃.k] at q1; cases q1
        rcases List.mem_cons.mp hf' with z | z
        · subst z
          rw [h3] at q
          cases q
          rcases h5 with ⟨_, h5⟩ | ⟨_, h5⟩
          · exact LC₃.o (.inl h5)
          · exact key _ h5 rfl
        · obtain ⟨_, L', q2, q3, _⟩ := h6 f' z
          rw [q2] at q
          cases q
          exact key _ q3 rfl
      refine fly_note (env := compEnvC scope cl H2.objs.size env) hfr h3 h4 Fl fun h' Fl' u1 => ?_
      refine ⟨mC, u1.ns hmC, fun h'' hs'' cenv hcenv => ?_⟩
      obtain ⟨oC, esC, epC, hoC, hdC, _⟩ := u1.ns hmC
      refine fly_passOn (Fl'.touch hs'' LC₃.k hnf hoC fun vs q => by rw [hdC] at q; cases q) fun h₄ Fl₄ u2 => ⟨⟨e, C', true, _, rfl, hC', hfr, Fl₄⟩, ⟨me, ?_⟩, ?_⟩
      · have n1 := u1.ns hme
        obtain ⟨o, es, ep, ho, hd, r⟩ := n1
        exact u2.ns ⟨o, es, ep, (hs''.2 _ fun q => LC₃.o (.inl q.symm)).trans ho, hd, r⟩
      · refine CellsOk.up (CellsOk.keeps (hcel.up u1) fun z c h1 h2 o ho => (hs''.2 _ fun q => LC₃.o (.inr ⟨z, h1, by rw [← q]; exact h2⟩)).trans ho) u2)
  exact codeAny_compStart_list loop (it_self hIt₃ loop)

theorem e_comp [Hn X] {elt iter : Expr} {x : Str} {px p : Pos} {ifs : List Expr} {a : Int} {scope : Scope} {Q : D → St → Prop} (h : wpE X n iter (kComp X n ifs elt x Q) st) : wpE X n (.ListComp elt [⟨.Name x px, iter, ifs, a⟩] scope p) Q st := fun env rw hok A kb av g s hr F => by
  obtain ⟨o1, o2⟩ := and2 hok
  obtain ⟨q1, o5⟩ := and2 (show (okScope env.scope.names scope x && !X.isG x && okE X.isG env.scope.names iter && okEs X.isG (relab env.scope.names scope) ifs && a == 0) = true from o1)
  obtain ⟨q2, o4⟩ := and2 q1
  obtain ⟨q3, o3⟩ := and2 q2
  obtain ⟨q3, q4⟩ := and2 q3
  have q4 : X.G x = none := by simpa [Cx.isG] using q4
  obtain rfl := beq_iff_eq.mp o5
  rw [eval_ListComp]
  refine comp_gen (use := none) q3 q4 o2 o4 o3 hr F h fun g' st' s' Dd C m its k ds sub F' LD LC hne hD hrs hn hNew => ?_
  refine ⟨m, hn, fun h' hs' => ?_⟩
  have hk : ∀ b o, b ≠ C → s'.heap.get? b = some o → h'.get? b = some o := fun b o hb e => hs'.extBut b o hb e
  have F'' := F'.extI (s' := { s' with heap := h' }) LC hk
  exact (F''.take (LD.up (s' := { s' with heap := h' }) (Ne.symm hne) hk) (hk _ _ (Ne.symm hne) hD) hrs hNew).up sub
theorem ifs_nil {K : Bool → St → Prop} (h : K true st) : wpIfs X n [] K st := fun env hok A kb av g s hr F => wpAny_pure ⟨g, st, Sub.rfl', F, h⟩
theorem cb_t {elt : Expr} {KO : Option D → St → Prop} {b : Bool} (hb : b = true) (h : wpE X n elt (kSome KO) st) : cbK X n elt KO b st := by subst hb; exact h
end
end Mine

namespace Mine
open PySem PySem.W PyProof.Rows PySem.Spec
inductive Fl where
  | next
  | brk
  | cont
  | ret (d : D)
inductive Cv (S : Addr → Prop) (hp : Hp) : D → D → Prop where
  | rfl (d : D) : Cv S hp d d
  | addr {a : Addr} {xs ys : List D} (h : hp a = some (.list xs)) (hs : S a) (l : ys.length = xs.length) (h' : ∀ (i : Nat) x y, xs[i]? = some x → ys[i]? = some y → Cv S hp x y) : Cv S hp (.addr a) (.list ys)
  | inst {a C d : Addr} {fs gs : List (Str × D)} (h : hp a = some (.inst C d)) (h' : hp d = some (.ns fs)) (hs : S a) (hs' : S d) (l : gs.map (·.1) = fs.map (·.1)) (hc : ∀ (i : Nat) x y, fs[i]? = some x → gs[i]? = some y → Cv S hp x.2 y.2) : Cv S hp (.addr a) (.inst C gs)
  | list {xs ys : List D} (l : ys.length = xs.length) (h' : ∀ (i : Nat) x y, xs[i]? = some x → ys[i]? = some y → Cv S hp x y) : Cv S hp (.list xs) (.list ys)
  | tup {xs ys : List D} (l : ys.length = xs.length) (h' : ∀ (i : Nat) x y, xs[i]? = some x → ys[i]? = some y → Cv S hp x y) : Cv S hp (.tup xs) (.tup ys)
inductive CvM (S : Addr → Prop) (hp : Hp) : MO → MO → Prop where
  | rfl (m : MO) : CvM S hp m m
  | list {xs ys : List D} (l : ys.length = xs.length) (h' : ∀ (i : Nat) x y, xs[i]? = some x → ys[i]? = some y → Cv S hp x y) : CvM S hp (.list xs) (.list ys)
structure Shift (st st' : St) : Prop where
  ex : ∃ S : Addr → Prop, (∀ a m', st'.hp a = some m' → ¬ S a ∧ ∃ m, st.hp a = some m ∧ CvM S st.hp m m') ∧ (∀ x d', st'.loc x = some d' → ∃ d, st.loc x = some d ∧ Cv S st.hp d d')
def forG (F : D → (Fl → St → Prop) → St → Prop) (src : D) (xs : List D) : List D → (Fl → St → Prop) → St → Prop
  | [], K, st => itemsOf st.hp src = some xs ∧ K .next st
  | y :: ys, K, st => itemsOf st.hp src = some xs ∧ F y (fun f st' => match f with
    | .next => forG F src xs ys K st'
    | .cont => forG F src xs ys K st'
    | .brk => K .next st'
    | .ret d => K (.ret d) st') st
def whileG (T : (Bool → St → Prop) → St → Prop) (B : (Fl → St → Prop) → St → Prop) : Nat → (Fl → St → Prop) → St → Prop
  | 0, K, st => False
  | k + 1, K, st => T (fun b st' => if b = true then B (fun f st'' => match f with
    | .next => whileG T B k K st''
    | .cont => whileG T B k K st''
    | .brk => K .next st''
    | .ret d => K (.ret d) st'') st' else K .next st') st
def okSt (G : Str → Bool) (names : Names) (x : Str) : Bool := !(x == ("__debug__" : Str)) && !G x && (names.lookup x == some .local || names.lookup x == some .cell)
def isTup (e : Expr) : Bool := kindE e == 2
def isComp (e : Expr) : Bool := kindE e == 1
def okNames (G : Str → Bool) (names : Names) : List Expr → Bool
  | [] => true
  | .Name x _ :: r => okSt G names x && okNames G names r
  | _ => false
def okT (G : Str → Bool) (names : Names) (v : Expr) : Expr → Bool
  | .Name x _ => okSt G names x
  | .Subscript o i _ => okE G names o && okE G names i
  | .Attribute o _ _ => okE G names o
  | .Tuple es _ _ => okNames G names es && !isTup v && !isComp v
  | _ => false
mutual
def okS (G : Str → Bool) (names : Names) : Stmt → Bool
  | .Expr e _ => okE G names e && !isComp e
  | .Return (some e) _ => okE G names e
  | .If t b o _ => okE G names t && okSs G names b && okSs G names o
  | .Assign [t] v _ => okE G names v && okT G names v t
  | .For (.Name x _) iter body [] _ => okE G names iter && okSt G names x && okSs G names body
  | .While t body [] _ => okE G names t && okSs G names body
  | .Raise (some (.Call (.Name x _) [.Constant _ _ _] [] _)) none _ => okName G names x
  | .Try body hs [] [] _ => okSs G names body && okHs G names hs
  | _ => true
def okSs (G : Str → Bool) (names : Names) : List Stmt → Bool
  | [] => true
  | s :: r => okS G names s && okSs G names r
def okHs (G : Str → Bool) (names : Names) : List ExceptHandler → Bool
  | [] => true
  | h :: r => okH G names h && okHs G names r
def okH (G : Str → Bool) (names : Names) : ExceptHandler → Bool
  | .ExceptHandler (some (.Name x _)) none body _ => okName G names x && !body.isEmpty && okSs G names body
  | .ExceptHandler (some (.Name x _)) (some n) body _ => okName G names x && !body.isEmpty && okSs G names body && (okSt G names n && names.lookup n == some .local)
  | _ => false
end
section
variable {X : Cx} {env : Env} {rw : Bool} {n : Nat} {A : Around} {kb : Fz} {av : Addr → Prop} {g g' : Fz} {st st' : St} {s s' : Shared} {hp hp' : Hp} {E : Value → Shared → Prop}
open Classical in
noncomputable def frG (g : Fz) (S : Addr → Prop) (hp : Hp) (h : Heap) : Fz := fun b => if S b ∧ (hp b).isSome then h.get? b else g b
theorem Sat.frG_sub (S0 : Sat X kb av g hp s) {S : Addr → Prop} : Sub g (frG g S hp s.heap) := fun b o e => by
  unfold frG
  split
  · rename_i q
    obtain ⟨mo, hm⟩ := Option.isSome_iff_exists.mp q.2
    rw [(S0.hph _ _ hm).2.2] at e; cases e
  · exact e
theorem Rs.of_idx {g : Fz} : ∀ {ds : List D} {vs : List Value}, vs.length = ds.length → (∀ (i : Nat) d v, ds[i]? = some d → vs[i]? = some v → R g d v) → Rs g ds vs
  | [], vs, l, h => List.length_eq_zero_iff.mp (by simpa using l)
  | d :: ds, [], l, h => by simp at l
  | d :: ds, v :: vs, l, h => Rs.cons (h 0 d v rfl rfl) (Rs.of_idx (by simpa using l) fun i d' v' e1 e2 => h (i + 1) d' v' (by simpa using e1) (by simpa using e2))
theorem Rf.of_map {g g' : Fz} : ∀ {fs gs : List (Str × D)} {es : List DictEntry}, Rf g fs es → gs.map (·.1) = fs.map (·.1) → (∀ (i : Nat) x y v, fs[i]? = some x → gs[i]? = some y → R g x.2 v → R g' y.2 v) → Rf g' gs es
  | [], [], es, h, l, hc => h
  | [], _ :: _, es, h, l, hc => by simp at l
  | _ :: _, [], es, h, l, hc => by simp at l
  | (k, d) :: fs, (k', d') :: gs, es, h, l, hc => by
    simp only [List.map_cons, List.cons.injEq] at l
    obtain ⟨rfl, l⟩ := l
    change ∃ _, _
    obtain ⟨hk, t, v, r, rfl, h1, h2⟩ := h
    exact ⟨hk, t, v, r, rfl, hc 0 _ _ v rfl rfl h1, Rf.of_map h2 l fun i x y v e1 e2 => hc (i + 1) x y v (by simpa using e1) (by simpa using e2)⟩
theorem Cv.ok (S0 : Sat X kb av g hp s) {S : Addr → Prop} {d d' : D} (c : Cv S hp d d') : ∀ {v : Value}, R g d v → R (frG g S hp s.heap) d' v := by
  have sub : Sub g (frG g S hp s.heap) := S0.frG_sub
  have at' : ∀ {a : Addr} {mo : MO}, hp a = some mo → S a → frG g S hp s.heap a = s.heap.get? a := fun h1 h2 => by
    unfold frG; rw [if_pos ⟨h2, by rw [h1]; rfl⟩]
  induction c with
  | rfl d => exact fun r => r.sub sub
  | @addr a xs ys h hs l h' ih =>
    intro v r
    obtain rfl := r.addr'
    obtain ⟨its, k, ho, hrs⟩ := (S0.hph _ _ h).1
    change ∃ _, _
    refine ⟨a, its, Eq.refl _, ⟨k, by rw [at' h hs]; exact ho⟩, Rs.of_idx (by rw [hrs.length, l]) fun i d v e1 e2 => ?_⟩
    obtain ⟨x, e3, r⟩ := hrs.get' e2
    exact ih i x d e3 e1 r
  | @inst a C dd fs gs h h' hs hs' l hc ih =>
    intro v r
    obtain rfl := r.addr'
    have q1 := (S0.hph _ _ h).1
    obtain ⟨ents, k, q2, q3⟩ := (S0.hph _ _ h').1
    change ∃ _, _
    exact ⟨a, dd, ents, Eq.refl _, by rw [at' h hs]; exact q1, ⟨k, by rw [at' h' hs']; exact q2⟩, q3.of_map l fun i x y v e1 e2 r => ih i x y e1 e2 r⟩
  | @list xs ys l h' ih =>
    intro v r
    obtain ⟨a, its, rfl, h1, hrs⟩ := r.list'
    change ∃ _, _
    refine ⟨a, its, Eq.refl _, h1.sub sub, Rs.of_idx (by rw [hrs.length, l]) fun i d v e1 e2 => ?_⟩
    obtain ⟨x, e3, r⟩ := hrs.get' e2
    exact ih i x d e3 e1 r
  | @tup xs ys l h' ih =>
    intro v r
    obtain ⟨a, its, rfl, h1, hrs⟩ := r.tup'
    change ∃ _, _
    refine ⟨a, its, Eq.refl _, h1.sub sub, Rs.of_idx (by rw [hrs.length, l]) fun i d v e1 e2 => ?_⟩
    obtain ⟨x, e3, r⟩ := hrs.get' e2
    exact ih i x d e3 e1 r
theorem Sat.shift (S0 : Sat X kb av g hp s) {S : Addr → Prop} (h : ∀ a m', hp' a = some m' → ¬ S a ∧ ∃ m, hp a = some m ∧ CvM S hp m m') : Sat X kb av (frG g S hp s.heap) hp' s where
  gens := S0.gens
  os := S0.os
  drawn := S0.drawn
  top := S0.top
  kbh := S0.kbh
  fza := S0.fza
  fzT := S0.fzT
  gh := fun b o e => by
    unfold frG at e
    split at e
    · exact e
    · exact S0.gh b o e
  avk := S0.avk
  gav := fun b hb => by
    unfold frG
    split
    · rename_i q
      obtain ⟨mo, hm⟩ := Option.isSome_iff_exists.mp q.2
      have := S0.avk b hb
      rw [(S0.hph _ _ hm).2.1] at this; cases this
    · exact S0.gav b hb
  hph := fun a m' e => by
    obtain ⟨hs, m, hm, c⟩ := h a m' e
    obtain ⟨h1, h2, h3⟩ := S0.hph a m hm
    refine ⟨?_, h2, ?_⟩
    · cases c with
      | rfl => exact h1.sub S0.frG_sub rfl
      | @list xs ys l hc =>
        obtain ⟨its, k, ho, hrs⟩ := h1
        refine ⟨its, k, ho, Rs.of_idx (by rw [hrs.length, l]) fun i d v e1 e2 => ?_⟩
        obtain ⟨x, e3, r⟩ := hrs.get' e2
        exact (hc i x d e3 e1).ok S0 r
    · unfold frG; rw [if_neg fun q => hs q.1]; exact h3
theorem Shift.ok (F : InF X env rw kb av g st s) (h : Shift st st') : ∃ g', Sub g g' ∧ InF X env rw kb av g' st' s := by
  obtain ⟨S, h1, h2⟩ := h.ex
  refine ⟨frG g S st.hp s.heap, F.sat.frG_sub, F.sat.shift h1, F.ok, ?_, F.Lk, ?_, ?_, fun x c q1 q2 => ?_, F.apart, fun x d' e => let ⟨d, e3, _⟩ := h2 x d' e; F.lg x d e3, F.nfz⟩
  · obtain ⟨m, hn, hm⟩ := F.ns
    refine ⟨m, hn, fun x d' e1 e2 => ?_⟩
    obtain ⟨d, e3, c⟩ := h2 x d' e2
    obtain ⟨v, e4, r⟩ := hm x d e1 e3
    exact ⟨v, e4, c.ok F.sat r⟩
  · unfold frG; rw [if_neg fun q => by rw [F.Lh] at q; cases q.2]; exact F.Lg
  · cases e : st'.hp env.locals with
    | none => rfl
    | some m' => obtain ⟨_, m, hm, _⟩ := h1 _ _ e; rw [F.Lh] at hm; cases hm
  · obtain ⟨vo, a1, a2, a3, a4, a5, a6⟩ := F.cell x c q1 q2
    refine ⟨vo, a1, fun d' e2 => ?_, a3, ?_, ?_, a6⟩
    · obtain ⟨d, e3, cc⟩ := h2 x d' e2
      obtain ⟨v, e4, r⟩ := a2 d e3
      exact ⟨v, e4, cc.ok F.sat r⟩
    · unfold frG; rw [if_neg fun q => by rw [a5] at q; cases q.2]; exact a4
    · cases e : st'.hp c with
      | none => rfl
      | some m' => obtain ⟨_, m, hm, _⟩ := h1 _ _ e; rw [a5] at hm; cases hm
theorem updH_none {a : Addr} (h : hp a = none) : updH hp a none = hp := by funext b; unfold updH; split; · rename_i q; rw [q, h]
                                                                           · rfl
theorem store_ok (F : InF X env true kb av g st s) {x : Str} {d : D} {v : Value} (r : R g d v) (hx : env.kindOf x = some .local ∨ env.kindOf x = some .cell) (hgx : X.G x = none) {Q : Unit → Shared → Prop}
    (h : ∀ s', InF X env true kb av g ⟨updL st.loc x d, st.hp⟩ s' → (∀ b o, ¬ Own env b → s.heap.get? b = some o → s'.heap.get? b = some o) → Q () s') : wpAny (model X.prog X.w) A (storeName env x v) Q E s := by
  have lgx : ∀ y d', updL st.loc x d y = some d' → X.G y = none := fun y d' e => by
    unfold updL at e
    split at e
    · rename_i q; rw [q]; exact hgx
    · exact F.lg y d' e
  rcases hx with hx | hx
  · obtain ⟨m, hn, hm⟩ := F.ns
    refine wpAny_storeName_local hx hn (fun h' hn' hs' => ?_) (by rw [F.ok.kind]; rfl)
    have hk : ∀ b o, b ≠ env.locals → s.heap.get? b = some o → h'.get? b = some o := fun b o hb e => hs'.extBut b o hb e
    refine h _ ?_ (fun b o hb e => hk b o (fun q => hb (.inl q)) e)
    have S := F.sat.extBut (s' := { s with heap := h', toks := s.toks + 1 }) F.Lk F.Lg hk rfl rfl rfl
    rw [updH_none F.Lh] at S
    refine ⟨S, F.ok, ⟨_, hn', fun y d' e1 e2 => ?_⟩, F.Lk, F.Lg, F.Lh, fun y c q1 q2 => ?_, F.apart, lgx, F.nfz⟩
    · simp only [updL] at e2
      split at e2
      · rename_i q; cases e2; exact ⟨v, by rw [if_pos q], r⟩
      · rename_i q
        obtain ⟨u, e3, r'⟩ := hm y d' e1 e2
        exact ⟨u, by rw [if_neg q]; exact e3, r'⟩
    · obtain ⟨vo, ⟨o, ho, hd⟩, a2, a3, a4, a5, a6⟩ := F.cell y c q1 q2
      refine ⟨vo, ⟨o, hk _ _ a3 ho, hd⟩, fun d' e2 => ?_, a3, a4, a5, a6⟩
      simp only [updL] at e2
      split at e2
      · rename_i q; rw [q, hx] at q1; cases q1
      · exact a2 d' e2
  · obtain ⟨c, hc⟩ := F.ok.cel x hx
    obtain ⟨vo, hv, a2, a3, a4, a5, a6⟩ := F.cell x c hx hc
    refine wpAny_storeName_cell F.ok.kind hx hc hv fun h' hv' hs' => ?_
    have hk : ∀ b o, b ≠ c → s.heap.get? b = some o → h'.get? b = some o := fun b o hb e => hs'.extBut b o hb e
    refine h _ ?_ (fun b o hb e => hk b o (fun q => hb (.inr ⟨x, hx, q ▸ hc⟩)) e)
    have S := F.sat.extBut (s' := { s with heap := h' }) (a6 rfl) a4 hk rfl rfl rfl
    rw [updH_none a5] at S
    refine ⟨S, F.ok, ?_, F.Lk, F.Lg, F.Lh, fun y c' q1 q2 => ?_, F.apart, lgx, F.nfz⟩
    · obtain ⟨m, hn, hm⟩ := F.ns
      refine ⟨m, hn.at' fun o e => hk _ _ (Ne.symm a3) e, fun y d' e1 e2 => ?_⟩
      simp only [updL] at e2
      split at e2
      · rename_i q; rw [q, hx] at e1; cases e1
      · exact hm y d' e1 e2
    · by_cases hy : y = x
      · subst hy
        rw [hc] at q2; cases q2
        refine ⟨some v, hv', fun d' e2 => ?_, a3, a4, a5, a6⟩
        simp only [updL, if_true, Option.some.injEq] at e2
        subst e2
        exact ⟨v, rfl, r⟩
      · obtain ⟨vo', ⟨o, ho, hd⟩, b2, b3, b4, b5, b6⟩ := F.cell y c' q1 q2
        have hcc : c' ≠ c := fun q => hy (F.apart rfl y x c (q ▸ q2) hc)
        refine ⟨vo', ⟨o, hk _ _ hcc ho, hd⟩, fun d' e2 => ?_, b3, b4, b5, b6⟩
        simp only [updL, if_neg hy] at e2
        exact b2 d' e2
theorem Rs.set {g : Fz} {xs : List D} {vs : List Value} (h : Rs g xs vs) {d : D} {v : Value} (r : R g d v) (k : Nat) : Rs g (xs.set k d) (vs.set k v) := by
  refine Rs.of_idx (by simp [h.length]) fun i d' v' e1 e2 => ?_
  rw [List.getElem?_set] at e1 e2
  split at e1
  · rename_i q
    subst q
    rw [if_pos rfl] at e2
    split at e1
    · split at e2
      · cases e1; cases e2; exact r
      · cases e2
    · cases e1
  · rename_i q
    rw [if_neg q] at e2
    obtain ⟨u, e3, r'⟩ := h.get e1
    rw [e3] at e2; cases e2
    exact r'
theorem Rk.length {g : Fz} : ∀ {es : List (Int × D)} {kvs : List (Int × Value)}, Rk g es kvs → kvs.length = es.length
  | [], kvs, h => by have h' : kvs = [] := h; subst h'; rfl
  | (k', d') :: es, kvs, h => by obtain ⟨u, t, rfl, h1, h2⟩ := h; simp [Rk.length h2]
theorem Rk.stored {g : Fz} {d : D} {v : Value} {k : Int} (r : R g d v) : ∀ {es : List (Int × D)} {kvs : List (Int × Value)}, Rk g es kvs →
    Rk g (es.map fun e => if e.1 = k then (e.1, d) else e) (kvs.map fun e => if e.1 = k then (e.1, v) else e) ∧ Rk g (es ++ [(k, d)]) (kvs ++ [(k, v)]) ∧ (es.any fun e => e.1 = k) = (kvs.any fun e => e.1 = k)
  | [], kvs, h => by
    have h' : kvs = [] := h
    subst h'
    exact ⟨rfl, ⟨v, [], rfl, r, rfl⟩, rfl⟩
  | (k', d') :: es, kvs, h => by
    obtain ⟨u, t, rfl, h1, h2⟩ := h
    obtain ⟨q1, q2, q3⟩ := Rk.stored (k := k) r h2
    refine ⟨?_, ⟨u, _, rfl, h1, q2⟩, by simp only [List.any_cons, q3]⟩
    simp only [List.map_cons]
    by_cases e : k' = k
    · simp only [e, if_true]; exact ⟨v, _, rfl, r, q1⟩
    · simp only [e, if_false]; exact ⟨u, _, rfl, h1, q1⟩
end
theorem osa_heap {prog : Program} {w : World} {A : Around} {K : Frag} {C x : Addr} {s : Shared} {R : Result → Shared → Prop} {ox od od' : Obj} {dx : Addr} {name : Str} {tk : Tok} {v : Value} {es : List DictEntry} {n : Nat} (X : K.In s.heap)
    (I : InstAt s.heap x ox C (some od)) (hd : ox.dict = some dx) (hp : plainOver K C = true) (ht : takerIn K C name = some none) (hh : (clsIn K C).any (·.hasDict) = true)
    (hl : (lookIn name od).isSome = true)
    (e : Obj.putName name (PyData.keyHash w.params name) (.str name s.toks) v od = od') (e' : od'.data = .dict es.toArray n) (hz : es.length ≤ 1000)
    (h : ∀ h', Heap.SameBut dx s.heap h' → h'.get? dx = some od' → R (.ok (.ret .none)) { s with heap := h', toks := s.toks + 1 }) :
    codeAny (model prog w) A (.call (.builtin "object.__setattr__") ⟨[.ref x, .str name tk, v], []⟩) R s := by
  refine osa_open X I hp ht fun b => ?_
  obtain ⟨cd, hc, hd'⟩ := any_some hh
  obtain ⟨hx, hcl, hn, D⟩ := I
  obtain ⟨oc, odi, oda, osl⟩ := ox
  dsimp only at hcl hd D
  subst hcl hd
  dsimp only at D
  have D' : (s.heap.update dx (Obj.putName name (PyData.keyHash w.params name) (.str name s.toks) v)).get? dx = some od' := by
    have q := Heap.get?_update_self (Obj.putName name (PyData.keyHash w.params name) (.str name s.toks) v) D (by rw [e]; obtain ⟨_, _, dd, _⟩ := od'; cases e'; rfl)
    rw [e] at q; exact q
  refine wpAny_bind (wpAny_pure (wpAny_bind (wpAny_bind (wpAny_loadPart hx (wpAny_bind ((looks_clsIn X hc).here ?_))))))
  rw [hd']
  refine wpAny_pure (a := some dx) (wpAny_bind (wpAny_pure (wpAny_bind ?_)))
  unfold nsSet
  refine wpAny_bind (wpAny_bind (wpAny_askSetting (wpAny_pure (wpAny_bind (wpAny_mkText (wpAny_bind (wpAny_loadPart D ?_)))))))
  unfold lookIn at hl
  split at hl
  · rename_i es₀ n₀ q
    rw [q]
    dsimp only
    have c : (!es₀.any (·.key.isStr name) && es₀.any (·.refKey)) = false := by
      rw [← Array.any_toList, ← Array.any_toList]
      split at hl
      · rename_i en he
        rw [List.any_eq_true.mpr ⟨en, List.mem_of_find?_eq_some he, List.find?_some he⟩]; rfl
      · split at hl
        · cases hl
        · rename_i z; rw [Bool.not_eq_true] at z; rw [z, Bool.and_false]
    rw [aRefKeyMayBeTheName_at, c]
    refine wpAny_updatePart D ?_
    refine wpAny_bind (wpAny_lookBehind D' (by rw [e']; exact pastItsLine_dict (by rw [List.size_toArray, sizeLine_eq]; omega)) ?_)
    exact wpAny_pure (h _ (Heap.SameBut.update ..) D')
  · cases hl
theorem Rf.append {g : Fz} : ∀ {fs : List (Str × D)} {es : List DictEntry}, Rf g fs es → ∀ {k : Str} {d : D} {hk : Int} {t : Tok} {v : Value}, R g d v → Rf g (fs ++ [(k, d)]) (es ++ [⟨hk, .str k t, v⟩])
  | [], es, h, k, d, hk, t, v, r => by subst h; simp only [List.nil_append, Rf]; exact ⟨hk, t, v, [], rfl, r, rfl⟩
  | (k', d') :: fs, es, h, k, d, hk, t, v, r => by
    obtain ⟨hk', t', v', rr, rfl, h1, h2⟩ := h
    simp only [List.cons_append, Rf]
    exact ⟨hk', t', v', _, rfl, h1, Rf.append h2 r⟩
theorem Rf.length {g : Fz} : ∀ {fs : List (Str × D)} {es : List DictEntry}, Rf g fs es → es.length = fs.length
  | [], es, h => by subst h; rfl
  | (k, d) :: fs, es, h => by
    obtain ⟨hk, t, v, r, rfl, _, h2⟩ := h
    simp [Rf.length h2]
theorem Rf.absent {g : Fz} {name : Str} : ∀ {fs : List (Str × D)} {es : List DictEntry}, Rf g fs es → lookS name fs = none → es.findIdx? (·.key.isStr name) = none ∧ es.find? (·.key.isStr name) = none ∧ es.any (·.refKey) = false
  | [], es, h, _ => by subst h; exact ⟨rfl, rfl, rfl⟩
  | (k, d) :: fs, es, h, hn => by
    obtain ⟨hk, t, v, r, rfl, _, h2⟩ := h
    simp only [lookS] at hn
    split at hn
    · cases hn
    · rename_i q
      obtain ⟨i1, i2, i3⟩ := Rf.absent h2 hn
      have e : (Value.str k t).isStr name = false := by simp [Value.isStr, q]
      refine ⟨?_, ?_, ?_⟩
      · rw [List.findIdx?_cons]; simp only [e, i1]; rfl
      · rw [List.find?_cons]; simp only [e]; exact i2
      · rw [List.any_cons, i3]; rfl
def RF (g : Fz) : Fl → Flow → Prop
  | .next, f => f = .next
  | .brk, f => f = .brk
  | .cont, f => f = .cont
  | .ret d, f => ∃ v, f = .ret v ∧ R g d v
inductive PF (X : Cx) (env : Env) (kb : Fz) (av : Addr → Prop) (g : Fz) (K : Fl → St → Prop) (f : Flow) (s' : Shared) : Prop
  | mk (g' : Fz) (fl : Fl) (st' : St) (h : Sub g g') (F : InF X env true kb av g' st' s') (r : RF g' fl f) (q : K fl st') : PF X env kb av g K f s'
def SndS (X : Cx) (env : Env) (n : Nat) (t : Sem Flow) (K : Fl → St → Prop) (st : St) : Prop :=
  ∀ A kb av g s, Rm X env true kb av A n → InF X env true kb av g st s → W X env A kb t (PF X env kb av g K) s
inductive PA (X : Cx) (env : Env) (kb : Fz) (av : Addr → Prop) (g : Fz) (KK : St → Prop) (s' : Shared) : Prop
  | mk (g' : Fz) (st' : St) (h : Sub g g') (F : InF X env true kb av g' st' s') (q : KK st') : PA X env kb av g KK s'
inductive PS (X : Cx) (env : Env) (kb : Fz) (av : Addr → Prop) (g : Fz) (KK : St → Prop) (s' : Shared) : Prop
  | mk (st' : St) (F : InF X env true kb av g st' s') (q : KK st') : PS X env kb av g KK s'
def wpS (X : Cx) (n : Nat) (c : Stmt) (K : Fl → St → Prop) (st : St) : Prop := ∀ env, okS X.isG env.scope.names c = true → SndS X env n (exec c env) K st
def wpSs (X : Cx) (n : Nat) (cs : List Stmt) (K : Fl → St → Prop) (st : St) : Prop := ∀ env, okSs X.isG env.scope.names cs = true → SndS X env n (execs cs env) K st
def wpSet (X : Cx) (n : Nat) (o i d : D) (KK : St → Prop) (st : St) : Prop := ∀ env A kb av g s ov iv v, InF X env true kb av g st s → R g o ov → R g i iv → R g d v → W X env A kb (setItem ov iv v) (fun _ s' => PS X env kb av g KK s') s
def wpSetA (X : Cx) (n : Nat) (o : D) (name : Str) (d : D) (KK : St → Prop) (st : St) : Prop := ∀ env A kb av g s ov v, InF X env true kb av g st s → R g o ov → R g d v → W X env A kb (setAttr ov name v) (fun _ s' => PS X env kb av g KK s') s

section
variable {X : Cx} {env : Env} {rw : Bool} {n : Nat} {A : Around} {kb : Fz} {av : Addr → Prop} {g g' : Fz} {st st' : St} {s s' : Shared} {hp hp' : Hp} {loc : Str → Option D} {K : Fl → St → Prop} {Q : D → St → Prop} {KK : St → Prop}
theorem PF.up {K : Fl → St → Prop} (h : Sub g g') {v : Flow} {s : Shared} (p : PF X env kb av g' K v s) : PF X env kb av g K v s :=
  let ⟨g2, d, st', h1, h2, h3, h4⟩ := p; ⟨g2, d, st', h.trans h1, h2, h3, h4⟩
theorem okSt_of {names : Names} {x : Str} (h : okSt X.isG env.scope.names x = true) : env.kindOf x = some .local ∨ env.kindOf x = some .cell := by
  simp only [okSt, Bool.and_eq_true, Bool.or_eq_true, beq_iff_eq] at h
  exact h.2
theorem okSt_g {x : Str} (h : okSt X.isG env.scope.names x = true) : X.G x = none := by
  simp only [okSt, Bool.and_eq_true, Bool.not_eq_true', Cx.isG] at h
  simpa using h.1.2
theorem set_at {a : Addr} {k : Int} {d : D} {xs : List D} (e : hp a = some (.list xs)) (hl : xs.length ≤ 16000000) (h0 : 0 ≤ k) (h1 : k < xs.length) (h : KK ⟨loc, updH hp a (some (.list (xs.set k.toNat d)))⟩) : wpSet X n (.addr a) (.int k) d KK ⟨loc, hp⟩ := fun env A kb av g s ov iv v F ro ri r => by
  obtain rfl := ro.addr'
  obtain ⟨t, rfl⟩ := ri.int'
  obtain ⟨its, c, hc, hrs⟩ := (F.sat.hph _ _ e).1
  have hl' := hrs.length
  simp only [Array.length_toList] at hl'
  refine ki_setAt (n := c) hc h0 (by omega) (by omega) ?_
  refine ⟨_, F.setObj (mo' := .list (xs.set k.toNat d)) e (Heap.SameBut.update ..) ?_, h⟩
  refine ⟨its.setIfInBounds k.toNat v, _, Heap.get?_update_self _ hc rfl, ?_⟩
  rw [Array.toList_setIfInBounds]
  exact hrs.set r _
theorem set_dict {a : Addr} {k : Int} {d : D} {es : List (Int × D)} (e : hp a = some (.dict es)) (hle : es.length ≤ 16000000)
    (h : KK ⟨loc, updH hp a (some (.dict (if es.any (fun e => e.1 = k) then es.map (fun e => if e.1 = k then (e.1, d) else e) else es ++ [(k, d)])))⟩) : wpSet X n (.addr a) (.int k) d KK ⟨loc, hp⟩ := fun env A kb av g s ov iv v F ro ri r => by
  obtain rfl := ro.addr'
  obtain ⟨t, rfl⟩ := ri.int'
  obtain ⟨hsy, kvs, hd, hk⟩ := (F.sat.hph _ _ e).1
  refine wpAny_setItem_pairs (knd := intKind X.prog X.w) (k := k) (by simp [intKind, Value.isInt]) hd (fun h' hd' hs' => ?_) (sizeLine_ge (by rw [Rk.length hk]; exact hle))
  have F' := F.setObj (h' := h') (mo' := .dict (if es.any (fun e => e.1 = k) then es.map (fun e => if e.1 = k then (e.1, d) else e) else es ++ [(k, d)])) e hs' ⟨hsy, _, hd', ?_⟩
  · exact ⟨_, F'.toks _, h⟩
  · obtain ⟨q1, q2, q3⟩ := Rk.stored (k := k) r hk
    unfold stored
    rw [q3]
    split
    · exact q1
    · exact q2
theorem set_attr (ok : X.Ok) {a C dd : Addr} {fs : List (Str × D)} {name : Str} {d : D} (h1 : hp a = some (.inst C dd)) (h2 : hp dd = some (.ns fs)) (hl : fs.length ≤ 100) (hAt : X.At C name = true) (hn : lookS name fs = none)
    (h : KK ⟨loc, updH hp dd (some (.ns (fs ++ [(name, d)])))⟩) : wpSetA X n (.addr a) name d KK ⟨loc, hp⟩ := fun env A kb av g s ov v F ro r => by
  obtain rfl := ro.addr'
  have q1 := (F.sat.hph _ _ h1).1
  obtain ⟨ents, k, q2, q3⟩ := (F.sat.hph _ _ h2).1
  obtain ⟨p1, p2, p3, p4, p5⟩ := ok.attr C name hAt
  have I : InstAt s.heap a { cls := .ref C, dict := some dd, data := .plain } C (some (dictOf ents.toList k)) := ⟨q1, rfl, rfl, by show _ = some (dictOf _ _); rw [q2]⟩
  obtain ⟨a1, a2, a3⟩ := q3.absent hn
  refine set_plain (F.sat.kin ok) I p4 ?_
  refine osa_heap (s := { s with toks := s.toks + 1 }) (es := ents.toList ++ [(⟨PyData.keyHash X.w.params name, .str name (s.toks + 1), v⟩ : DictEntry)]) (n := k + 1) (od' := { cls := .type "dict", data := .dict (ents.toList ++ [(⟨PyData.keyHash X.w.params name, .str name (s.toks + 1), v⟩ : DictEntry)]).toArray (k + 1) }) ((F.toks (s.toks + 1)).sat.kin ok) I rfl p5 (by unfold takerIn; rw [p3]; rfl) p2 ?_ ?_ rfl (by have := q3.length; simp; simp at this; omega) ?_
  · show (lookIn name (dictOf ents.toList k)).isSome = true
    simp only [lookIn, dictOf, a2, a3]; rfl
  · rw [Obj.putName_eq]
    simp only [Obj.putNameByArray, dictOf]
    rw [show (ents.toList.toArray.findIdx? fun x => x.key.isStr name) = none by rw [List.findIdx?_toArray]; exact a1]
    simp
    apply Array.ext'
    simp
  · intro h' hs' hg'
    have F' := F.setObj (h' := h') (mo' := .ns (fs ++ [(name, d)])) h2 hs' ⟨_, _, hg', by simpa using q3.append r⟩
    exact ⟨_, F'.toks _, h⟩

/-! ## the order of statements -/
def seqK (X : Cx) (n : Nat) (r : List Stmt) (K : Fl → St → Prop) : Fl → St → Prop := fun f st => match f with
  | .next => wpSs X n r K st
  | .brk => K .brk st
  | .cont => K .cont st
  | .ret d => K (.ret d) st
theorem ss_nil (h : K .next st) : wpSs X n [] K st := fun env hok A kb av g s hr F => wpAny_execs_nil ⟨g, .next, st, Sub.rfl', F, rfl, h⟩
theorem ss_sh {c : Stmt} {r : List Stmt} (hsh : Shift st st') (h : wpS X n c (seqK X n r K) st') : wpSs X n (c :: r) K st := fun env hok A kb av g s hr F => by
  obtain ⟨o1, o2⟩ := and2 hok
  obtain ⟨g', sub, F'⟩ := hsh.ok F
  refine wpAny_execs_cons (wpAny_mono (h env o1 A kb av g' s hr F') (fun f s₁ ⟨g₁, fl, st₁, q1, F₁, rf, hK⟩ => ?_) fun _ _ x => x)
  have sub₁ := sub.trans q1
  cases fl with
  | next => rw [show f = .next from rf]; exact wpAny_mono ((show wpSs X n r K st₁ from hK) env o2 A kb av g₁ s₁ hr F₁) (fun _ _ x => x.up sub₁) fun _ _ x => x
  | cont => rw [show f = .cont from rf]; exact ⟨g₁, .cont, st₁, sub₁, F₁, rfl, hK⟩
  | brk => rw [show f = .brk from rf]; exact ⟨g₁, .brk, st₁, sub₁, F₁, rfl, hK⟩
  | ret d => obtain ⟨w, rfl, rw'⟩ := rf; exact ⟨g₁, .ret d, st₁, sub₁, F₁, ⟨w, rfl, rw'⟩, hK⟩
theorem Shift.rfl' {st : St} : Shift st st := ⟨fun _ => False, fun a m h => ⟨id, m, h, .rfl m⟩, fun x d h => ⟨d, h, .rfl d⟩⟩
theorem ss_cons {c : Stmt} {r : List Stmt} (h : wpS X n c (seqK X n r K) st) : wpSs X n (c :: r) K st := ss_sh Shift.rfl' h
def Le (l l' : Str → Option D) : Prop := ∀ k d, l k = some d → l' k = some d
theorem ss_le {loc loc' : Str → Option D} {cs : List Stmt} (h : Le loc' loc) (h' : wpSs X n cs K ⟨loc', hp⟩) : wpSs X n cs K ⟨loc, hp⟩ := fun env hok A kb av g s hr F => by
  obtain ⟨g', sub, F'⟩ := Shift.ok (st := ⟨loc, hp⟩) (st' := ⟨loc', hp⟩) F ⟨fun _ => False, fun a m h => ⟨id, m, h, .rfl m⟩, fun x d e => ⟨d, h x d e, .rfl d⟩⟩
  exact wpAny_mono (h' env hok A kb av g' s hr F') (fun _ _ x => x.up sub) fun _ _ x => x
theorem seq_next {r : List Stmt} (h : wpSs X n r K st) : seqK X n r K .next st := h
theorem seq_ret {r : List Stmt} {d : D} (h : K (.ret d) st) : seqK X n r K (.ret d) st := h
def callK (Q : D → Hp → Prop) : Fl → St → Prop := fun fl st => match fl with | .ret d => Q d st.hp | .next => Q .none st.hp | _ => False
theorem callK_ret {Q : D → Hp → Prop} {d : D} (h : Q d hp) : callK Q (.ret d) ⟨loc, hp⟩ := h
theorem callK_next {Q : D → Hp → Prop} (h : Q .none hp) : callK Q .next ⟨loc, hp⟩ := h

/-! ## statements -/
theorem swaps_false {v : Expr} {t : Option Expr} {line : Nat} (h : isComp v = false) (hok : okE X.isG env.scope.names v = true) : swapsWith v t line env = pure false := by
  cases v <;> first | rfl | exact Bool.noConfusion (h : true = false) | exact Bool.noConfusion (hok : false = true)
abbrev kExpr (K : Fl → St → Prop) : D → St → Prop := fun _ st => K .next st
theorem s_expr {e : Expr} {p : Pos} (h : wpE X n e (kExpr K) st) : wpS X n (.Expr e p) K st := fun env hok A kb av g s hr F => by
  obtain ⟨o1, o2⟩ := and2 hok
  exact wpAny_Expr_any ((h env true o1).use hr F fun u s₁ g₁ d st₁ q1 F₁ q3 q4 => ⟨g₁, .next, st₁, q1, F₁, rfl, q4⟩) (by unfold interactive; rw [F.ok.kind]; rfl) (swaps_false (by simpa using o2) o1)
abbrev kRet (K : Fl → St → Prop) : D → St → Prop := fun d st => K (.ret d) st
theorem s_ret {e : Expr} {p : Pos} (h : wpE X n e (kRet K) st) : wpS X n (.Return (some e) p) K st := fun env hok A kb av g s hr F =>
  wpAny_Return_some ((h env true hok).use hr F fun u s₁ g₁ d st₁ q1 F₁ q3 q4 => ⟨g₁, .ret d, st₁, q1, F₁, ⟨_, rfl, q3⟩, q4⟩)
def ifK (X : Cx) (n : Nat) (b o : List Stmt) (K : Fl → St → Prop) : Bool → St → Prop := fun r st => if r = true then wpSs X n b K st else wpSs X n o K st
theorem s_if {t : Expr} {b o : List Stmt} {p : Pos} (h : wpT X n t (ifK X n b o K) st) : wpS X n (.If t b o p) K st := fun env hok A kb av g s hr F => by
  obtain ⟨o1, o3⟩ := and2 hok
  obtain ⟨o1, o2⟩ := and2 o1
  refine wpAny_If (wpAny_mono (h env true o1 A kb av g s hr F) (fun r s₁ ⟨g₁, st₁, q1, F₁, q4⟩ => ?_) fun _ _ x => x)
  cases r with
  | true => exact wpAny_mono ((show wpSs X n b K st₁ from q4) env o2 A kb av g₁ s₁ hr F₁) (fun _ _ x => x.up q1) fun _ _ x => x
  | false => exact wpAny_mono ((show wpSs X n o K st₁ from q4) env o3 A kb av g₁ s₁ hr F₁) (fun _ _ x => x.up q1) fun _ _ x => x
theorem if_t {b o : List Stmt} {r : Bool} (hr : r = true) (h : wpSs X n b K st) : ifK X n b o K r st := by subst hr; exact h
theorem if_f {b o : List Stmt} {r : Bool} (hr : r = false) (h : wpSs X n o K st) : ifK X n b o K r st := by subst hr; exact h

/-! ## assignments -/
theorem asg_plain {t v : Expr} {p : Pos} (h1 : swapsWith v (some t) p.line env = pure false) (h2 : swappedStores [t] v env = pure none) (ha : ((assignEach [t] env).map (·.2)) = [assign t env]) (hv : okE X.isG env.scope.names v = true)
    (h : wpE X n v Q st) (k : ∀ A kb av g s u d st₁, Rm X env true kb av A n → InF X env true kb av g st₁ s → R g d u → Q d st₁ → W X env A kb (assign t env u) (fun _ s' => PA X env kb av g (fun st => K .next st) s') s) : SndS X env n (exec (.Assign [t] v p) env) K st := fun A kb av g s hr F => by
  rw [exec_Assign]
  refine wpAny_bind (wpAny_standAt ?_)
  rw [show swapsWithSole [t] v p.line env = pure false from h1]
  refine wpAny_bind (wpAny_pure ?_)
  rw [if_neg (by decide)]
  refine wpAny_bind ((h env true hv).use hr F fun u s₁ g₁ d st₁ q1 F₁ q3 q4 => ?_)
  rw [h2]
  refine wpAny_bind (wpAny_pure ?_)
  rw [ha]
  show wpAny _ A (do assignAll u [assign t env]; pure Flow.next) _ _ s₁
  exact wpAny_bind (wpAny_mono (k A kb av g₁ s₁ u d st₁ hr F₁ q3 q4) (fun _ s₂ ⟨g₂, st₂, k1, F₂, k3⟩ => wpAny_pure ⟨g₂, .next, st₂, q1.trans k1, F₂, rfl, k3⟩) fun _ _ x => x)
def kStore (x : Str) (K : Fl → St → Prop) : D → St → Prop := fun d st => K .next ⟨updL st.loc x d, st.hp⟩
theorem asg_name {x : Str} {px : Pos} {v : Expr} {p : Pos} (hs : swapsWith v (some (.Name x px)) p.line env = pure false) (hv : okE X.isG env.scope.names v = true) (hx : okSt X.isG env.scope.names x = true) (h : wpE X n v (kStore x K) st) : SndS X env n (exec (.Assign [.Name x px] v p) env) K st :=
  asg_plain hs (by cases v <;> rfl) rfl hv h fun A kb av g s u d st₁ hr F r hk => wpAny_assign_Name (store_ok F r (okSt_of (names := []) hx) (okSt_g hx) fun s' F' _ => ⟨g, _, Sub.rfl', F', hk⟩)
theorem s_asg {x : Str} {px p : Pos} {v : Expr} (hc : isComp v = false) (h : wpE X n v (kStore x K) st) : wpS X n (.Assign [.Name x px] v p) K st := fun env hok => by
  obtain ⟨o1, o2⟩ := and2 hok
  exact asg_name (swaps_false hc o1) o1 o2 h
abbrev kSub3 (X : Cx) (n : Nat) (od d : D) (K : Fl → St → Prop) : D → St → Prop := fun id st => wpSet X n od id d (fun st => K .next st) st
abbrev kSub2 (X : Cx) (n : Nat) (i : Expr) (d : D) (K : Fl → St → Prop) : D → St → Prop := fun od st => wpE X n i (kSub3 X n od d K) st
abbrev kSub (X : Cx) (n : Nat) (o i : Expr) (K : Fl → St → Prop) : D → St → Prop := fun d st => wpE X n o (kSub2 X n i d K) st
theorem s_sub {o i v : Expr} {q p : Pos} (h : wpE X n v (kSub X n o i K) st) : wpS X n (.Assign [.Subscript o i q] v p) K st := fun env hok => by
  obtain ⟨o1, o2⟩ := and2 hok
  obtain ⟨o2, o3⟩ := and2 (show (okE X.isG env.scope.names o && okE X.isG env.scope.names i) = true from o2)
  refine asg_plain (by cases v <;> rfl) (by cases v <;> rfl) rfl o1 h fun A kb av g s u d st₁ hr F r hk => ?_
  rw [assign_Subscript]
  refine wpAny_bind (wpAny_holding ((hk env true o2).use hr F fun ov s₁ g₁ od st₁ h1 F₁ h3 h4 => wpAny_bind (wpAny_holding ((h4 env true o3).use hr F₁ fun iv s₂ g₂ id st₂ k1 F₂ k3 k4 => ?_))))
  exact wpAny_bind (wpAny_standAt (wpAny_bind (wpAny_holding (wpAny_mono (k4 env A kb av g₂ s₂ ov iv u F₂ (h3.sub k1) k3 (r.sub (h1.trans k1))) (fun _ s₃ ⟨st₃, F₃, hk⟩ => wpAny_release ⟨g₂, st₃, h1.trans k1, F₃, hk⟩) fun _ _ x => x))))
abbrev kAt2 (X : Cx) (n : Nat) (name : Str) (d : D) (K : Fl → St → Prop) : D → St → Prop := fun od st => wpSetA X n od name d (fun st => K .next st) st
abbrev kAt (X : Cx) (n : Nat) (o : Expr) (name : Str) (K : Fl → St → Prop) : D → St → Prop := fun d st => wpE X n o (kAt2 X n name d K) st
theorem s_attr {o v : Expr} {name : Str} {q p : Pos} (h : wpE X n v (kAt X n o name K) st) : wpS X n (.Assign [.Attribute o name q] v p) K st := fun env hok => by
  obtain ⟨o1, o2⟩ := and2 hok
  refine asg_plain (by cases v <;> rfl) (by cases v <;> rfl) rfl o1 h fun A kb av g s u d st₁ hr F r hk => ?_
  rw [assign_Attribute]
  refine wpAny_bind (wpAny_holding ((hk env true o2).use hr F fun ov s₁ g₁ od st₁ h1 F₁ h3 h4 => ?_))
  exact wpAny_bind (wpAny_standAt (wpAny_bind (wpAny_holding (wpAny_mono (h4 env A kb av g₁ s₁ ov u F₁ h3 (r.sub h1)) (fun _ s₂ ⟨st₂, F₂, hk⟩ => wpAny_release ⟨g₁, st₂, h1, F₂, hk⟩) fun _ _ x => x))))
end
end Mine

namespace Mine
open PySem PySem.W PyProof.Rows PySem.Spec
section
variable {X : Cx} {env : Env} {rw : Bool} {n : Nat} {A : Around} {kb : Fz} {av : Addr → Prop} {g g' : Fz} {st st' : St} {s s' : Shared} {hp hp' : Hp} {loc : Str → Option D} {K : Fl → St → Prop} {Q : D → St → Prop}
theorem swaps_comp {elt : Expr} {gens : List Comprehension} {sc : Scope} {q : Pos} {x : Str} {p : Pos} {line : Nat} : ∃ b, swapsWith (.ListComp elt gens sc q) (some (.Name x p)) line env = pure b ∧ (b = true → env.kindOf x = some .local) := by
  refine ⟨_, rfl, fun h => ?_⟩
  simp only [Bool.and_eq_true, beq_iff_eq] at h
  exact h.1.1.2
theorem InF.take2 {rw : Bool} (F : InF X env rw kb av g st s) {a : Addr} (L : Loose env kb g st.hp s a) {xs : List D} {its : Array Value} {k : Nat} {Q : D → St → Prop} (ho : s.heap.get? a = some { cls := .type "list", data := .seq its k })
    (hs : Rs g xs its.toList) (h : New xs Q st) : ∃ g' d st', Sub g g' ∧ InF X env rw kb av g' st' s ∧ R g' d (.ref a) ∧ Q d st' ∧ ∀ C, C ≠ a → Loose env kb g st.hp s C → Loose env kb g' st'.hp s C := by
  rcases h.2 with h | h
  · have sub := Sub.updG (o := { cls := .type "list", data := .seq its k }) L.g
    refine ⟨_, _, st, sub, F.next (F.sat.grow ho L.k L.h L.g) sub (fun _ _ _ e => e) (fun b hb => ?_) (fun _ h => F.own_hp h), ?_, h, fun C hC LC => ⟨LC.k, ?_, LC.h, LC.o, LC.ex⟩⟩
    · unfold updG; rw [if_neg fun (q : b = a) => L.o (q ▸ hb)]; exact F.own_g hb
    · change ∃ _, _
      exact ⟨_, its, rfl, ⟨k, by unfold updG; rw [if_pos rfl]⟩, hs.sub sub⟩
    · unfold updG; rw [if_neg hC]; exact LC.g
  · refine ⟨g, _, _, Sub.rfl', F.next (F.sat.put (mo := .list xs) L.k L.g ⟨its, k, ho, hs⟩) Sub.rfl' (fun _ _ _ e => e) (fun _ h => F.own_g h) (fun b hb => ?_), R.addr_, h _ L.h, fun C hC LC => ⟨LC.k, LC.g, ?_, LC.o, LC.ex⟩⟩
    · unfold updH; rw [if_neg fun (q : b = a) => L.o (q ▸ hb)]; exact F.own_hp hb
    · show updH st.hp a _ C = none
      unfold updH; rw [if_neg hC]; exact LC.h
theorem s_asgc [Hn X] {elt iter : Expr} {y x : Str} {py px p q : Pos} {ifs : List Expr} {a : Int} {scope : Scope} (h : wpE X n iter (kComp X n ifs elt y (kStore x K)) st) : wpS X n (.Assign [.Name x px] (.ListComp elt [⟨.Name y py, iter, ifs, a⟩] scope q) p) K st := fun env hok A kb av g s hr F => by
  obtain ⟨o1, o2⟩ := and2 hok
  obtain ⟨b, e, h2⟩ := swaps_comp (env := env) (elt := elt) (gens := [⟨.Name y py, iter, ifs, a⟩]) (sc := scope) (q := q) (x := x) (p := px) (line := p.line)
  cases b with
  | false => exact asg_name e o1 o2 (e_comp h) A kb av g s hr F
  | true =>
    have hx := h2 rfl
    obtain ⟨p1, p2⟩ := and2 o1
    obtain ⟨q1, o5⟩ := and2 (show (okScope env.scope.names scope y && !X.isG y && okE X.isG env.scope.names iter && okEs X.isG (relab env.scope.names scope) ifs && a == 0) = true from p1)
    obtain ⟨q2, o4⟩ := and2 q1
    obtain ⟨q3, o3⟩ := and2 q2
    obtain ⟨q3, q4⟩ := and2 q3
    have q4 : X.G y = none := by simpa [Cx.isG] using q4
    obtain rfl := beq_iff_eq.mp o5
    rw [exec_Assign_Name_used _ _ _ _ e]
    refine wpAny_bind (wpAny_standAt (wpAny_bind ?_))
    show wpAny _ A (do let _ ← comprehension (.ListComp elt [⟨.Name y py, iter, ifs, 0⟩] scope q) scope env (firstIterPos [⟨.Name y py, iter, ifs, 0⟩] q) (newList []) false (eval iter env) (some (assign (.Name x px) env))) _ _ s
    refine wpAny_bind (wpAny_mono (comp_gen (use := some (assign (.Name x px) env)) (QQ := fun _ s' => PF X env kb av g K .next s') q3 q4 p2 o4 o3 hr F h
      fun g' st' s' Dd C m its k ds sub F' LD LC hne hD hrs hn hNew => ?_) (fun _ _ q => wpAny_pure (wpAny_pure q)) fun _ _ x => x)
    show wpAny _ A (assign (.Name x px) env (.ref Dd)) _ _ s'
    refine wpAny_assign_Name ?_
    obtain ⟨g₁, d, st₁, q1, F₁, r₁, hK, hlo⟩ := F'.take2 LD hD hrs hNew
    have LC₁ := hlo C hne LC
    refine store_ok F₁ r₁ (.inl hx) (okSt_g o2) fun s'' F'' hk => ?_
    have hn'' : s''.heap.Ns C m := hn.at' fun o e => hk _ _ LC.o e
    refine ⟨m, hn'', fun h' hs' => ⟨g₁, .next, _, sub.trans q1, F''.extI (s' := { s'' with heap := h' }) ?_ (fun b o hb e => hs'.extBut b o hb e), rfl, hK⟩⟩
    exact ⟨LC₁.k, LC₁.g, LC₁.h, LC₁.o, let ⟨o, _, _, ho, _⟩ := hn''; ⟨o, ho⟩⟩
def forF (X : Cx) (n : Nat) (x : Str) (body : List Stmt) : D → (Fl → St → Prop) → St → Prop := fun y K' st' => wpSs X n body K' ⟨updL st'.loc x y, st'.hp⟩
abbrev kFor (X : Cx) (n : Nat) (x : Str) (body : List Stmt) (K : Fl → St → Prop) : D → St → Prop := fun src st => ∃ xs, itemsOf st.hp src = some xs ∧ forG (forF X n x body) src xs xs K st
inductive FInv (X : Cx) (env : Env) (n : Nat) (kb : Fz) (av : Addr → Prop) (g : Fz) (I : Addr) (src : D) (v : Value) (xs : List D) (x : Str) (body : List Stmt) (K : Fl → St → Prop) (j : Nat) (s' : Shared) : Prop
  | mk (i : Nat) (g' : Fz) (st' : St) (e : j = xs.length + 1 - i) (hi : i ≤ xs.length) (h : Sub g g') (F : InF X env true kb av g' st' s') (L : Loose env kb g' st'.hp s' I) (hI : ItAt src v I i s'.heap) (hG : forG (forF X n x body) src xs (xs.drop i) K st') : FInv X env n kb av g I src v xs x body K j s'
theorem s_for [Hn X] {x : Str} {px p : Pos} {iter : Expr} {body : List Stmt} (h : wpE X n iter (kFor X n x body K) st) : wpS X n (.For (.Name x px) iter body [] p) K st := fun env hok A kb av g s hr F => by
  obtain ⟨h1, h3⟩ := and2 hok
  obtain ⟨h1, h2⟩ := and2 h1
  refine wpAny_For (wpAny_mono (h env true h1 A kb av g s hr F) (fun v s₁ ⟨g₁, src, st₁, sub₁, F₁, rv, hx⟩ => ?_) fun _ _ x => x) (okE_folded h1 env)
  obtain ⟨xs, hit, hG⟩ := hx
  refine wpAny_mono (it_new F₁ rv hit) (fun it s₂ ⟨I, hI, F₂, LI, hIt, hk₂⟩ => ?_) fun _ _ x => x
  subst hI
  refine codeAny_forLoop (FInv X env n kb av g₁ I src v xs x body K) ?_ (xs.length + 1) ⟨0, g₁, st₁, by omega, by omega, Sub.rfl', F₂, LI, hIt, by simpa using hG⟩
  rintro j s₃ ⟨i, g₃, st₃, rfl, hi, sub₃, F₃, L₃, hI₃, hG₃⟩
  by_cases hlt : i < xs.length
  · have hd : xs.drop i = xs[i] :: xs.drop (i + 1) := List.drop_eq_getElem_cons hlt
    rw [hd] at hG₃
    simp only [forG] at hG₃
    obtain ⟨hit₃, hG₃⟩ := hG₃
    refine wpAny_mono (it_item F₃ (rv.sub sub₃) hit₃ L₃ hI₃ (List.getElem?_eq_getElem hlt)) (fun q s₄ ⟨u, hu, ru, F₄, L₄, hI₄, hk₄⟩ => ?_) fun _ _ x => x
    subst hu
    refine wpAny_assign_Name (store_ok F₄ ru (okSt_of (names := []) h2) (okSt_g h2) fun s₅ F₅ hk₅ => ?_)
    have L₅ : Loose env kb g₃ st₃.hp s₅ I := ⟨L₄.k, L₄.g, L₄.h, L₄.o, let ⟨o, ho⟩ := L₄.ex; ⟨o, hk₅ _ _ L₄.o ho⟩⟩
    have hI₅ : ItAt src v I (i + 1) s₅.heap := hI₄.at' (by obtain ⟨o, ho⟩ := L₄.ex; rw [ho]; exact hk₅ _ _ L₄.o ho)
    have F₆ := F₅.push (P := fun b => b = I) (by rintro b rfl; exact L₅)
    have hrF : Rm X env true (addK X kb (fun b => b = I) s₅.heap) (fun b => av b ∨ b = I) A n := by
      obtain ⟨f, l, L, h1, h2, h3, h4, h5, h6⟩ := hr.fr
      exact ⟨hr.toRoom, hr.hd, hr.rwc, fun q1 q2 => (hr.hk q1 q2).mono fun b o q => F₅.sat.up q, f, l, L, h1, h2, h3, h4, h5.imp id fun q => ⟨q.1, q.2.mono (fun b o q => F₅.sat.up q) fun b hb => .inl hb⟩, fun f' hf' => (h6 f' hf').mono (fun b o q => F₅.sat.up q) fun b hb => .inl hb⟩
    refine wpAny_mono ((show wpSs X n body _ _ from hG₃) env h3 A _ _ g₃ s₅ hrF F₆) (fun f s₇ ⟨g₇, fl, st₇, q1, F₇, rf, hK⟩ => ?_) fun _ _ x => (x.mono fun b o q => F₅.sat.up q).passes hr.fr
    obtain ⟨F₈, hP⟩ := F₅.pop F₇ (by rintro b rfl; exact L₅)
    obtain ⟨eI, L₈⟩ := hP I rfl
    have again : forG (forF X n x body) src xs (xs.drop (i + 1)) K st₇ → ∃ m, m < xs.length + 1 - i ∧ FInv X env n kb av g₁ I src v xs x body K m s₇ := fun hh =>
      ⟨xs.length + 1 - (i + 1), by omega, i + 1, g₇, st₇, rfl, by omega, sub₃.trans q1, F₈, L₈, hI₅.at' eI, hh⟩
    cases fl with
    | next => rw [show f = .next from rf]; exact again hK
    | cont => rw [show f = .cont from rf]; exact again hK
    | brk => rw [show f = .brk from rf]; exact ⟨g₇, .next, st₇, (sub₁.trans sub₃).trans q1, F₈, rfl, hK⟩
    | ret d => obtain ⟨w, rfl, rw'⟩ := rf; exact ⟨g₇, .ret d, st₇, (sub₁.trans sub₃).trans q1, F₈, ⟨w, rfl, rw'⟩, hK⟩
  · have hie : i = xs.length := by omega
    subst hie
    rw [List.drop_length] at hG₃
    simp only [forG] at hG₃
    obtain ⟨hit₃, hK⟩ := hG₃
    refine wpAny_mono (it_end F₃ (hr.hd Hn.h) (rv.sub sub₃) hit₃ L₃ hI₃) (fun q s₂ ⟨hq, F₂, hk₂⟩ => ?_) fun _ _ x => x
    subst hq
    exact wpAny_execs_nil ⟨g₃, .next, st₃, sub₁.trans sub₃, F₂, rfl, hK⟩
inductive WInv (X : Cx) (env : Env) (n : Nat) (kb : Fz) (av : Addr → Prop) (g : Fz) (t : Expr) (body : List Stmt) (K : Fl → St → Prop) (k : Nat) (s' : Shared) : Prop
  | mk (g' : Fz) (st' : St) (h : Sub g g') (F : InF X env true kb av g' st' s') (hG : whileG (fun K' st => wpT X n t K' st) (fun K' st => wpSs X n body K' st) k K st') : WInv X env n kb av g t body K k s'
end
def locOf (names : List Str) (ds : List D) : Str → Option D := fun x => (names.zip ds).lookup x

section
variable {kindOf : Str → Option NameKind}

theorem bindL_not {x : Str} : ∀ {l : List (Str × Value)} {m : Str → Option Value}, (∀ v, (x, v) ∉ l) → bindL kindOf l m x = m x
  | [], _, _ => rfl
  | (n, v) :: r, m, h => by
    have hx : x ≠ n := fun e => h v (by rw [e]; exact List.mem_cons_self)
    unfold bindL
    rw [bindL_not fun v' hm => h v' (List.mem_cons_of_mem _ hm)]
    split
    · exact if_neg hx
    · rfl
theorem bindC_not {x : Str} : ∀ {l : List (Str × Value)} {m : Str → Option Value}, (∀ v, (x, v) ∉ l) → bindC kindOf l m x = m x
  | [], _, _ => rfl
  | (n, v) :: r, m, h => by
    have hx : x ≠ n := fun e => h v (by rw [e]; exact List.mem_cons_self)
    unfold bindC
    rw [bindC_not fun v' hm => h v' (List.mem_cons_of_mem _ hm)]
    split
    · rfl
    · exact if_neg hx

theorem zip_not {x : Str} {names : List Str} {vs : List Value} (h : x ∉ names) : ∀ v, (x, v) ∉ names.zip vs := fun v hm => h (List.of_mem_zip hm).1

theorem bind_get {g : Fz} {x : Str} {d : D} : ∀ {names : List Str} {ds : List D} {vs : List Value} {m : Str → Option Value}, names.Nodup → Rs g ds vs → (names.zip ds).lookup x = some d →
    ∃ v, R g d v ∧ (kindOf x = some .local → bindL kindOf (names.zip vs) m x = some v) ∧ (kindOf x ≠ some .local → bindC kindOf (names.zip vs) m x = some v)
  | [], ds, vs, m, _, _, h => by simp at h
  | n :: names, [], vs, m, _, _, h => by simp at h
  | n :: names, d' :: ds, vs, m, hn, r, h => by
    obtain ⟨v, rr, rfl, r1, r2⟩ := r
    rw [List.nodup_cons] at hn
    rw [List.zip_cons_cons, List.lookup_cons] at h
    split at h
    · rename_i e
      have e' : x = n := by simpa using e
      subst e'
      cases h
      refine ⟨v, r1, fun hl => ?_, fun hl => ?_⟩
      · show bindL kindOf ((x, v) :: names.zip rr) m x = some v
        unfold bindL
        rw [bindL_not (zip_not hn.1), if_pos hl, if_pos rfl]
      · show bindC kindOf ((x, v) :: names.zip rr) m x = some v
        unfold bindC
        rw [bindC_not (zip_not hn.1), if_neg hl, if_pos rfl]
    · obtain ⟨u, q1, q2, q3⟩ := bind_get (m := if kindOf n = some .local then fun y => if y = n then some v else m y else m) hn.2 r2 h
      obtain ⟨u', q1', q2', q3'⟩ := bind_get (m := if kindOf n = some .local then m else fun y => if y = n then some v else m y) hn.2 r2 h
      by_cases hl : kindOf x = some .local
      · exact ⟨u, q1, fun _ => q2 hl, fun q => absurd hl q⟩
      · exact ⟨u', q1', fun q => absurd q hl, fun _ => q3' hl⟩
end

theorem cellsFrom_acc : ∀ {names : List (Str × NameKind)} {k : Nat} {acc : List (Str × Addr)} {x : Str}, (acc.lookup x).isSome = true → ((cellsFrom k names acc).lookup x).isSome = true
  | [], _, _, _, h => h
  | (n, kd) :: r, k, acc, x, h => by
    unfold cellsFrom
    split
    · refine cellsFrom_acc ?_
      rw [List.lookup_cons]
      split
      · rfl
      · exact h
    · exact cellsFrom_acc h

theorem cellsFrom_mem : ∀ {names : List (Str × NameKind)} {k : Nat} {acc : List (Str × Addr)} {x : Str}, (x, NameKind.cell) ∈ names → ((cellsFrom k names acc).lookup x).isSome = true
  | [], _, _, _, h => by cases h
  | (n, kd) :: r, k, acc, x, h => by
    unfold cellsFrom
    rcases List.mem_cons.mp h with e | e
    · cases e
      rw [if_pos (by decide)]
      refine cellsFrom_acc ?_
      rw [List.lookup_cons]
      simp
    · split <;> exact cellsFrom_mem e

theorem RmC.deeper {X : Cx} {A : Around} {n : Nat} {kb : Fz} {av : Addr → Prop} {env : Env} (h : RmC X kb av A (n + 1)) (h1 : env.scope.kind = .function) (h2 : env.frame = some env.locals) : Rm X env true kb av (A.deeper env) n := by
  obtain ⟨l, q1, q2⟩ := h.fr
  refine ⟨⟨?_, ?_⟩, h.hd, fun _ => rfl, h.hk, env, l, env.locals, Around.frames_deeper q1, by rw [h1]; decide, h2, h2, .inl ⟨rfl, rfl⟩, q2⟩
  · have := h.dep; show A.depth + 1 + n < _; omega
  · have := h.un; show A.units + 3 + 4 * n + 40 < _; omega
structure IsDef (X : Cx) (f : Addr) (names : List Str) (body : List Stmt) : Prop where
  ex : ∃ (fd : FuncData) (oc : Value) (od : Option Addr) (osl : Array (Option Value)), X.K.lookup f = some ⟨oc, od, .func fd, osl⟩ ∧ fd.globals = mainGlobals ∧ fd.closure = [] ∧ fd.builtins = builtinsNs ∧ fd.body = .stmts body ∧ codeIn X.K fd.code fd.qualname = true ∧
    (∀ vs : List Value, vs.length = names.length → bindArgs fd ⟨vs, []⟩ = pure (names.zip vs)) ∧ fd.scope.isCoroutine = false ∧ fd.scope.isGenerator = false ∧ fd.scope.kind = .function ∧
    (∀ x ∈ names, fd.scope.names.lookup x = some .local ∨ fd.scope.names.lookup x = some .cell) ∧ okSs X.isG fd.scope.names body = true ∧ ∀ x ∈ names, X.G x = none
  nodup : names.Nodup

theorem call_ok {X : Cx} (ok : X.Ok) {n : Nat} {f : Addr} {names : List Str} {body : List Stmt} (hf : IsDef X f names body) {ds : List D} {hp : Hp} {Q : D → Hp → Prop} (hl : ds.length = names.length)
    (h : wpSs X n body (callK Q) ⟨locOf names ds, hp⟩) : FS X (n + 1) f ds hp Q := by
  obtain ⟨⟨fd, oc, od, osl, hK, hgl, hclo, hbi, hbody, hcd, hbind, hco, hgen, hk, hnames, hok, hng⟩, hnd⟩ := hf
  refine ⟨by simp only [keepIn, hK], fun A kb av g s vs hr S rs => ?_⟩
  have KX := S.kin ok
  have hlv : vs.length = names.length := by rw [rs.length, hl]
  refine codeAny_call_cells (fd := fd) (body := body) (binds := names.zip vs) (by have := hr.dep; omega) (KX _ _ hK) rfl (ok.nolimit.keeps S.topk) (codeRec_of KX hcd) hbody (hbind vs hlv) hclo (fun x hx => ?_) (fun s₁ I => ?_) hco hgen hk
  · have hm := (List.of_mem_zip hx).1
    rcases hnames _ hm with e | e
    · exact .inl e
    · exact .inr ⟨e, cellsFrom_mem (mem_of_lookup e)⟩
  · generalize henv : callEnvC fd s.heap.objs.size f = env at I ⊢
    have hscope : env.scope = fd.scope := by rw [← henv]; rfl
    have hcells : env.cells = cellsFrom (s.heap.objs.size + 1) fd.scope.names [] := by rw [← henv]; rfl
    have hL : env.locals = s.heap.objs.size := by rw [← henv]; rfl
    have fresh : ∀ a, s.heap.objs.size ≤ a → s.heap.get? a = none := fun a ha => by
      cases e : s.heap.get? a with
      | none => rfl
      | some o' => exact absurd (Heap.lt_size e) (Nat.not_lt.mpr ha)
    have hc : ∀ x c, env.cells.lookup x = some c → s.heap.get? c = none ∧ c ≠ env.locals := fun x c hx => by
      have := I.above x c (mem_of_lookup hx)
      rw [hL] at this
      exact ⟨fresh c (Nat.le_of_lt this), by rw [hL]; exact (Nat.ne_of_lt this).symm⟩
    obtain ⟨h₁, tk, hs₁⟩ := I.toInCall.same
    have S₁ : Sat X kb av g hp s₁ := S.keeps I.toInCall.keep (by rw [hs₁]) (by rw [hs₁]) (by rw [hs₁])
    have F : InF X env true kb av g ⟨locOf names ds, hp⟩ s₁ := {
      sat := S₁
      ok := { kind := by rw [hscope]; exact hk
              globals := by rw [← henv]; exact hgl
              builtins := by rw [← henv]; exact hbi
              cel := fun x hx => by
                unfold Env.kindOf at hx
                rw [hscope] at hx
                rw [hcells]
                exact Option.isSome_iff_exists.mp (cellsFrom_mem (mem_of_lookup hx)) }
      ns := ⟨_, I.toInCall.ns, fun x d hx hd => by
        obtain ⟨v, q1, q2, q3⟩ := bind_get (kindOf := env.kindOf) (m := fun _ => none) hnd rs hd
        exact ⟨v, q2 hx, q1⟩⟩
      Lk := S.fresh_kb (fresh _ (by rw [hL]; exact Nat.le_refl _))
      Lg := S.fresh_g (fresh _ (by rw [hL]; exact Nat.le_refl _))
      Lh := S.fresh_hp (fresh _ (by rw [hL]; exact Nat.le_refl _))
      cell := fun x c hx hcx => by
        obtain ⟨f1, f2⟩ := hc x c hcx
        refine ⟨_, I.cell x c hcx, fun d hd => ?_, f2, S.fresh_g f1, S.fresh_hp f1, fun _ => S.fresh_kb f1⟩
        obtain ⟨v, q1, q2, q3⟩ := bind_get (kindOf := env.kindOf) (m := fun _ => none) hnd rs hd
        exact ⟨v, q3 (by rw [hx]; decide), q1⟩
      apart := fun _ x y c hx hy => name_of_addr I.apart (mem_of_lookup hx) (mem_of_lookup hy)
      lg := fun x d e => hng x (List.of_mem_zip (mem_of_lookup (show (names.zip ds).lookup x = some d from e))).1
      nfz := fun x c hx hcx => S.nfz (S.fresh_kb (hc x c hcx).1) }
    have hfr : env.frame = some env.locals := by rw [← henv]; rfl
    have hD : Rm X env true kb av (A.deeper env) n := hr.deeper (by rw [hscope]; exact hk) hfr
    refine wpAny_mono (h env (by rw [hscope]; exact hok) (A.deeper env) kb av g s₁ hD F) (fun fl s' ⟨g', f', st', q1, F', rf, hQ⟩ => ?_) fun v s' x => by
      obtain ⟨l, q1, q2⟩ := hr.fr
      exact EX.leaves q1 (Around.frames_deeper q1) hfr F.Lk x.1 fun s'' y => y
    cases f' with
    | next => rw [show fl = .next from rf]; exact ⟨g', .none, st'.hp, q1, F'.sat, R.none_, hQ⟩
    | brk => exact hQ.elim
    | cont => exact hQ.elim
    | ret d => obtain ⟨v, rfl, r⟩ := rf; exact ⟨g', d, st'.hp, q1, F'.sat, r, hQ⟩

theorem Room.mono {A : Around} {n m : Nat} (h : Room A n) (hm : m ≤ n) : Room A m := ⟨Nat.lt_of_le_of_lt (Nat.add_le_add_left hm _) h.dep, Nat.lt_of_le_of_lt (Nat.add_le_add_right (Nat.add_le_add_left (Nat.mul_le_mul_left 4 hm) _) 40) h.un⟩

theorem FS.mono {X : Cx} {n m : Nat} {f : Addr} {ds : List D} {hp : Hp} {Q Q' : D → Hp → Prop} (h : FS X n f ds hp Q) (hn : n ≤ m) (hq : ∀ d hp, Q d hp → Q' d hp) : FS X m f ds hp Q' :=
  ⟨h.1, fun A kb av g s vs hr S rs => codeAny_mono (h.2 A kb av g s vs ⟨hr.toRoom.mono hn, hr.hd, hr.hk, hr.fr⟩ S rs) fun r s' z => by
    rcases r with e | (_ | _ | _ | v) <;> first | exact z | exact z.elim | skip
    obtain ⟨g', d, hp', h1, S', h3, h4⟩ := z
    exact ⟨g', d, hp', h1, S', h3, hq _ _ h4⟩⟩

theorem FS.freeze {X : Cx} {n : Nat} {f : Addr} {ds : List D} {hp : Hp} {Q Q' : D → Hp → Prop} (h : FS X n f ds hp Q)
    (hq : ∀ d hp, Q d hp → ∃ S d' hp', (∀ a m', hp' a = some m' → ¬ S a ∧ ∃ m, hp a = some m ∧ CvM S hp m m') ∧ Cv S hp d d' ∧ Q' d' hp') : FS X n f ds hp Q' :=
  ⟨h.1, fun A kb av g s vs hr S rs => codeAny_mono (h.2 A kb av g s vs hr S rs) fun r s' z => by
    rcases r with e | (_ | _ | _ | v) <;> first | exact z | exact z.elim | skip
    obtain ⟨g', d, hp', h1, S', h3, h4⟩ := z
    obtain ⟨S₁, d', hp'', q1, q2, q3⟩ := hq _ _ h4
    exact ⟨_, d', hp'', h1.trans S'.frG_sub, S'.shift q1, q2.ok S' h3, q3⟩⟩

theorem make_ok {X : Cx} (ok : X.Ok) {n : Nat} {C fI : Addr} (hm : makesIn X.K C = true) (hk : keepIn X.K (.ref C) = true) (hi : findIn X.K (.ref C) "__init__" = some (some (.ref fI))) (hf : typeIn X.K (.ref fI) = some (.type "function")) {ds : List D} {hp : Hp} {Q : D → Hp → Prop}
    (h : ∀ x dx, hp x = none → hp dx = none → x ≠ dx → FS X n fI (.addr x :: ds) (updH (updH hp dx (some (.ns []))) x (some (.inst C dx))) fun d hp' => d = .none ∧ Q (.addr x) hp') : FS X (n + 1) C ds hp Q := by
  refine ⟨hk, fun A kb av g s vs hr S rs => ?_⟩
  have KX := S.kin ok
  obtain ⟨hh, gg, dd, t, os⟩ := s
  refine make_core (makes_of KX hm) (looks_findIn KX hi) (fun self => bind_fn KX self hf) (.inl rfl) ?_
  have z := get?_size hh
  have k1 : ∀ b o, hh.get? b = some o → (hh.push emptyDict).get? b = some o := fun b o e => Heap.get?_push_of_some _ e
  have k2 : ∀ b o, (hh.push emptyDict).get? b = some o → ((hh.push emptyDict).push (instObj C hh.objs.size)).get? b = some o := fun b o e => Heap.get?_push_of_some _ e
  have sz : (hh.push emptyDict).objs.size = hh.objs.size + 1 := Heap.size_push ..
  have z1 : hh.get? (hh.objs.size + 1) = none := by
    cases e : hh.get? (hh.objs.size + 1) with
    | none => rfl
    | some o => have := Heap.lt_size e; exact absurd this (Nat.not_lt.mpr (Nat.le_succ _))
  have hne : hh.objs.size + 1 ≠ hh.objs.size := Nat.succ_ne_self _
  have S1 : Sat X kb av g hp ⟨(hh.push emptyDict).push (instObj C hh.objs.size), gg, dd, t, os⟩ := S.keeps (fun b o e => k2 b o (k1 b o e)) rfl rfl rfl
  have S2 := S1.put (a := hh.objs.size) (mo := .ns []) (S.fresh_kb z) (S.fresh_g z) ⟨#[], 0, k2 _ _ (Heap.get?_push_size _ rfl), rfl⟩
  have gx : ((hh.push emptyDict).push (instObj C hh.objs.size)).get? (hh.objs.size + 1) = some (instObj C hh.objs.size) := by rw [← sz]; exact Heap.get?_push_size _ rfl
  have S3 := S2.put (a := hh.objs.size + 1) (mo := .inst C hh.objs.size) (S.fresh_kb z1) (S.fresh_g z1) gx
  have hroom : RmC X kb av (A.under (.builtin "type.__call__" ⟨.ref C :: vs, []⟩)) n := by
    refine ⟨⟨?_, ?_⟩, hr.hd, hr.hk, hr.fr⟩
    · have := hr.dep
      have e : (Code.builtin "type.__call__" ⟨.ref C :: vs, []⟩).weight ≤ 1 := Nat.le_of_eq (show (Code.builtin "type.__call__" ⟨.ref C :: vs, []⟩).weight = 1 from rfl)
      show A.depth + (Code.builtin "type.__call__" ⟨.ref C :: vs, []⟩).weight + n < _
      omega
    · have := hr.un
      have e : (Code.builtin "type.__call__" ⟨.ref C :: vs, []⟩).cUnits ≤ 4 := Nat.le_trans (Nat.le_of_eq (show (Code.builtin "type.__call__" ⟨.ref C :: vs, []⟩).cUnits = 1 from rfl)) (by decide)
      show A.units + (Code.builtin "type.__call__" ⟨.ref C :: vs, []⟩).cUnits + 4 * n + 40 < _
      omega
  refine codeAny_mono ((h _ _ (S.fresh_hp z1) (S.fresh_hp z) hne).2 _ kb av g _ (.ref (hh.objs.size + 1) :: vs) hroom S3 (Rs.cons R.addr_ rs)) fun r s' y => ?_
  rcases r with e | (_ | _ | _ | v) <;> first | exact y | exact y.elim | skip
  obtain ⟨g', d, hp', h1, S', h3, rfl, h4⟩ := y
  exact ⟨h3.none', g', _, hp', h1, S', R.addr_, h4⟩

/-! ## what is looked at once in the heap's known part -/
def fdOf (K : Frag) (f : Addr) : Option FuncData := match K.lookup f with
  | some ⟨_, _, .func fd, _⟩ => some fd
  | _ => none
def parsOf (K : Frag) (f : Addr) : List Str := match fdOf K f with
  | some fd => fd.params.args.map (·.arg)
  | none => []
def bodyOf (K : Frag) (f : Addr) : List Stmt := match fdOf K f with
  | some fd => (match fd.body with | .stmts b => b | _ => [])
  | none => []

def nodupB : List Str → Bool
  | [] => true
  | x :: r => !r.contains x && nodupB r
theorem nodupB_of : ∀ {l : List Str}, nodupB l = true → l.Nodup
  | [], _ => List.nodup_nil
  | x :: r, h => by
    simp only [nodupB, Bool.and_eq_true, Bool.not_eq_true', List.contains_eq_mem, decide_eq_false_iff_not] at h
    exact List.nodup_cons.mpr ⟨h.1, nodupB_of h.2⟩

def defB (isG : Str → Bool) (K : Frag) (f : Addr) : Bool := match fdOf K f with
  | some fd => nodupB (fd.params.args.map (·.arg)) && fd.globals == mainGlobals && fd.closure.isEmpty && fd.builtins == builtinsNs && codeIn K fd.code fd.qualname &&
      !fd.scope.isCoroutine && !fd.scope.isGenerator && fd.scope.kind == .function && ((fd.params.args.map (·.arg)).all fun x => fd.scope.names.lookup x == some .local || fd.scope.names.lookup x == some .cell) &&
      (match fd.body with | .stmts b => okSs isG fd.scope.names b && (fd.params.args.map (·.arg)).all (fun x => !isG x) | _ => false)
  | none => false

def bindOf (K : Frag) (f : Addr) (vs : List Value) : Sem (List (Str × Value)) := match fdOf K f with
  | some fd => bindArgs fd ⟨vs, []⟩
  | none => pure []
structure DefOk (X : Cx) (f : Addr) : Prop where
  b : defB X.isG X.K f = true
  k : ∀ vs : List Value, vs.length = (parsOf X.K f).length → bindOf X.K f vs = pure ((parsOf X.K f).zip vs)
theorem bind1 {K : Frag} {f : Addr} (h : (parsOf K f).length = 1) (k : ∀ a, bindOf K f [a] = pure ((parsOf K f).zip [a])) : ∀ vs : List Value, vs.length = (parsOf K f).length → bindOf K f vs = pure ((parsOf K f).zip vs)
  | [a], _ => k a
  | [], e => by rw [h] at e; cases e
  | _ :: _ :: _, e => by rw [h] at e; cases e
theorem bind2 {K : Frag} {f : Addr} (h : (parsOf K f).length = 2) (k : ∀ a b, bindOf K f [a, b] = pure ((parsOf K f).zip [a, b])) : ∀ vs : List Value, vs.length = (parsOf K f).length → bindOf K f vs = pure ((parsOf K f).zip vs)
  | [a, b], _ => k a b
  | [], e | [_], e | _ :: _ :: _ :: _, e => by rw [h] at e; cases e
theorem bind3 {K : Frag} {f : Addr} (h : (parsOf K f).length = 3) (k : ∀ a b c, bindOf K f [a, b, c] = pure ((parsOf K f).zip [a, b, c])) : ∀ vs : List Value, vs.length = (parsOf K f).length → bindOf K f vs = pure ((parsOf K f).zip vs)
  | [a, b, c], _ => k a b c
  | [], e | [_], e | [_, _], e | _ :: _ :: _ :: _ :: _, e => by rw [h] at e; cases e
theorem bind4 {K : Frag} {f : Addr} (h : (parsOf K f).length = 4) (k : ∀ a b c d, bindOf K f [a, b, c, d] = pure ((parsOf K f).zip [a, b, c, d])) : ∀ vs : List Value, vs.length = (parsOf K f).length → bindOf K f vs = pure ((parsOf K f).zip vs)
  | [a, b, c, d], _ => k a b c d
  | [], e | [_], e | [_, _], e | [_, _, _], e | _ :: _ :: _ :: _ :: _ :: _, e => by rw [h] at e; cases e
theorem isDef_of {X : Cx} {f : Addr} (dk : DefOk X f) : IsDef X f (parsOf X.K f) (bodyOf X.K f) := by
  have h := dk.b
  have hbd := dk.k
  unfold bindOf at hbd
  unfold defB at h
  split at h
  · rename_i fd e
    have e' := e
    unfold fdOf at e'
    split at e'
    · rename_i oc od fd' osl q
      cases e'
      simp only [Bool.and_eq_true, Bool.not_eq_true', beq_iff_eq, List.isEmpty_iff, List.all_eq_true, Bool.or_eq_true] at h
      obtain ⟨⟨⟨⟨⟨⟨⟨⟨⟨h3, h4⟩, h5⟩, h6⟩, h7⟩, h8⟩, h9⟩, h10⟩, h11⟩, h12⟩ := h
      split at h12
      · rename_i b hb
        have ep : parsOf X.K f = fd.params.args.map (·.arg) := by unfold parsOf; rw [e]
        have eb : bodyOf X.K f = b := by unfold bodyOf; rw [e]; simp only [hb]
        rw [e] at hbd
        rw [ep] at hbd
        rw [ep, eb]
        obtain ⟨h12, h13⟩ := (Bool.and_eq_true _ _).mp h12
        exact ⟨⟨fd, oc, od, osl, q, h4, h5, h6, hb, h7, hbd, h8, h9, h10, h11, h12, fun x hx => by have := List.all_eq_true.mp h13 x hx; simpa [Cx.isG] using this⟩, nodupB_of h3⟩
      · cases h12
    · cases e'
  · cases h

def globB (K : Frag) (p : Str × D) : Bool := match p.2 with
  | .fn v => nsIn K mainGlobals p.1 == some (some v) || (nsIn K mainGlobals p.1 == some none && bootBuiltins p.1 == some v && p.1 != ("__name__" : Str))
  | .int i => (match nsIn K mainGlobals p.1 with
    | some (some (.int j _)) => i == j
    | _ => false)
  | _ => false
def methB (K : Frag) (C : Addr) (p : Str × Addr) : Bool := plainGet K C p.1 && findIn K (.ref C) p.1 == some (some (.ref p.2)) && isFn K (.ref p.2)
def attrB (K : Frag) (C : Addr) (name : Str) : Bool := plainGet K C name && hasDictIn K C && findIn K (.ref C) name == some none && findIn K (.ref C) "__setattr__" == some (some (.builtin "object.__setattr__")) && plainOver K C

structure Tab where
  gl : List (Str × D)
  C : Addr
  ml : List (Str × Addr)
  al : List Str

def Tab.cx (t : Tab) (prog : Program) (w : World) (s : Shared) (K : Frag) : Cx where
  prog := prog
  w := w
  T0 := s.heap
  s0 := s
  G := fun x => t.gl.lookup x
  K := K
  M := fun C x => if C = t.C then t.ml.lookup x else none
  At := fun C x => C == t.C && t.al.contains x

theorem Tab.ok (t : Tab) {prog q : Program} {loose : List Str} {mean : ExcName → Option Value} {mg mb : Str → Option Value} {w : World} {s : Shared} {K : Frag} (KX : K.In s.heap) (T : Top q loose mean mg mb s.heap)
    (h : (t.gl.all (globB K) && t.ml.all (methB K t.C) && t.al.all (attrB K t.C)) = true) : (t.cx prog w s K).Ok := by
  simp only [Bool.and_eq_true, List.all_eq_true] at h
  obtain ⟨⟨h1, h2⟩, h3⟩ := h
  refine ⟨fun x d e => ?_, T.nolimit, ?_, KX, fun C name f e => ?_, fun C name e => ?_⟩
  · have := h1 (x, d) (mem_of_lookup e)
    simp only [globB] at this
    split at this
    · rename_i v
      simp only [Bool.or_eq_true, Bool.and_eq_true, beq_iff_eq, bne_iff_ne] at this
      refine ⟨v, R.fn_, ?_⟩
      rcases this with q | ⟨⟨q1, q2⟩, q3⟩
      · exact .inl ⟨mg, T.g, mg_of KX T.g q⟩
      · exact .inr ⟨mg, mb, T.g, mg_none_of KX T.g q1, T.b, by rw [T.builtins _ q3]; exact q2⟩
    · rename_i i
      split at this
      · rename_i j t' q
        have e' := beq_iff_eq.mp this
        subst e'
        exact ⟨.int i t', R.int_, .inl ⟨mg, T.g, mg_of KX T.g q⟩⟩
      · cases this
    · cases this
  · obtain ⟨o, _, _, ho, _⟩ := T.g
    exact ⟨mainGlobals, o, by decide, ho⟩
  · change (if C = t.C then t.ml.lookup name else none) = some f at e
    split at e
    · rename_i hc
      subst hc
      have := h2 (name, f) (mem_of_lookup e)
      simp only [methB, Bool.and_eq_true, beq_iff_eq] at this
      exact ⟨this.1.1, this.1.2, this.2⟩
    · cases e
  · change (C == t.C && t.al.contains name) = true at e
    simp only [Bool.and_eq_true, beq_iff_eq, List.contains_eq_mem, decide_eq_true_eq] at e
    obtain ⟨rfl, e⟩ := e
    have := h3 name e
    simp only [attrB, Bool.and_eq_true, beq_iff_eq] at this
    exact ⟨this.1.1.1.1, this.1.1.1.2, this.1.1.2, this.1.2, this.2⟩

theorem ints_at {vs : List Value} {ns : List Int} (h : IntsAre vs ns) : vs.length = ns.length ∧ ∀ (i : Nat) (k : Int), ns[i]? = some k → ∃ t, vs[i]? = some (.int k t) := by
  induction h with
  | nil => exact ⟨rfl, fun i k e => by simp at e⟩
  | cons n t _ ih =>
    refine ⟨by simp [ih.1], fun i k e => ?_⟩
    cases i with
    | zero => simp at e; subst e; exact ⟨t, rfl⟩
    | succ i => simp only [List.getElem?_cons_succ] at e ⊢; exact ih.2 i k e

theorem law_end (t : Tab) {ct : Bool} {prog : Program} {w : World} {s : Shared} {K : Frag} {fa a : Addr} {vs : List Value} {ns : List Int} {n : Nat} {Q : Value → Shared → Prop} {EE : Value → Shared → Prop}
    (hl : s.heap.IsList a vs.toArray) (hi : IntsAre vs ns) (hn : n ≤ 500) (h : FS ({ t.cx prog w s K with ct := ct }) n fa [.scr ns] (fun _ => none) (fun d _ => d = .bool true))
    (hq : ∀ s', (∀ b o, s.heap.get? b = some o → s'.heap.get? b = some o) → s'.gens = s.gens → s'.os = s.os → Q (.bool true) s') :
    wpAny (model prog w) callerA (call (.ref fa) [.ref a]) Q EE s := by
  obtain ⟨o, ho, hc, k, hd⟩ := hl
  obtain ⟨i1, i2⟩ := ints_at hi
  have S : Sat ({ t.cx prog w s K with ct := ct }) s.heap.get? (fun _ => False) (fun b => if b = a then some o else none) (fun _ => none) s := {
    gens := rfl, os := rfl, drawn := rfl, top := fun _ _ e => e, kbh := fun b o e => by rw [get_not fun z => z]; exact e
    gh := fun b o' e => by
      split at e
      · rename_i q; cases e; rw [q]; exact ho
      · cases e
    avk := fun _ h => h.elim
    gav := fun _ h => h.elim
    hph := fun _ _ e => by cases e
    fza := fun _ h => h.elim
    fzT := fun _ h => h.elim }
  have r : R (fun b => if b = a then some o else none) (.scr ns) (.ref a) := by
    change ∃ _, _
    refine ⟨a, o, vs.toArray, k, rfl, if_pos rfl, hc, hd, by simpa using i1, fun i k e => ?_⟩
    obtain ⟨t, e'⟩ := i2 i k e
    exact ⟨t, by simpa using e'⟩
  refine wpAny_call (codeAny_mono (h.2 callerA _ _ _ s [.ref a] ⟨⟨?_, ?_⟩, fun _ => rfl, fun _ _ => .inl rfl, [], rfl, fun _ h => by cases h⟩ S (Rs.one r)) fun r s' z => ?_)
  · show 1 + claimMargin + n < recursionLimit
    have : 1 + claimMargin + 500 < recursionLimit := by decide
    omega
  · show 4 + 4 * n + 40 < cLine
    have : 4 + 4 * 500 + 40 < cLine := by decide
    omega
  · rcases r with e | (_ | _ | _ | v) <;> first | exact (let ⟨_, _, _, _, _, q, _⟩ := z; q.elim) | exact z.elim | skip
    obtain ⟨g', d, hp', h1, S', h3, rfl⟩ := z
    rw [h3.bool']
    exact hq s' (fun b o e => by have := S'.kbh b o e; rwa [get_not fun z => z] at this) S'.gens S'.os
end Mine

namespace Mine
open PySem PySem.W PyProof.Rows PySem.Spec PySem.Calls

/-! ## other words for what may come out -/
def Cx.sw (X : Cx) (Ex : Addr → Prop) (ct hn cm : Bool) : Cx := { X with Ex := Ex, ct := ct, hn := hn, cm := cm }
section
variable {X : Cx} {env : Env} {rw : Bool} {n : Nat} {A : Around} {kb : Fz} {av : Addr → Prop} {g g' : Fz} {st st' : St} {s s' : Shared} {hp hp' : Hp} {loc : Str → Option D} {K : Fl → St → Prop} {Q : D → St → Prop} {Ex : Addr → Prop} {ct hn cm : Bool}
theorem MR.sw {h : Heap} {a : Addr} {mo : MO} (x : MR X g h a mo) : MR (X.sw Ex ct hn cm) g h a mo := by cases mo <;> exact x
theorem MR.ws {h : Heap} {a : Addr} {mo : MO} (x : MR (X.sw Ex ct hn cm) g h a mo) : MR X g h a mo := by cases mo <;> exact x
theorem Sat.sw (S : Sat X kb av g hp s) : Sat (X.sw Ex ct hn cm) kb av g hp s := ⟨S.gens, S.os, S.drawn, S.top, S.kbh, S.gh, S.avk, S.gav, fun a mo e => ⟨(S.hph a mo e).1.sw, (S.hph a mo e).2⟩, S.fza, S.fzT⟩
theorem Sat.ws (S : Sat (X.sw Ex ct hn cm) kb av g hp s) : Sat X kb av g hp s := ⟨S.gens, S.os, S.drawn, S.top, S.kbh, S.gh, S.avk, S.gav, fun a mo e => ⟨(S.hph a mo e).1.ws, (S.hph a mo e).2⟩, S.fza, S.fzT⟩
theorem InF.sw (F : InF X env rw kb av g st s) : InF (X.sw Ex ct hn cm) env rw kb av g st s := ⟨F.sat.sw, F.ok, F.ns, F.Lk, F.Lg, F.Lh, F.cell, F.apart, F.lg, F.nfz⟩
theorem InF.ws (F : InF (X.sw Ex ct hn cm) env rw kb av g st s) : InF X env rw kb av g st s := ⟨F.sat.ws, F.ok, F.ns, F.Lk, F.Lg, F.Lh, F.cell, F.apart, F.lg, F.nfz⟩
theorem PV.ws {v : Value} (p : PV (X.sw Ex ct hn cm) env rw kb av g Q v s) : PV X env rw kb av g Q v s := let ⟨g', d, st', h, F, r, q⟩ := p; ⟨g', d, st', h, F.ws, r, q⟩
theorem Fly.ws {l : List Env} {e C : Addr} {tr : Bool} (F : Fly (X.sw Ex ct hn cm) l kb e C tr s) : Fly X l kb e C tr s := ⟨F.gens, F.os, F.drawn, F.eb, F.fr, F.kbh, F.ex⟩

abbrev Cx.dn (X : Cx) : Cx := X.sw X.Ex false X.hn (X.hn || X.cm)
instance : Nc X.dn := ⟨rfl⟩
instance [Hn X] : Hn X.dn := ⟨Hn.h (X := X), by show (X.hn || X.cm) = true; rw [Hn.h (X := X)]; rfl⟩
theorem EXF.dn {v : Value} (x : EXF X.dn env A kb v s) : EXF X env A kb v s := let ⟨⟨e, C, tr, l, h1, h2, h3, h4⟩, y⟩ := x; ⟨⟨e, C, tr, l, h1, h2, h3, h4.ws⟩, y⟩
theorem Rm.dn (h : Rm X env rw kb av A n) : Rm X.dn env rw kb av A n := ⟨h.toRoom, h.hd, fun q => h.rwc (by have q : (X.hn || X.cm) = false := q; rw [Bool.or_eq_false_iff] at q; exact q.2), fun q1 q2 => h.hk q1 (by have q1 : X.hn = false := q1; have q2 : (X.hn || X.cm) = true := q2; rw [q1] at q2; simpa using q2), let ⟨f, l, L, h1, h2, h3, h4, h5, h6⟩ := h.fr; ⟨f, l, L, h1, h2, h3, h4, h5, fun f hf => let ⟨a, L, b, c, _⟩ := h6 f hf; ⟨a, L, b, c, fun q => by cases q⟩⟩⟩
theorem CV.dn {f : D} {ds : List D} (h : CV X.dn n f ds Q st) : CV X n f ds Q st :=
  ⟨h.1, fun env rw A kb av g s fv vs hr F rf rs => wpAny_mono (h.2 env rw A kb av g s fv vs hr.dn F.sw rf rs) (fun _ _ p => p.ws) fun _ _ x => x.dn⟩
theorem cv_t {f : Addr} {ds : List D} (h : FS X.dn n f ds hp (fun d hp => Q d ⟨loc, hp⟩)) : CV X n (.fn (.ref f)) ds Q ⟨loc, hp⟩ := CV.dn (cv_f h)

/-! ## exception classes of one's own -/
def bmV : List Value := [.type "ValueError", .type "Exception", .type "BaseException", .type "object"]
def excB (K : Frag) (C : Addr) : Bool := excIn K C bmV "ValueError.__new__"
def mroOfIn (K : Frag) (C : Addr) : List Value := match K.lookup C with
  | some ⟨_, _, .cls cd, _⟩ => cd.mro
  | _ => []
theorem exc_obj {K : Frag} {h : Heap} {C : Addr} (X : K.In h) (q : excB K C = true) : ∃ bm N nm qn bs hdct sn sub ab col dd k0 k1 k2 k3 k5 mN,
    h.get? C = some (excClassObj nm qn C N bs bm hdct sn sub ab col dd k0 k1 k2 k3 k5 "ValueError.__new__") ∧ h.Ns N mN ∧ mN "__init__" = none ∧ OwnTail h bmV bm ∧ .ref C :: bm = mroOfIn K C := by
  unfold excB excIn at q
  split at q
  · rename_i dd cd sl ho
    split at q
    · rename_i C' bm k0 k1 k2 k3 n k5 hm hs
      simp only [Bool.and_eq_true, beq_iff_eq, Bool.not_eq_true'] at q
      obtain ⟨⟨⟨⟨⟨rfl, rfl⟩, hdel⟩, ht⟩, hok⟩, hni⟩ := q
      have hmro : .ref C' :: bm = mroOfIn K C' := by unfold mroOfIn; rw [ho]; exact hm.symm
      obtain ⟨nm, bs, mro, ns, qn, hd, sn, sub, ab, col, del⟩ := cd
      dsimp only at hm hdel hok hni
      subst hm hdel
      have hsl : sl = #[k0, k1, k2, k3, some (.builtin "ValueError.__new__"), k5] := by
        obtain ⟨l⟩ := sl
        simp only at hs
        rw [hs]
      subst hsl
      exact ⟨bm, ns, nm, qn, bs, hd, sn, sub, ab, col, dd, k0, k1, k2, k3, k5, _, X _ _ ho, .of_isNs (isNs_of_in X hok), nsMap_none_of_in X hok hni, tail_of_in X ht, hmro⟩
    · cases q
  · cases q

/-! ## raise -/
theorem made_EXF (hr : Fr X env true A kb av) (F : InF X env true kb av g st s) {e C : Addr} {vs : List Value} {h' : Heap} (hm : Heap.MadeExcOf s.heap h' e (.ref C) vs) (hE : X.Ex C) : EXF X env A kb (.ref e) { s with heap := h' } := by
  obtain ⟨f, l, L, h1, h2, h3, h4, h5, h6⟩ := hr
  have kbx : ∀ b o, kb b = some o → ∃ sl, h'.get? b = some { o with slots := sl } ∧ (¬ X.fz b → sl = o.slots) := fun b o q => by
    obtain ⟨o', e1, e2⟩ := get_ex (F.sat.kbh b o q)
    by_cases z : X.fz b
    · rw [strip_fz z] at e2
      subst e2
      exact ⟨o'.slots, hm.keeps _ _ e1, fun q => absurd z q⟩
    · rw [strip_not z] at e2
      subst e2
      exact ⟨o'.slots, hm.keeps _ _ e1, fun _ => rfl⟩
  obtain ⟨t, he, _, _⟩ := hm.there
  refine ⟨⟨e, C, false, f :: l, rfl, hE, h1, F.sat.gens, F.sat.os, F.sat.drawn, F.sat.fresh_kb hm.new, fun f' hf' => ?_, fun b o q => let ⟨sl, a, b⟩ := kbx b o q; ⟨sl, a, fun _ => b⟩, _, _, he, rfl, rfl, rfl, ⟨by simp, rfl⟩, .inl ⟨rfl, rfl⟩⟩, ?_, ?_⟩
  · rcases List.mem_cons.mp hf' with q | q
    · subst q
      refine ⟨h2, L, ?_⟩
      rcases h5 with ⟨_, h5⟩ | ⟨h5, _⟩
      · obtain ⟨m, ⟨o, es, ep, ho, hd, _⟩, _⟩ := F.ns
        subst h5
        exact ⟨o, h3, hm.keeps _ _ ho, fun vs q => by rw [hd] at q; cases q⟩
      · cases h5
    · obtain ⟨a, L', b, ⟨⟨o, c1, c2⟩, _⟩, _⟩ := h6 f' q
      obtain ⟨sl, d1, _⟩ := kbx L' o c1
      exact ⟨a, L', _, b, d1, c2⟩
  · obtain ⟨m, hn, _⟩ := F.ns
    exact ⟨m, hn.keeps hm.keeps⟩
  · intro x c q1 q2
    obtain ⟨vo, ⟨o, ho, hd⟩, _⟩ := F.cell x c q1 q2
    exact ⟨vo, o, hm.keeps _ _ ho, hd⟩
theorem s_raise (ok : X.Ok) [Hn X] {x : Str} {np cp pc p : Pos} {t : Str} {k : Nat} {C : Addr} (hg : X.G x = some (.fn (.ref C))) (hx : excB X.K C = true) (hE : X.Ex C) :
    wpS X n (.Raise (some (.Call (.Name x np) [.Constant (.str t) k cp] [] pc)) none p) K st := fun env hok A kb av g s hr F => by
  obtain ⟨bm, N, nm, qn, bs, hdct, sn, sub, ab, col, dd, k0, k1, k2, k3, k5, mN, hC, hN, hni, T, _⟩ := exc_obj ok.Kin hx
  refine wpAny_Raise_call_subT (C := C) (nm := nm) (q := qn) (N := N) (bs := bs) (bm := bm) (hdct := hdct) (sn := sn) (sub := sub) (ab := ab) (col := col) (dd := dd) (k0 := k0) (k1 := k1) (k2 := k2) (k3 := k3) (k5 := k5)
    PySem.F.excBase_ValueError (mN := mN) (T.hasType PySem.F.excBase_ValueError.hasBase) (hr.hd Hn.h) (backTo_any (X := X) (names := env.scope.names) rfl env) hni
    (wpAny_mono (e_glob (n := n) (p := np) ok hg (Q := fun d st' => d = .fn (.ref C) ∧ st' = st) ⟨rfl, rfl⟩ env true hok A kb av g s hr F) (fun fv s₁ ⟨g₁, d, st₁, h1, F₁, h3, e1, e2⟩ => ?_) fun _ _ x => x)
  subst e1 e2
  refine ⟨h3.fn', ?_⟩
  have hl := (show wpEs X n [.Constant (.str t) k cp] (fun ds st' => ds = [.str t] ∧ st' = st₁) st₁ from es_cons (e_str (es_nil ⟨rfl, rfl⟩))).2 env true pc rfl A kb av g₁ s₁ hr F₁
  rw [okE_notStar (G := X.isG) (names := env.scope.names) rfl] at hl ⊢
  refine Calls.evalArgs_plain (wpAny_mono hl (fun vs s₂ ⟨g₂, ds, st₂, q1, F₂, q3, e1, e2⟩ => ?_) fun _ _ x => x)
  subst e1
  have hlen := q3.length
  refine ⟨rfl, ?_, F₂.sat.topk _ _ hC, hN.keeps F₂.sat.topk, T.keeps F₂.sat.topk, fun h' e hm => made_EXF hr.fr F₂ hm hE⟩
  show vs.length ≤ sizeLine
  rw [hlen, sizeLine_eq]
  show 1 ≤ _
  omega
end
end Mine

namespace Mine
open PySem PySem.W PyProof.Rows PySem.Spec

/-! ## the names at hand -/
def env (l : List (Str × D)) : Str → Option D := fun x => l.lookup x
theorem env_cons {k x : Str} {d : D} {l : List (Str × D)} : env ((k, d) :: l) x = if x = k then some d else env l x := by
  unfold env
  rw [List.lookup_cons]
  by_cases h : x = k
  · simp [h]
  · have : (x == k) = false := by simpa using h
    rw [this, if_neg h]
theorem updL_env {x : Str} {d : D} {l : List (Str × D)} : updL (env l) x d = env ((x, d) :: l) := by funext y; rw [env_cons]; rfl
theorem env_hit {x : Str} {d : D} {l : List (Str × D)} : env ((x, d) :: l) x = some d := by rw [env_cons, if_pos rfl]
theorem env_skip {x k : Str} {e d : D} {l : List (Str × D)} (hk : (x == k) = false) (h : env l x = some d) : env ((k, e) :: l) x = some d := by
  rw [env_cons, if_neg (by simpa using hk)]; exact h
theorem at0 {x : Str} {d : D} {l : List (Str × D)} : env ((x, d) :: l) x = some d := env_hit
theorem at1 {x : Str} {d : D} {a : Str × D} {l : List (Str × D)} (h : (x == a.1) = false) : env (a :: (x, d) :: l) x = some d := env_skip h env_hit
theorem at2 {x : Str} {d : D} {a b : Str × D} {l : List (Str × D)} (h : (x == a.1 || x == b.1) = false) : env (a :: b :: (x, d) :: l) x = some d := by
  obtain ⟨h1, h2⟩ := Bool.or_eq_false_iff.mp h; exact env_skip h1 (at1 h2)
theorem at3 {x : Str} {d : D} {a b c : Str × D} {l : List (Str × D)} (h : (x == a.1 || (x == b.1 || x == c.1)) = false) : env (a :: b :: c :: (x, d) :: l) x = some d := by
  obtain ⟨h1, h2⟩ := Bool.or_eq_false_iff.mp h; exact env_skip h1 (at2 h2)
theorem at4 {x : Str} {d : D} {a b c e : Str × D} {l : List (Str × D)} (h : (x == a.1 || (x == b.1 || (x == c.1 || x == e.1))) = false) : env (a :: b :: c :: e :: (x, d) :: l) x = some d := by
  obtain ⟨h1, h2⟩ := Bool.or_eq_false_iff.mp h; exact env_skip h1 (at3 h2)
theorem at5 {x : Str} {d : D} {a b c e f : Str × D} {l : List (Str × D)} (h : (x == a.1 || (x == b.1 || (x == c.1 || (x == e.1 || x == f.1)))) = false) : env (a :: b :: c :: e :: f :: (x, d) :: l) x = some d := by
  obtain ⟨h1, h2⟩ := Bool.or_eq_false_iff.mp h; exact env_skip h1 (at4 h2)
theorem atS {x : Str} {d : D} {a b c e f : Str × D} {l : List (Str × D)} (h : (x == a.1 || (x == b.1 || (x == c.1 || (x == e.1 || x == f.1)))) = false) (h' : env l x = some d) : env (a :: b :: c :: e :: f :: l) x = some d := by
  obtain ⟨h1, h2⟩ := Bool.or_eq_false_iff.mp h
  obtain ⟨h2, h3⟩ := Bool.or_eq_false_iff.mp h2
  obtain ⟨h3, h4⟩ := Bool.or_eq_false_iff.mp h3
  obtain ⟨h4, h5⟩ := Bool.or_eq_false_iff.mp h4
  exact env_skip h1 (env_skip h2 (env_skip h3 (env_skip h4 (env_skip h5 h'))))
theorem c0 {loc : Str → Option D} {x : Str} {y : D} : updC loc x y x = some y := by unfold updC; rw [if_pos rfl]
def AllIn (loc : Str → Option D) : List (Str × D) → Prop
  | [] => True
  | (k, d) :: r => loc k = some d ∧ AllIn loc r
theorem all_nil {loc : Str → Option D} : AllIn loc [] := trivial
theorem all_cons {loc : Str → Option D} {k : Str} {d : D} {r : List (Str × D)} (h : loc k = some d) (h' : AllIn loc r) : AllIn loc ((k, d) :: r) := ⟨h, h'⟩
theorem le_of_all {loc : Str → Option D} : ∀ {l : List (Str × D)}, AllIn loc l → Le (env l) loc
  | [], _ => fun k d h => by cases h
  | (k, d) :: r, h => fun k' d' h' => by
    rw [env_cons] at h'
    split at h'
    · rename_i q; cases h'; rw [q]; exact h.1
    · exact le_of_all h.2 k' d' h'
theorem le_ins {l : List (Str × D)} {loc : Str → Option D} {x : Str} {d : D} (h : Le (env l) loc) : Le (env ((x, d) :: l)) (updL loc x d) := by
  rw [← updL_env]
  intro k e hk
  unfold updL at hk ⊢
  split at hk
  · rename_i q; rw [if_pos q]; exact hk
  · rename_i q; rw [if_neg q]; exact h _ _ hk

section
variable {X : Cx} {n : Nat} {K : Fl → St → Prop} {Q : D → St → Prop} {st : St} {loc : Str → Option D} {hp : Hp} {QB : Bool → Prop} {KK : St → Prop}
theorem st_ {x : Str} {d : D} {l : List (Str × D)} (h : K .next ⟨env ((x, d) :: l), hp⟩) : kStore x K d ⟨env l, hp⟩ := by unfold kStore; rw [updL_env]; exact h
theorem for_step {l : List (Str × D)} {x : Str} {y : D} {cs : List Stmt} (hle : Le (env l) loc) (h : wpSs X n cs K ⟨env ((x, y) :: l), hp⟩) : forF X n x cs y K ⟨loc, hp⟩ := ss_le (le_ins hle) h
theorem ss_here {l : List (Str × D)} {cs : List Stmt} (hle : Le (env l) loc) (h : wpSs X n cs K ⟨env l, hp⟩) : wpSs X n cs K ⟨loc, hp⟩ := ss_le hle h
theorem def_ok' (ok : X.Ok) {f : Addr} (hf : DefOk X f) (ps : List Str) (hps : parsOf X.K f = ps) {ds : List D} {Q : D → Hp → Prop} (hl : ds.length = ps.length)
    (h : wpSs X n (bodyOf X.K f) (callK Q) ⟨env (ps.zip ds), hp⟩) : FS X (n + 1) f ds hp Q := by subst hps; exact call_ok ok (isDef_of hf) hl h
theorem forG_ind {F : D → (Fl → St → Prop) → St → Prop} {src : D} {xs : List D} {st : St} (I : Nat → St → Prop) (h0 : I 0 st) (hit : ∀ i st, i ≤ xs.length → I i st → itemsOf st.hp src = some xs)
    (step : ∀ i y st, xs[i]? = some y → I i st → ∀ K' : Fl → St → Prop, (∀ st', I (i + 1) st' → K' .next st') → (∀ st', I (i + 1) st' → K' .cont st') → (∀ st', K .next st' → K' .brk st') → (∀ d st', K (.ret d) st' → K' (.ret d) st') → F y K' st)
    (fin : ∀ st, I xs.length st → K .next st) : forG F src xs xs K st := by
  have key : ∀ (m i : Nat) (st : St), i + m = xs.length → I i st → forG F src xs (xs.drop i) K st := by
    intro m
    induction m with
    | zero =>
      intro i st e hI
      have : i = xs.length := by omega
      subst this
      rw [List.drop_length]
      exact ⟨hit _ _ (Nat.le_refl _) hI, fin st hI⟩
    | succ m ih =>
      intro i st e hI
      have hlt : i < xs.length := by omega
      rw [List.drop_eq_getElem_cons hlt]
      exact ⟨hit _ _ (by omega) hI, step i _ st (List.getElem?_eq_getElem hlt) hI _ (fun st' h => ih (i + 1) st' (by omega) h) (fun st' h => ih (i + 1) st' (by omega) h) (fun _ h => h) (fun _ _ h => h)⟩
  simpa using key xs.length 0 st (by omega) h0
theorem compG_ind {F : D → (Option D → St → Prop) → St → Prop} {src : D} {xs : List D} {st : St} {KC : List D → St → Prop} (I : Nat → List D → St → Prop) (h0 : I 0 [] st) (hit : ∀ i acc st, i ≤ xs.length → I i acc st → itemsOf st.hp src = some xs)
    (step : ∀ i y acc st, xs[i]? = some y → I i acc st → ∀ K' : Option D → St → Prop, (∀ r st', I (i + 1) (match r with | some v => acc ++ [v] | none => acc) st' → K' r st') → F y K' st)
    (fin : ∀ acc st, I xs.length acc st → KC acc st) : compG F src xs xs [] KC st := by
  have key : ∀ (m i : Nat) (acc : List D) (st : St), i + m = xs.length → I i acc st → compG F src xs (xs.drop i) acc KC st := by
    intro m
    induction m with
    | zero =>
      intro i acc st e hI
      have : i = xs.length := by omega
      subst this
      rw [List.drop_length]
      exact ⟨hit _ _ _ (Nat.le_refl _) hI, fin acc st hI⟩
    | succ m ih =>
      intro i acc st e hI
      have hlt : i < xs.length := by omega
      rw [List.drop_eq_getElem_cons hlt]
      exact ⟨hit _ _ _ (by omega) hI, step i _ acc st (List.getElem?_eq_getElem hlt) hI _ fun r st' h => ih (i + 1) _ st' (by omega) h⟩
  simpa using key xs.length 0 [] st (by omega) h0
theorem rng_items {a b : Int} (h1 : -1000000 < a) (h2 : a < 1000000) (h3 : -1000000 < b) (h4 : b < 1000000) : itemsOf hp (.rng a b) = some ((List.range (b - a).toNat).map fun (k : Nat) => D.int (a + k)) := by
  simp only [itemsOf]; rw [if_pos ⟨⟨h1, h2⟩, h3, h4⟩]
theorem compG_pure {ifs : List Expr} {elt : Expr} {x : Str} {loc : Str → Option D} {src : D} {xs : List D} {KC : List D → St → Prop} (f : D → Option D) (hit : itemsOf hp src = some xs)
    (step : ∀ y ∈ xs, ∀ K' : Option D → St → Prop, (∀ loc', K' (f y) ⟨loc', hp⟩) → wpIfs X n ifs (cbK X n elt K') ⟨updC loc x y, hp⟩)
    (fin : ∀ loc', KC (xs.filterMap f) ⟨loc', hp⟩) {loc0 : Str → Option D} : compG (cmpF X n ifs elt x loc) src xs xs [] KC ⟨loc0, hp⟩ := by
  refine compG_ind (fun i acc st => st.hp = hp ∧ acc = (xs.take i).filterMap f) ⟨rfl, by simp⟩ (fun i acc st _ h => by rw [h.1]; exact hit) (fun i y acc st hy hI K' hK => ?_) (fun acc st hI => ?_)
  · obtain ⟨loc1, hp1⟩ := st
    obtain ⟨rfl, rfl⟩ := hI
    refine step y (List.mem_of_getElem? hy) K' fun loc' => hK _ _ ⟨rfl, ?_⟩
    rw [List.take_succ, hy]
    simp only [Option.toList_some, List.filterMap_append, List.filterMap_cons, List.filterMap_nil]
    cases f y <;> simp
  · obtain ⟨loc1, hp1⟩ := st
    obtain ⟨rfl, rfl⟩ := hI
    rw [List.take_length]; exact fin loc1
theorem for_keep {x : Str} {body : List Stmt} {src : D} {xs : List D} (l : List (Str × D)) (hle : Le (env l) loc) (hit : itemsOf hp src = some xs)
    (step : ∀ (i : Nat) y, xs[i]? = some y → ∀ loc, Le (env l) loc → ∀ K' : Fl → St → Prop, (∀ loc', Le (env l) loc' → K' .next ⟨loc', hp⟩) → (∀ loc', Le (env l) loc' → K' .cont ⟨loc', hp⟩) → (∀ d st', K (.ret d) st' → K' (.ret d) st') → forF X n x body y K' ⟨loc, hp⟩)
    (fin : ∀ loc, Le (env l) loc → K .next ⟨loc, hp⟩) : forG (forF X n x body) src xs xs K ⟨loc, hp⟩ := by
  refine forG_ind (fun i st => Le (env l) st.loc ∧ st.hp = hp) ⟨hle, rfl⟩ (fun i st _ h => by rw [h.2]; exact hit) (fun i y st hy h K' hn hc hb hr => ?_) (fun st h => ?_)
  · obtain ⟨loc1, hp1⟩ := st
    obtain ⟨h1, rfl⟩ := h
    exact step i y hy loc1 h1 K' (fun loc' h => hn _ ⟨h, rfl⟩) (fun loc' h => hc _ ⟨h, rfl⟩) hr
  · obtain ⟨loc1, hp1⟩ := st
    obtain ⟨h1, rfl⟩ := h
    exact fin loc1 h1
theorem lst_sq {d : D} {xs : List D} (h : lst hp d = some xs) : sq hp d = some xs := by
  unfold lst at h
  split at h
  · cases h; rfl
  · split at h
    · cases h; rename_i q; simp only [sq, q]
    · cases h
  · cases h
theorem rng_get {a b : Int} {i : Nat} {y : D} (h : ((List.range (b - a).toNat).map fun (k : Nat) => D.int (a + k))[i]? = some y) : y = .int (a + i) ∧ (i : Int) < b - a := by
  rw [List.getElem?_map] at h
  obtain ⟨k, e, rfl⟩ := Option.map_eq_some_iff.mp h
  obtain ⟨q1, q2⟩ := List.getElem?_eq_some_iff.mp e
  simp at q1 q2
  subst q2
  exact ⟨rfl, by omega⟩
end
theorem FS.call {X : Cx} {n m : Nat} {f : Addr} {ds : List D} {hp : Hp} {Q Q' : D → Hp → Prop} (h : FS X n f ds hp Q) (hn : n ≤ m) (hq : ∀ d hp, Q d hp → Q' d hp) : FS X m f ds hp Q' := h.mono hn hq
theorem FS.callv {X : Cx} {n m : Nat} {f : Addr} {ds : List D} {hp : Hp} {v : D} {Q' : D → Hp → Prop} (h : FS X n f ds hp (fun d hp' => d = v ∧ hp' = hp)) (hn : n ≤ m) (hq : Q' v hp) : FS X m f ds hp Q' :=
  h.mono hn fun d hp' e => by rw [e.1, e.2]; exact hq
theorem FS.forget {X : Cx} {n : Nat} {f : Addr} {ds : List D} {hp : Hp} {Q' : D → Hp → Prop} (h : FS X n f ds hp (fun d hp' => ∃ hp'', (∀ b m, hp'' b = some m → hp' b = some m) ∧ Q' d hp'')) : FS X n f ds hp Q' :=
  h.freeze fun d hp' ⟨hp'', h1, h2⟩ => ⟨fun _ => False, d, hp'', fun b m' e => ⟨id, m', h1 b m' e, .rfl _⟩, .rfl _, h2⟩
theorem updH_same {hp : Hp} {a : Addr} {m : Option MO} : updH hp a m a = m := by unfold updH; rw [if_pos rfl]
theorem updH_twice {hp : Hp} {a : Addr} {m m' : Option MO} : updH (updH hp a m) a m' = updH hp a m' := by funext b; unfold updH; split <;> rfl
theorem updH_other {hp : Hp} {a b : Addr} {m : Option MO} (h : b ≠ a) : updH hp a m b = hp b := by unfold updH; rw [if_neg h]
theorem fresh_ne {hp : Hp} {a b : Addr} {m : MO} (ha : hp a = none) (hb : hp b = some m) : a ≠ b := fun q => by rw [q, hb] at ha; cases ha
theorem updH_back {hp : Hp} {a : Addr} {m : Option MO} {b : Addr} {m' : MO} (ha : hp a = none) (e : hp b = some m') : updH hp a m b = some m' := by
  rw [updH_other (fun q => by rw [q, ha] at e; cases e)]; exact e

/-! ## lists of ints -/
def zs (l : List Int) : List D := l.map D.int
theorem zs_length {l : List Int} : (zs l).length = l.length := by simp [zs]
theorem zs_get {l : List Int} {i : Nat} {k : Int} (h : l[i]? = some k) : (zs l)[i]? = some (.int k) := by simp [zs, h]
theorem zs_append {l m : List Int} : zs (l ++ m) = zs l ++ zs m := by simp [zs]
theorem pys_ints : ∀ {l : List Int}, pys (zs l) = some (l.map PyData.int)
  | [] => rfl
  | k :: l => by
    have := pys_ints (l := l)
    simp only [zs, List.map_cons, pys, py] at this ⊢
    rw [this]
theorem canLay_ints : ∀ {l : List Int}, PyData.canLayAll0 (l.map PyData.int) = true
  | [] => rfl
  | k :: l => by simp only [List.map_cons, PyData.canLayAll0, PyData.canLay0, canLay_ints, Bool.and_self]
theorem depth_ints : ∀ {l : List Int}, PyData.depthAll (l.map PyData.int) = 0
  | [] => rfl
  | k :: l => by simp only [List.map_cons, PyData.depthAll, PyData.depth, depth_ints, Nat.max_self]
theorem small_ints {l : List Int} : small (.list (l.map PyData.int)) := ⟨by simp only [PyData.canLay0, canLay_ints], by simp only [PyData.depth, depth_ints]; omega⟩
theorem small_int {k : Int} : small (.int k) := ⟨rfl, by simp only [PyData.depth]; omega⟩
theorem any_ints {l : List Int} {k : Int} : ((l.map PyData.int).any fun q => PyData.eqv q (.int k)) = decide (k ∈ l) := by
  induction l with
  | nil => rfl
  | cons i l ih =>
    rw [List.map_cons, List.any_cons, ih]
    simp only [PyData.eqv]
    by_cases h : i = k
    · subst h; simp
    · have : (i == k) = false := by simpa using h
      rw [this]
      simp only [Bool.false_or, List.mem_cons]
      have : ¬ k = i := fun q => h q.symm
      simp [this]
theorem zs_at {l : List Int} {i : Nat} {y : D} (h : (zs l)[i]? = some y) : ∃ k, y = .int k ∧ l[i]? = some k := by
  unfold zs at h
  rw [List.getElem?_map] at h
  obtain ⟨k, e, rfl⟩ := Option.map_eq_some_iff.mp h
  exact ⟨k, rfl, e⟩
theorem short_of_nodup : ∀ {n : Nat} {l : List Int}, l.Nodup → (∀ x ∈ l, 0 ≤ x ∧ x < n) → l.length ≤ n
  | 0, l, hn, h => by
    cases l with
    | nil => simp
    | cons x l => have := h x List.mem_cons_self; omega
  | n + 1, l, hn, h => by
    have h1 : (l.filter (fun x => decide (x ≠ (n : Int)))).length ≤ n := short_of_nodup (hn.filter _) fun x hx => by
      rw [List.mem_filter] at hx
      have := h x hx.1
      have := of_decide_eq_true hx.2
      omega
    have h2 : l.length ≤ (l.filter (fun x => decide (x ≠ (n : Int)))).length + 1 := by
      clear h h1
      induction l with
      | nil => simp
      | cons x l ih =>
        rw [List.nodup_cons] at hn
        by_cases q : x = (n : Int)
        · rw [List.filter_cons]
          have e : l.filter (fun x => decide (x ≠ (n : Int))) = l := by
            rw [List.filter_eq_self]
            intro a ha
            have : a ≠ (n : Int) := fun q' => hn.1 (by rw [q, ← q']; exact ha)
            exact decide_eq_true this
          rw [e]
          simp [q]
        · rw [List.filter_cons, if_pos (decide_eq_true q)]
          have := ih hn.2
          simp only [List.length_cons]
          omega
    omega
theorem not_mem_take : ∀ {l : List Int} {i : Nat} {k : Int}, l.Nodup → l[i]? = some k → k ∉ l.take i
  | [], i, k, _, h => by simp at h
  | x :: l, 0, k, _, h => by simp
  | x :: l, i + 1, k, hn, h => by
    rw [List.nodup_cons] at hn
    simp only [List.getElem?_cons_succ] at h
    rw [List.take_succ_cons, List.mem_cons]
    rintro (q | q)
    · exact hn.1 (q ▸ List.mem_of_getElem? h)
    · exact not_mem_take hn.2 h q
theorem take_one_more {α : Type} {l : List α} {i : Nat} {k : α} (h : l[i]? = some k) : l.take (i + 1) = l.take i ++ [k] := by rw [List.take_succ, h]; rfl
section
variable {X : Cx} {n : Nat} {K : Fl → St → Prop} {Q : D → St → Prop} {st : St} {loc : Str → Option D} {hp : Hp} {QB : Bool → Prop}
theorem intsOf_zs : ∀ {l : List Int}, intsOf (zs l) = some l
  | [] => rfl
  | k :: l => by
    have := intsOf_zs (l := l)
    simp only [zs, List.map_cons, intsOf] at this ⊢
    rw [this]; rfl
theorem q_in {b : D} {l : List Int} {k : Int} (hs : sq st.hp b = some (zs l)) (h : QB (decide (k ∈ l))) : wpC1 X n .In (.int k) b QB st := q_inp hs pys_ints rfl small_ints small_int (by rw [any_ints]; exact h)
theorem q_notin {b : D} {l : List Int} {k : Int} (hs : sq st.hp b = some (zs l)) (h : QB (!decide (k ∈ l))) : wpC1 X n .NotIn (.int k) b QB st := q_notinp hs pys_ints rfl small_ints small_int (by rw [any_ints]; exact h)
theorem pyH_lst {d : D} {xs : List D} {ps : List PyData} (hs : lst hp d = some xs) (hp' : pys xs = some ps) : pyH hp d = some (.list ps) := by
  unfold lst at hs
  split at hs
  · cases hs; simp only [pyH, py, hp', Option.map_some]
  · split at hs
    · rename_i q
      cases hs
      simp only [pyH, q, hp', Option.map_some]
    · cases hs
  · cases hs
theorem small_nil : small (.list []) := ⟨rfl, by decide⟩
theorem eqv_nil {l : List Int} : PyData.eqv (.list (l.map PyData.int)) (.list []) = l.isEmpty := by cases l <;> rfl
theorem q_eqnil {d : D} {l : List Int} (hs : lst st.hp d = some (zs l)) (h : QB l.isEmpty) : wpC1 X n .Eq d (.list []) QB st := q_eqp (pyH_lst hs pys_ints) rfl small_ints small_nil (by rw [eqv_nil]; exact h)
theorem f_lenz {d : D} {l : List Int} (hs : sq st.hp d = some (zs l)) (hl : l.length ≤ 16000000) (h : Q (.int l.length) st) : CV X n (.fn (.builtin "len")) [d] Q st := f_len hs (by rw [zs_length]; exact hl) (by rw [zs_length]; exact h)
theorem f_max [Hn X] {d : D} {l : List Int} (hs : lst st.hp d = some (zs l)) (hne : l ≠ []) (hl : l.length ≤ 16000000) (h : ∀ M, M ∈ l → (∀ a ∈ l, a ≤ M) → Q (.int M) st) : CV X n (.fn (.builtin "max")) [d] Q st := f_maxp hs intsOf_zs hne h
end
theorem clip_nat {n k : Nat} (h : k ≤ n) : clipAt n (k : Int) = k := by
  unfold clipAt; rw [if_neg (by omega), Int.min_eq_left (by omega), Int.max_eq_right (by omega)]; rfl
theorem bound_nat {k : Nat} (h : k < 1000000) : bound (.int (k : Int)) = some (some (k : Int)) := by unfold bound; simp only; rw [if_pos (by omega)]
/-! ## a list is frozen between two statements -/
def AllCv (S : Addr → Prop) (hp : Hp) : List (Str × D) → List (Str × D) → Prop
  | [], [] => True
  | (k, d) :: r, (k', d') :: r' => k = k' ∧ Cv S hp d d' ∧ AllCv S hp r r'
  | _, _ => False
theorem allCv_env {S : Addr → Prop} {hp : Hp} : ∀ {l l' : List (Str × D)}, AllCv S hp l l' → ∀ x d', env l' x = some d' → ∃ d, env l x = some d ∧ Cv S hp d d'
  | [], [], _, x, d', h => by cases h
  | (k, d) :: r, (k', d') :: r', h, x, e, h' => by
    obtain ⟨rfl, h1, h2⟩ := h
    rw [env_cons] at h' ⊢
    split at h'
    · cases h'; rename_i q; rw [if_pos q]; exact ⟨d, rfl, h1⟩
    · rename_i q; rw [if_neg q]; exact allCv_env h2 x e h'
  | [], _ :: _, h, _, _, _ => h.elim
  | _ :: _, [], h, _, _, _ => h.elim
theorem shift_drop {l l' : List (Str × D)} {hp : Hp} {b : Addr} {m : MO} (hb : hp b = none) (hl : AllCv (fun a => a = b) (updH hp b (some m)) l l') : Shift ⟨env l, updH hp b (some m)⟩ ⟨env l', hp⟩ :=
  ⟨fun a => a = b, fun a m' e => ⟨fun q => (fresh_ne hb e) q.symm, m', updH_back hb e, .rfl _⟩, fun x d' e => allCv_env hl x d' e⟩
theorem Cv.one {S : Addr → Prop} {hp : Hp} {b : Addr} {xs : List D} (hs : S b) : Cv S (updH hp b (some (.list xs))) (.addr b) (.list xs) :=
  .addr updH_same hs (Eq.refl _) fun i x y e1 e2 => by rw [e1] at e2; cases e2; exact .rfl _
theorem nodup_snoc {l : List Int} {x : Int} (h : l.Nodup) (hx : x ∉ l) : (l ++ [x]).Nodup := by
  rw [List.nodup_append]
  refine ⟨h, by simp, ?_⟩
  intro a ha b hb
  have : b = x := by simpa using hb
  subst this
  exact fun q => hx (q ▸ ha)
theorem all_snoc {α : Type} {P : α → Prop} {l : List α} {x : α} (h : ∀ y ∈ l, P y) (hx : P x) : ∀ y ∈ l ++ [x], P y := fun y hy => by
  rcases List.mem_append.mp hy with q | q
  · exact h y q
  · have : y = x := by simpa using q
    rw [this]; exact hx
theorem lo_nat {k : Nat} : (-1000000 : Int) < (k : Int) := by omega
theorem hi_nat {k : Nat} (h : k ≤ 60) : (k : Int) < 1000000 := by omega
theorem lo_i {x : Int} (h : 0 < x) : (-1000000 : Int) < x := Int.lt_trans (by decide) h
theorem hi_i {x : Int} (h : x ≤ 60) : x < 1000000 := Int.lt_of_le_of_lt h (by decide)
theorem nn_z {k : Nat} : (0 : Int) ≤ 0 + (k : Int) := by omega
theorem to_z {x : Int} (h : 0 ≤ x) : x = (x.toNat : Int) := (Int.toNat_of_nonneg h).symm
theorem lt_to {x : Int} {k : Nat} (h0 : 0 ≤ x) (h : x < (k : Int)) : x.toNat < k := by omega
theorem nt_ {b : Bool} (h : b = false) : (!b) = true := by rw [h]; rfl
theorem nf_ {b : Bool} (h : b = true) : (!b) = false := by rw [h]; rfl
theorem le16 {k : Nat} (h : k ≤ 60) : k ≤ 16000000 := Nat.le_trans h (by decide)
theorem zl16 {l : List Int} (h : l.length ≤ 60) : (zs l).length ≤ 16000000 := by rw [zs_length]; exact le16 h
end Mine

namespace Mine
open PySem PySem.W PyProof.Rows PySem.Spec
/-! ## lists given by a function of the place -/
def tb (n : Nat) (f : Nat → D) : List D := (List.range n).map f
theorem tb_length {n : Nat} {f : Nat → D} : (tb n f).length = n := by simp [tb]
def od : Option Int → D
  | none => .none
  | some i => .int i
section
variable {X : Cx} {n : Nat} {K : Fl → St → Prop} {Q : D → St → Prop} {st : St} {loc : Str → Option D} {hp : Hp} {QB : Bool → Prop}
end
/-! ## some lists that may change, laid over a heap -/
def hq (hp : Hp) : List (Addr × List D) → Hp
  | [] => hp
  | (a, xs) :: r => fun b => if b = a then some (.list xs) else hq hp r b
theorem hq_get {hp : Hp} : ∀ {l : List (Addr × List D)} {i : Nat} {a : Addr} {xs : List D}, (l.map (·.1)).Nodup → l[i]? = some (a, xs) → hq hp l a = some (.list xs)
  | [], i, a, xs, _, h => by simp at h
  | (b, ys) :: r, 0, a, xs, hn, h => by
    simp only [List.getElem?_cons_zero, Option.some.injEq, Prod.mk.injEq] at h
    obtain ⟨rfl, rfl⟩ := h
    simp only [hq, if_true]
  | (b, ys) :: r, i + 1, a, xs, hn, h => by
    simp only [List.map_cons, List.nodup_cons] at hn
    simp only [List.getElem?_cons_succ] at h
    have hne : a ≠ b := fun q => hn.1 (q ▸ List.mem_map.mpr ⟨(a, xs), List.mem_of_getElem? h, rfl⟩)
    simp only [hq]
    rw [if_neg hne]
    exact hq_get hn.2 h
theorem hq_set {hp : Hp} : ∀ {l : List (Addr × List D)} {i : Nat} {a : Addr} {xs ys : List D}, (l.map (·.1)).Nodup → l[i]? = some (a, xs) → updH (hq hp l) a (some (.list ys)) = hq hp (l.set i (a, ys))
  | [], i, a, xs, _, _, h => by simp at h
  | (b, zs) :: r, 0, a, xs, ys, hn, h => by
    simp only [List.getElem?_cons_zero, Option.some.injEq, Prod.mk.injEq] at h
    obtain ⟨rfl, rfl⟩ := h
    funext c
    simp only [List.set_cons_zero, hq, updH]
    split <;> rfl
  | (b, zs) :: r, i + 1, a, xs, ys, hn, h => by
    simp only [List.map_cons, List.nodup_cons] at hn
    simp only [List.getElem?_cons_succ] at h
    have hne : a ≠ b := fun q => hn.1 (q ▸ List.mem_map.mpr ⟨(a, xs), List.mem_of_getElem? h, rfl⟩)
    have ih := hq_set (hp := hp) (ys := ys) hn.2 h
    funext c
    have ih := congrFun ih c
    simp only [List.set_cons_succ, hq, updH] at ih ⊢
    by_cases q : c = b
    · rw [if_pos q, if_pos q, if_neg (fun e => hne (e.symm.trans q))]
    · rw [if_neg q, if_neg q]; exact ih
theorem hq_none {hp : Hp} : ∀ {l : List (Addr × List D)} {a : Addr}, hq hp l a = none → a ∉ l.map (·.1) ∧ hp a = none
  | [], a, h => ⟨by simp, h⟩
  | (b, ys) :: r, a, h => by
    simp only [hq] at h
    split at h
    · cases h
    · rename_i q
      obtain ⟨h1, h2⟩ := hq_none h
      exact ⟨by rw [List.map_cons, List.mem_cons, not_or]; exact ⟨q, h1⟩, h2⟩
theorem hq_old {hp : Hp} : ∀ {l : List (Addr × List D)} {a : Addr} {m : MO}, (∀ b ∈ l.map (·.1), hp b = none) → hp a = some m → hq hp l a = some m
  | [], a, m, _, h => h
  | (b, ys) :: r, a, m, hk, h => by
    simp only [hq]
    rw [if_neg (fun q => by have := hk b (by simp); rw [← q, h] at this; cases this)]
    exact hq_old (fun c hc => hk c (by rw [List.map_cons]; exact List.mem_cons_of_mem _ hc)) h
section
variable {X : Cx} {n : Nat} {K : Fl → St → Prop} {Q : D → St → Prop} {st : St} {loc : Str → Option D} {hp : Hp} {L : List (Addr × List D)}
theorem new_hq0 {xs : List D} (hl : xs.length ≤ 16000000) (h : ∀ a, hp a = none → Q (.addr a) ⟨loc, hq hp [(a, xs)]⟩) : New xs Q ⟨loc, hp⟩ := new_mut hl h
theorem new_hq {xs : List D} (hl : xs.length ≤ 16000000) (hn : (L.map (·.1)).Nodup) (h : ∀ a, (a :: L.map (·.1)).Nodup → hp a = none → Q (.addr a) ⟨loc, hq hp ((a, xs) :: L)⟩) : New xs Q ⟨loc, hq hp L⟩ :=
  new_mut hl fun a ha => h a (List.nodup_cons.mpr ⟨(hq_none ha).1, hn⟩) (hq_none ha).2
theorem f_appq (i : Nat) {a : Addr} {d : D} {xs : List D} (hn : (L.map (·.1)).Nodup) (hi : L[i]? = some (a, xs)) (hl : xs.length ≤ 16000000) (h : Q .none ⟨loc, hq hp (L.set i (a, xs ++ [d]))⟩) : CV X n (.fn (.builtin "list.append")) [.addr a, d] Q ⟨loc, hq hp L⟩ :=
  f_append (hq_get hn hi) hl (by rw [hq_set hn hi]; exact h)
theorem set_q (i : Nat) {a : Addr} {k : Int} {d : D} {xs : List D} {KK : St → Prop} (hn : (L.map (·.1)).Nodup) (hi : L[i]? = some (a, xs)) (hl : xs.length ≤ 16000000) (h0 : 0 ≤ k) (h1 : k < xs.length) (h : KK ⟨loc, hq hp (L.set i (a, xs.set k.toNat d))⟩) :
    wpSet X n (.addr a) (.int k) d KK ⟨loc, hq hp L⟩ := set_at (hq_get hn hi) hl h0 h1 (by rw [hq_set hn hi]; exact h)
theorem lst_q (i : Nat) {a : Addr} {xs : List D} (hn : (L.map (·.1)).Nodup) (hi : L[i]? = some (a, xs)) : lst (hq hp L) (.addr a) = some xs := by simp only [lst, hq_get hn hi]
theorem meth_app (i : Nat) {a : Addr} {xs : List D} {args : List Expr} (hn : (L.map (·.1)).Nodup) (hi : L[i]? = some (a, xs)) (h : wpEs X n args (kArgsM X n (.fn (.builtin "list.append")) (.addr a) Q) ⟨loc, hq hp L⟩) : mK X n "append" args Q (.addr a) ⟨loc, hq hp L⟩ :=
  m_ (meth_append (lst_q i hn hi)) h
theorem shift_hq {l l' : List (Str × D)} (hk : ∀ b ∈ L.map (·.1), hp b = none) (hl : AllCv (fun a => a ∈ L.map (·.1)) (hq hp L) l l') : Shift ⟨env l, hq hp L⟩ ⟨env l', hp⟩ :=
  ⟨fun a => a ∈ L.map (·.1), fun a m' e => ⟨fun q => (by have := hk a q; rw [show hp a = some m' from e] at this; cases this), m', hq_old hk e, .rfl _⟩, fun x d' e => allCv_env hl x d' e⟩
theorem Cv.q (i : Nat) {a : Addr} {xs : List D} (hn : (L.map (·.1)).Nodup) (hi : L[i]? = some (a, xs)) : Cv (fun a => a ∈ L.map (·.1)) (hq hp L) (.addr a) (.list xs) :=
  .addr (hq_get hn hi) (List.mem_map.mpr ⟨_, List.mem_of_getElem? hi, Eq.refl _⟩) (Eq.refl _) fun i x y e1 e2 => by rw [e1] at e2; cases e2; exact .rfl _
end
def bt (n : Nat) (W : Nat → Bool) : List D := tb n fun p => .bool (W p)
def ot (n : Nat) (f : Nat → Option Int) : List D := tb n fun p => od (f p)
theorem bt_length {n : Nat} {W : Nat → Bool} : (bt n W).length = n := tb_length
theorem ot_length {n : Nat} {f : Nat → Option Int} : (ot n f).length = n := tb_length
section
variable {X : Cx} {n : Nat} {Q : D → St → Prop} {st : St} {loc : Str → Option D} {hp : Hp} {QB : Bool → Prop}
theorem b_addl {xs ys : List D} (h : New (xs ++ ys) Q st) : wpBin X n .Add (.list xs) (.list ys) Q st := b_addq rfl rfl h
theorem hq_fresh : ∀ {L : List (Addr × List D)} {b : Addr}, (b :: L.map (·.1)).Nodup → hp b = none → hq hp L b = none
  | [], b, _, h => h
  | (a, xs) :: r, b, hn, h => by
    simp only [List.map_cons, List.nodup_cons, List.mem_cons, not_or] at hn
    simp only [hq]
    rw [if_neg hn.1.1]
    exact hq_fresh (List.nodup_cons.mpr ⟨hn.1.2, hn.2.2⟩) h
theorem shift_hq1 {l l' : List (Str × D)} {L : List (Addr × List D)} {b : Addr} {xs : List D} (hn : (b :: L.map (·.1)).Nodup) (hb : hp b = none) (hl : AllCv (fun a => a = b) (updH (hq hp L) b (some (.list xs))) l l') : Shift ⟨env l, hq hp ((b, xs) :: L)⟩ ⟨env l', hq hp L⟩ :=
  shift_drop (hq_fresh hn hb) hl
end
end Mine

namespace Mine
open PySem PySem.W PyProof.Rows PySem.Spec
theorem s_none_int : isSubtype (.type "NoneType") (.type "int") = pure false := by rw [isSubtype_type]; kernel_rfl
theorem s_str_int : isSubtype (.type "str") (.type "int") = pure false := by rw [isSubtype_type]; kernel_rfl
theorem s_bool_int : isSubtype (.type "bool") (.type "int") = pure true := by rw [isSubtype_type]; kernel_rfl
theorem s_bool_bool : isSubtype (.type "bool") (.type "bool") = pure true := by rw [isSubtype_type]; kernel_rfl
section
variable {X : Cx} {n : Nat} {st : St} {Q : D → St → Prop} {loc : Str → Option D} {hp : Hp} {L : List (Addr × List D)}
theorem f_isi_ni (h : Q (.bool false) st) : CV X n (.fn (.builtin "isinstance")) [.none, .fn (.type "int")] Q st := CV.isi fun _ _ _ _ _ _ s _ _ F r => by
  rw [r.none']; exact call_isinstance (isinstance_false_none (by decide) PySem.F.isi_meta_int s_none_int) (PV.tok F R.bool_ h)
theorem f_isi_si {x : Str} (h : Q (.bool false) st) : CV X n (.fn (.builtin "isinstance")) [.str x, .fn (.type "int")] Q st := CV.isi fun _ _ _ _ _ _ s _ _ F r => by
  obtain ⟨t, rfl⟩ := r.str'; exact call_isinstance (isinstance_false_str (by decide) PySem.F.isi_meta_int s_str_int) (PV.tok F R.bool_ h)
theorem f_isi_bi {b : Bool} (h : Q (.bool true) st) : CV X n (.fn (.builtin "isinstance")) [.bool b, .fn (.type "int")] Q st := CV.isi fun _ _ _ _ _ _ s _ _ F r => by
  rw [r.bool']; exact call_isinstance (isinstance_true (Tx := "bool") PySem.F.isi_meta_int s_bool_int) ⟨rfl, PV.here F R.bool_ h⟩
theorem f_isi_bb {b : Bool} (h : Q (.bool true) st) : CV X n (.fn (.builtin "isinstance")) [.bool b, .fn (.type "bool")] Q st := CV.isi fun _ _ _ _ _ _ s _ _ F r => by
  rw [r.bool']; exact call_isinstance (isinstance_true (Tx := "bool") PySem.F.isi_meta_bool s_bool_bool) ⟨rfl, PV.here F R.bool_ h⟩
end
end Mine

namespace Mine
open PySem PySem.W PyProof.Rows PySem.Spec PySem.Calls

section
variable {X : Cx} {env : Env} {rw : Bool} {n : Nat} {A A' : Around} {kb kb' : Fz} {av : Addr → Prop} {g g' : Fz} {st st' : St} {s s' : Shared} {hp hp' : Hp} {loc : Str → Option D} {K : Fl → St → Prop} {Q : D → St → Prop} {Ex : Addr → Prop} {ct hn cm : Bool} {e C C' : Addr} {M : Model} {E : Value → Shared → Prop}
def Caught (X : Cx) (A : Around) (kb g : Fz) (e C : Addr) (s : Shared) : Prop :=
  ∃ l kb', A.frames = some l ∧ Fly X l kb' e C true s ∧ (∀ b o, kb b = some o → kb' b = some o) ∧ (∀ b o, g b = some o → kb' b = some o)
theorem InF.own_nf (F : InF X env rw kb av g st s) {b : Addr} (h : Own env b) : ∃ o, s.heap.get? b = some o ∧ NF o := by
  rcases h with rfl | ⟨x, h1, h2⟩
  · obtain ⟨m, ⟨o, _, _, ho, hd, _⟩, _⟩ := F.ns; exact ⟨o, ho, fun vs q => by rw [hd] at q; cases q⟩
  · obtain ⟨_, ⟨o, ho, hd⟩, _⟩ := F.cell x b h1 h2; exact ⟨o, ho, fun vs q => by rw [hd] at q; cases q⟩
theorem none_of (h : ∀ b o, kb b = some o → kb' b = some o) {a : Addr} (q : kb' a = none) : kb a = none := by
  cases z : kb a with
  | none => rfl
  | some o => rw [h a o z] at q; cases q
theorem fields_loose (F : InF X env rw kb av g ⟨loc, fun _ => none⟩ s) (h1 : ∀ b o, kb b = some o → kb' b = some o) (h2 : ∀ b o, g b = some o → kb' b = some o) {a : Addr} {o : Obj} {vs : Array Value} (ha : kb' a = none) (ho : s.heap.get? a = some o) (hd : o.data = .fields vs) :
    Loose env kb g (fun _ => none) s a := ⟨none_of h1 ha, none_of h2 ha, rfl, fun q => by
      obtain ⟨o', q1, q2⟩ := F.own_nf q
      rw [ho] at q1; cases q1; exact q2 vs hd, o, ho⟩
theorem caught_flight (F : InF X env rw kb av g ⟨loc, fun _ => none⟩ s) (c : Caught X A kb g e C s) {fo : Option Addr} {P : Unit → Shared → Prop}
    (h : ∀ h', InF X env rw kb av g ⟨loc, fun _ => none⟩ { s with heap := h' } → Caught X A kb g e C { s with heap := h' } → P () { s with heap := h' }) : wpAny M A' (setFlight (.ref e) fo) P E s := by
  obtain ⟨l, kb', hfr, Fl, h1, h2⟩ := c
  obtain ⟨oe, vs, a1, a2, aD, a3, a4, a5⟩ := id Fl.ex
  rcases a5 with ⟨q, _⟩ | ⟨T, oT, ts, b1, b2, b3, b4, b5, b6⟩
  · cases q
  unfold setFlight
  refine wpAny_bind (wpAny_field a1 a3 b1 ?_)
  rw [if_pos (show (Value.ref T != Value.none) = true from by simp)]
  refine wpAny_setField b4 b5 b6 (h _ (F.extI (fields_loose F h1 h2 b2 b4 b5) fun b o hb ho => (Heap.get?_update_other _ _ (Ne.symm hb)).trans ho) ⟨l, kb', hfr, Fl.setT b2 b4 b5 b3 b6 fun oe' vs' q1 q2 => ?_, h1, h2⟩)
  rw [a1] at q1; cases q1; rw [a3] at q2; cases q2; exact b1

def wpHs (X : Cx) (n : Nat) (hs : List ExceptHandler) (C : Addr) (K : Fl → St → Prop) (loc : Str → Option D) : Prop :=
  ∀ env A kb av g s e, okHs X.isG env.scope.names hs = true → Rm X env true kb av A n → InF X env true kb av g ⟨loc, fun _ => none⟩ s → Caught X A kb g e C s →
    W X env A kb (handleBy (.ref e) env hs) (PF X env kb av g K) s

theorem s_try {body : List Stmt} {h₀ : ExceptHandler} {hs : List ExceptHandler} {p : Pos} (Ex' : Addr → Prop) (hct : X.ct = true) (hb : wpSs (X.sw Ex' X.ct X.hn X.cm) n body K st) (hh : ∀ C, Ex' C → wpHs X n (h₀ :: hs) C K (fun _ => none)) :
    wpS X n (.Try body (h₀ :: hs) [] [] p) K st := fun env hok A kb av g s hr F => by
  obtain ⟨o1, o2⟩ := and2 (show (okSs X.isG env.scope.names body && okHs X.isG env.scope.names (h₀ :: hs)) = true from hok)
  classical
  let kT : Fz := fun b => if (st.hp b).isSome ∨ Own env b then none else X.get s.heap b
  have kT_of : ∀ {b : Addr} {o : Obj}, st.hp b = none → ¬ Own env b → X.get s.heap b = some o → kT b = some o := fun {b o} q1 q2 q3 => by
    show (if (st.hp b).isSome ∨ Own env b then none else X.get s.heap b) = some o
    rw [if_neg]
    · exact q3
    · rintro (z | z)
      · rw [q1] at z; cases z
      · exact q2 z
  have kT_in : ∀ {b : Addr} {o : Obj}, kT b = some o → st.hp b = none ∧ ¬ Own env b ∧ X.get s.heap b = some o := fun {b o} q => by
    have q : (if (st.hp b).isSome ∨ Own env b then none else X.get s.heap b) = some o := q
    split at q
    · cases q
    · rename_i z
      rw [not_or] at z
      exact ⟨by simpa using z.1, z.2, q⟩
  have own_kb : ∀ {b : Addr}, Own env b → kb b = none := fun {b} q => by
    rcases q with rfl | ⟨x, h1, h2⟩
    · exact F.Lk
    · obtain ⟨_, _, _, _, _, _, h⟩ := F.cell x b h1 h2; exact h rfl
  have up : ∀ b o, kb b = some o → kT b = some o := fun b o q => by
    refine kT_of ?_ (fun z => by rw [own_kb z] at q; cases q) (F.sat.kbh b o q)
    cases z : st.hp b with
    | none => rfl
    | some mo => rw [(F.sat.hph _ _ z).2.1] at q; cases q
  have nfg : ∀ {b : Addr} {o : Obj}, g b = some o → ¬ X.fz b := fun {b o} q z => by rw [F.sat.gav b (F.sat.fza b z)] at q; cases q
  have upg : ∀ b o, g b = some o → kT b = some o := fun b o q => by
    refine kT_of ?_ (fun z => by rw [F.own_g z] at q; cases q) (by rw [get_not (nfg q)]; exact F.sat.gh b o q)
    cases z : st.hp b with
    | none => rfl
    | some mo => rw [(F.sat.hph _ _ z).2.2] at q; cases q
  have F' : InF X env true kT av g st s := {
    sat := { gens := F.sat.gens, os := F.sat.os, drawn := F.sat.drawn, top := fun b o q => up b o (F.sat.top b o q), kbh := fun b o q => (kT_in q).2.2, gh := F.sat.gh
             avk := fun b hb => by
               obtain ⟨o, ho⟩ := Option.isSome_iff_exists.mp (F.sat.avk b hb)
               rw [up b o ho]; rfl
             gav := F.sat.gav
             hph := fun a mo q => by
               obtain ⟨q1, q2, q3⟩ := F.sat.hph a mo q
               refine ⟨q1, ?_, q3⟩
               cases z : kT a with
               | none => rfl
               | some o => rw [(kT_in z).1] at q; cases q
             fza := F.sat.fza, fzT := F.sat.fzT }
    ok := F.ok, ns := F.ns
    Lk := by
      cases z : kT env.locals with
      | none => rfl
      | some o => exact absurd (.inl rfl) (kT_in z).2.1
    Lg := F.Lg, Lh := F.Lh
    cell := fun x c h1 h2 => by
      obtain ⟨vo, a1, a2, a3, a4, a5, a6⟩ := F.cell x c h1 h2
      refine ⟨vo, a1, a2, a3, a4, a5, fun _ => ?_⟩
      cases z : kT c with
      | none => rfl
      | some o => exact absurd (.inr ⟨x, h1, h2⟩) (kT_in z).2.1
    apart := F.apart, lg := F.lg, nfz := F.nfz }
  obtain ⟨f, l, L, r1, r2, r3, r4, r5, r6⟩ := hr.fr
  have hr' : Rm (X.sw Ex' X.ct X.hn X.cm) env true kT av A n := ⟨hr.toRoom, hr.hd, hr.rwc, fun q1 q2 => (hr.hk q1 q2).mono up, f, l, L, r1, r2, r3, r4, r5.imp id fun q => (by cases q.1), fun f' hf' => (r6 f' hf').mono up fun _ q => q⟩
  refine wpAny_Try_except (wpAny_mono (hb env o1 A kT av g s hr' F'.sw) (fun fl s₁ ⟨g₁, fl', st₁, q1, F₁, rf, hK⟩ => ?_) fun v s₁ x => ?_)
  · have F₁ := F₁.ws
    have G₁ : InF X env true kb av g₁ st₁ s₁ := {
      sat := { gens := F₁.sat.gens, os := F₁.sat.os, drawn := F₁.sat.drawn, top := F.sat.top, kbh := fun b o q => F₁.sat.kbh b o (up b o q), gh := F₁.sat.gh, avk := F.sat.avk, gav := F₁.sat.gav
               hph := fun a mo q => by
                 obtain ⟨q1, q2, q3⟩ := F₁.sat.hph a mo q
                 exact ⟨q1, none_of up q2, q3⟩
               fza := F.sat.fza, fzT := F.sat.fzT }
      ok := F.ok, ns := F₁.ns, Lk := F.Lk, Lg := F₁.Lg, Lh := F₁.Lh
      cell := fun x c h1 h2 => by
        obtain ⟨vo, a1, a2, a3, a4, a5, a6⟩ := F₁.cell x c h1 h2
        exact ⟨vo, a1, a2, a3, a4, a5, fun _ => own_kb (.inr ⟨x, h1, h2⟩)⟩
      apart := F.apart, lg := F₁.lg, nfz := F.nfz }
    cases fl' with
    | next => rw [show fl = .next from rf]; exact wpAny_execs_nil ⟨g₁, .next, st₁, q1, G₁, rfl, hK⟩
    | cont => rw [show fl = .cont from rf]; exact ⟨g₁, .cont, st₁, q1, G₁, rfl, hK⟩
    | brk => rw [show fl = .brk from rf]; exact ⟨g₁, .brk, st₁, q1, G₁, rfl, hK⟩
    | ret d => obtain ⟨w, rfl, rw'⟩ := rf; exact ⟨g₁, .ret d, st₁, q1, G₁, ⟨w, rfl, rw'⟩, hK⟩
  · obtain ⟨⟨e, C, tr, l', rfl, hC, hfr, Fl⟩, ⟨m, hm⟩, hcl⟩ := x
    rw [r1] at hfr
    cases hfr
    refine fly_note r1 r3 r4 Fl.ws fun h₂ Fl₂ u₂ => fly_flight Fl₂ fun h₃ Fl₃ u₃ => ?_
    have hL : L = env.locals := by
      rcases r5 with ⟨_, q⟩ | ⟨q, _⟩
      · exact q
      · cases q
    have notfr : ∀ {b : Addr} {o : Obj}, kT b = some o → ¬ X.fz b → b ∉ frs (f :: l) := fun {b o} q z hm => by
      obtain ⟨f', hf', q'⟩ := List.mem_filterMap.mp hm
      rcases List.mem_cons.mp hf' with y | y
      · subst y
        rw [r3] at q'
        cases q'
        exact (kT_in q).2.1 (.inl hL)
      · obtain ⟨_, L', q2, _, q4⟩ := r6 f' y
        rw [q2] at q'
        cases q'
        exact z (q4 hct)
    have u := u₂.trans u₃
    have G : InF X env true kb av g ⟨fun _ => none, fun _ => none⟩ { s₁ with heap := h₃ } := {
      sat := { gens := Fl₃.gens, os := Fl₃.os, drawn := Fl₃.drawn, top := F.sat.top
               kbh := fun b o q => by
                 obtain ⟨sl, q1, q2⟩ := Fl₃.kbh b o (up b o q)
                 rw [get_of q1]
                 by_cases z : X.fz b
                 · rw [strip_fz z]
                   obtain ⟨o', _, q4⟩ := get_ex (F.sat.kbh b o q)
                   rw [strip_fz z] at q4
                   subst q4; rfl
                 · rw [strip_not z, q2 (notfr (up b o q) z) z]
               gh := fun b o q => by
                 obtain ⟨sl, q1, q2⟩ := Fl₃.kbh b o (upg b o q)
                 rw [q2 (notfr (upg b o q) (nfg q)) (nfg q)] at q1
                 exact q1
               avk := F.sat.avk, gav := F.sat.gav, hph := fun _ _ q => (by cases q)
               fza := F.sat.fza, fzT := F.sat.fzT }
      ok := F.ok, ns := ⟨m, u.ns hm, fun _ _ _ q => (by cases q)⟩, Lk := F.Lk, Lg := F.Lg, Lh := rfl
      cell := fun x c h1 h2 => by
        obtain ⟨vo, a1, a2, a3, a4, a5, a6⟩ := F.cell x c h1 h2
        obtain ⟨vo', b1⟩ := hcl.up u x c h1 h2
        exact ⟨vo', b1, fun _ q => (by cases q), a3, a4, rfl, a6⟩
      apart := F.apart, lg := fun _ _ q => (by cases q), nfz := F.nfz }
    exact wpAny_mono (hh C hC env A kb av g _ e o2 hr G ⟨_, kT, r1, Fl₃, up, upg⟩) (fun _ _ p => p) fun _ _ x => x
end
end Mine

namespace Mine
open PySem PySem.W PyProof.Rows PySem.Spec PySem.Calls

section
variable {M : Model} {A : Around} {E : Value → Shared → Prop}
variable {nm q : Str} {C N : Addr} {bs bm : List Value} {hdct : Bool} {sn : List Str} {sub : List Value} {ab : Bool} {col : Option Bool} {dd : Option Addr} {k0 k1 k2 k3 k5 : Option Value} {newId : String}
variable {nm' q' : Str} {C' N' : Addr} {bs' bm' : List Value} {hdct' : Bool} {sn' : List Str} {sub' : List Value} {ab' : Bool} {col' : Option Bool} {dd' : Option Addr} {j0 j1 j2 j3 j5 : Option Value} {newId' : String}
theorem exc_matches {h : Heap} {g : Array GenState} {d : Drawn} {t : Nat} {os : OsState} {e : Addr} {oe : Obj} {Q : Bool → Shared → Prop}
    (hC : h.get? C = some (excClassObj nm q C N bs bm hdct sn sub ab col dd k0 k1 k2 k3 k5 newId)) (hC' : h.get? C' = some (excClassObj nm' q' C' N' bs' bm' hdct' sn' sub' ab' col' dd' j0 j1 j2 j3 j5 newId')) (he : h.get? e = some oe) (hcls : oe.cls = .ref C) (hbase : bm'.contains (.type "BaseException") = true)
    {b : Bool} (hb : (Value.ref C :: bm).contains (.ref C') = b) (hq : Q b ⟨h, g, d, t, os⟩) : wpAny M A (excMatches (.ref e) (.ref C')) Q E ⟨h, g, d, t, os⟩ := by
  have hcB : (Value.ref C' :: bm').contains (.type "BaseException") = true := by rw [List.contains_cons, hbase, Bool.or_true]
  have f := tc_notTuple
  unfold excMatches
  repeat (first | (with_reducible refine wpAny_loadPart_at he ?_; rw [hcls]) | with_reducible refine wpAny_loadPart_at hC' ?_ | (with_reducible refine wpAny_isSubtype_exc hC' ?_; rw [hcB]) | (with_reducible refine wpAny_isSubtype_exc hC ?_; rw [hb]) | wp_step)
  cases b <;> (wp_walk; exact hq)
end

section
variable {X : Cx} {env : Env} {rw : Bool} {n : Nat} {A A' : Around} {kb kb' : Fz} {av : Addr → Prop} {g g' : Fz} {st st' : St} {s s' : Shared} {hp hp' : Hp} {loc : Str → Option D} {K : Fl → St → Prop} {Q : D → St → Prop} {Ex : Addr → Prop} {ct hn cm : Bool} {e C C' : Addr} {M : Model} {E : Value → Shared → Prop}
theorem matches_ok (ok : X.Ok) (S : Sat X kb av g hp s) {oe : Obj} (hx : excB X.K C = true) (hx' : excB X.K C' = true) (he : s.heap.get? e = some oe) (hcls : oe.cls = .ref C) {P : Bool → Shared → Prop} {b : Bool} (hb : (mroOfIn X.K C).contains (.ref C') = b) (h : P b s) :
    wpAny M A (excMatches (.ref e) (.ref C')) P E s := by
  obtain ⟨bm, N, nm, qn, bs, hdct, sn, sub, ab, col, dd, k0, k1, k2, k3, k5, mN, hC, hN, hni, T, hm⟩ := exc_obj ok.Kin hx
  obtain ⟨bm', N', nm', qn', bs', hdct', sn', sub', ab', col', dd', j0, j1, j2, j3, j5, mN', hC', hN', hni', T', hm'⟩ := exc_obj ok.Kin hx'
  obtain ⟨hh, gg, d, t, os⟩ := s
  exact exc_matches (S.topk _ _ hC) (S.topk _ _ hC') he hcls (T'.hasType PySem.F.excBase_ValueError.hasBase) (by rw [hm]; exact hb) h
theorem glob_eval (ok : X.Ok) (F : InF X env rw kb av g st s) {x : Str} {p : Pos} {d : D} (hx : okName X.isG env.scope.names x = true) (hg : X.G x = some d) {P : Value → Shared → Prop} (h : ∀ v, R g d v → P v s) : wpAny (model X.prog X.w) A (eval (.Name x p) env) P E s := by
  simp only [okName, Cx.isG, hg, Option.isSome_some, if_true, Bool.and_eq_true, Bool.not_eq_true', beq_iff_eq] at hx
  obtain ⟨hd, hx⟩ := hx
  obtain ⟨v, r, hv⟩ := ok.glob x d hg
  refine Calls.Name_function_global F.ok.kind hx ?_ hd
  have pv := h v (r.sub none_sub)
  rcases hv with ⟨mg, h1, h2⟩ | ⟨mg, mb, h1, h2, h3, h4⟩
  · exact Calls.loadGlobal_global (by rw [F.ok.globals]; exact h1.keeps F.sat.topk) h2 pv
  · exact Calls.loadGlobal_builtin (by rw [F.ok.globals]; exact h1.keeps F.sat.topk) h2 (by rw [F.ok.builtins]; exact h3.keeps F.sat.topk) h4 pv
theorem Rm.mark (hr : Rm X env true kb av A n) {v : Option Value} : Rm (X.sw X.Ex X.ct false false) env true kb av (A.mark v) n := ⟨⟨hr.dep, hr.un⟩, fun q => (by cases q), fun _ => rfl, fun _ q => (by cases q), hr.fr⟩
theorem Rm.marke (hr : Rm X env true kb av A n) (up : ∀ b o, kb b = some o → kb' b = some o) {av' : Addr → Prop} (ua : ∀ b, av b → av' b) {oe : Obj} {vs : Array Value} (he : kb' e = some oe) (hd : oe.data = .fields vs) (h2 : vs[2]? = some .none) : Rm (X.sw X.Ex X.ct false X.cm) env true kb' av' (A.mark (some (.ref e))) n :=
  ⟨⟨hr.dep, hr.un⟩, fun q => (by cases q), hr.rwc, fun _ _ => .inr ⟨e, oe, vs, rfl, he, hd, h2⟩, let ⟨f, l, L, h1, h2, h3, h4, h5, h6⟩ := hr.fr; ⟨f, l, L, h1, h2, h3, h4, h5.imp id fun q => (by cases q.1), fun f' hf' => (h6 f' hf').mono up ua⟩⟩
theorem EXF.no {P : Prop} (hX : ∀ C, ¬ X.Ex C) {v : Value} (x : EXF (X.sw X.Ex ct hn cm) env A kb v s) : P := let ⟨⟨_, C, _, _, _, q, _⟩, _⟩ := x; absurd q (hX C)
theorem Caught.obj (c : Caught X A kb g e C s) : ∃ oe vs, s.heap.get? e = some oe ∧ oe.cls = .ref C ∧ oe.dict = none ∧ oe.data = .fields vs := let ⟨_, _, _, Fl, _⟩ := c; let ⟨oe, vs, a1, a2, a3, a4, _⟩ := Fl.ex; ⟨oe, vs, a1, a2, a3, a4⟩
theorem Caught.obj2 (c : Caught X A kb g e C s) : ∃ oe vs, s.heap.get? e = some oe ∧ oe.data = .fields vs ∧ vs[2]? = some .none := let ⟨_, _, _, Fl, _⟩ := c; let ⟨oe, vs, a1, a2, a3, a4, a5, _⟩ := Fl.ex; ⟨oe, vs, a1, a4, a5.2⟩

theorem h_skip (ok : X.Ok) {x : Str} {np pos : Pos} {nm : Option Str} {body : List Stmt} {rest : List ExceptHandler} (hg : X.G x = some (.fn (.ref C'))) (hx : excB X.K C = true) (hx' : excB X.K C' = true) (hm : (mroOfIn X.K C).contains (.ref C') = false)
    (h : wpHs X n rest C K loc) : wpHs X n (.ExceptHandler (some (.Name x np)) nm body pos :: rest) C K loc := fun env A kb av g s e hok hr F c => by
  obtain ⟨o1, o2⟩ := and2 (show (okH X.isG env.scope.names (.ExceptHandler (some (.Name x np)) nm body pos) && okHs X.isG env.scope.names rest) = true from hok)
  have on : okName X.isG env.scope.names x = true := by
    cases nm with
    | none => exact (and2 (and2 o1).1).1
    | some m => exact (and2 (and2 (and2 o1).1).1).1
  obtain ⟨oe, vs, a1, a2, _⟩ := c.obj
  refine wpAny_handleBy_cons (codeAny_handlers_test (glob_eval ok F on hg fun v rv => ?_)) (by intro q; cases q)
  rw [rv.fn']
  refine matches_ok ok F.sat hx hx' a1 a2 hm ?_
  exact h env A kb av g s e o2 hr F c
theorem h_take (ok : X.Ok) {x : Str} {np pos : Pos} {body : List Stmt} {rest : List ExceptHandler} (hg : X.G x = some (.fn (.ref C'))) (hx : excB X.K C = true) (hx' : excB X.K C' = true) (hm : (mroOfIn X.K C).contains (.ref C') = true) (hX : ∀ C, ¬ X.Ex C)
    (h : wpSs (X.sw X.Ex X.ct false X.cm) n body K ⟨loc, fun _ => none⟩) : wpHs X n (.ExceptHandler (some (.Name x np)) none body pos :: rest) C K loc := fun env A kb av g s e hok hr F c => by
  obtain ⟨o1, o2⟩ := and2 (show (okH X.isG env.scope.names (.ExceptHandler (some (.Name x np)) none body pos) && okHs X.isG env.scope.names rest) = true from hok)
  obtain ⟨o1, o4⟩ := and2 (show (okName X.isG env.scope.names x && !body.isEmpty && okSs X.isG env.scope.names body) = true from o1)
  obtain ⟨on, o3⟩ := and2 o1
  obtain ⟨oe, vs, a1, a2, _⟩ := c.obj
  refine wpAny_handleBy_cons (codeAny_handlers_test (glob_eval ok F on hg fun v rv => ?_)) (by intro q; cases q)
  rw [rv.fn']
  refine matches_ok ok F.sat hx hx' a1 a2 hm ?_
  cases body with
  | nil => cases o3
  | cons b₀ suite =>
    refine codeAny_handlers_suite (caught_flight F c fun h' F' c' => ?_)
    obtain ⟨oe', vs', b1, b4, b5⟩ := c'.obj2
    obtain ⟨l, kb', hfr, Fl, u1, u2⟩ := c'
    have Le := fields_loose F' u1 u2 Fl.eb b1 b4
    have hP : ∀ b, b = e → Loose env kb g (fun _ => none) { s with heap := h' } b := by rintro b rfl; exact Le
    have Fp := F'.push (P := fun b => b = e) hP
    have hrm := hr.marke (kb' := addK X kb (fun b => b = e) h') (fun b o q => F'.sat.up q) (av' := fun b => av b ∨ b = e) (fun b q => .inl q) (e := e) (by rw [addK_of (P := fun b => b = e) rfl, get_not (F'.sat.nfz Le.k)]; exact b1) b4 b5
    refine wpAny_mono (h env o4 (A.mark (some (.ref e))) _ _ g _ hrm Fp.sw) (fun f s₂ p => ?_) fun v s₂ x => x.no hX
    obtain ⟨g₂, fl, st₂, q1, F₂, rf, hK⟩ := p
    obtain ⟨F₃, _⟩ := F'.pop F₂.ws hP
    exact ⟨g₂, fl, st₂, q1, F₃, rf, hK⟩
theorem InF.lost (F : InF X env true kb av g st s) {h' : Heap} {t : Nat} {m : Str → Option Value} (hn : h'.Ns env.locals m) (hs : Heap.SameBut env.locals s.heap h') : InF X env true kb av g ⟨fun _ => none, st.hp⟩ { s with heap := h', toks := t } := by
  have hk : ∀ b o, b ≠ env.locals → s.heap.get? b = some o → h'.get? b = some o := fun b o hb ho => hs.extBut b o hb ho
  have S := F.sat.extBut (s' := { s with heap := h', toks := t }) F.Lk F.Lg hk rfl rfl rfl
  have e : updH st.hp env.locals none = st.hp := by
    funext b
    unfold updH
    split
    · rename_i q; rw [q, F.Lh]
    · rfl
  rw [e] at S
  exact { sat := S, ok := F.ok, ns := ⟨m, hn, fun _ _ _ q => (by cases q)⟩, Lk := F.Lk, Lg := F.Lg, Lh := F.Lh
          cell := fun x c h1 h2 => by
            obtain ⟨vo, ⟨o, ho, hd⟩, a2, a3, a4, a5, a6⟩ := F.cell x c h1 h2
            exact ⟨vo, ⟨o, hk c o a3 ho, hd⟩, fun _ q => (by cases q), a3, a4, a5, a6⟩
          apart := F.apart, lg := fun _ _ q => (by cases q), nfz := F.nfz }
theorem h_takeAs (ok : X.Ok) {x nme : Str} {np pos : Pos} {body : List Stmt} {rest : List ExceptHandler} (hg : X.G x = some (.fn (.ref C'))) (hx : excB X.K C = true) (hx' : excB X.K C' = true) (hm : (mroOfIn X.K C).contains (.ref C') = true) (hX : ∀ C, ¬ X.Ex C)
    (h : wpSs (X.sw X.Ex X.ct false false) n body (fun fl st => K fl ⟨fun _ => none, st.hp⟩) ⟨updL loc nme (.exc C), fun _ => none⟩) : wpHs X n (.ExceptHandler (some (.Name x np)) (some nme) body pos :: rest) C K loc := fun env A kb av g s e hok hr F c => by
  obtain ⟨o1, o2⟩ := and2 (show (okH X.isG env.scope.names (.ExceptHandler (some (.Name x np)) (some nme) body pos) && okHs X.isG env.scope.names rest) = true from hok)
  obtain ⟨o1, o5⟩ := and2 (show (okName X.isG env.scope.names x && !body.isEmpty && okSs X.isG env.scope.names body && (okSt X.isG env.scope.names nme && env.scope.names.lookup nme == some .local)) = true from o1)
  obtain ⟨o1, o4⟩ := and2 o1
  obtain ⟨on, o3⟩ := and2 o1
  obtain ⟨o5, o6⟩ := and2 o5
  have hloc : env.kindOf nme = some .local := beq_iff_eq.mp o6
  obtain ⟨oe, vs, a1, a2, _⟩ := c.obj
  refine wpAny_handleBy_cons (codeAny_handlers_test (glob_eval ok F on hg fun v rv => ?_)) (by intro q; cases q)
  rw [rv.fn']
  refine matches_ok ok F.sat hx hx' a1 a2 hm ?_
  cases body with
  | nil => cases o3
  | cons b₀ suite =>
    refine codeAny_handlers_suite_as (caught_flight F c fun h' F' c' => ?_)
    obtain ⟨oe, vs, b1, b2, b3, b4⟩ := c'.obj
    obtain ⟨l, kb', hfr, Fl, u1, u2⟩ := c'
    have Le := fields_loose F' u1 u2 Fl.eb b1 b4
    have sub := Sub.updG (o := oe) Le.g
    have F₁ : InF X env true kb av (updG g e oe) ⟨loc, fun _ => none⟩ { s with heap := h' } := F'.next (F'.sat.grow b1 Le.k rfl Le.g) sub (fun _ _ _ e => e) (fun b hb => by unfold updG; rw [if_neg fun (q : b = e) => Le.o (q ▸ hb)]; exact F'.own_g hb) (fun _ _ => rfl)
    have rE : R (updG g e oe) (.exc C) (.ref e) := by
      change ∃ _, _
      exact ⟨e, oe, vs, rfl, by unfold updG; rw [if_pos rfl], b2, b3, b4⟩
    refine store_ok F₁ rE (.inl hloc) (okSt_g o5) fun s₂ F₂ _ => ?_
    refine wpAny_mono (h env o4 (A.mark (some (.ref e))) kb av _ s₂ hr.mark F₂.sw) (fun f s₃ p => ?_) fun v s₂ x => x.no hX
    obtain ⟨g₃, fl, st₃, q1, F₃, rf, hK⟩ := p
    have F₃ := F₃.ws
    obtain ⟨m, hm', _⟩ := F₃.ns
    refine wpAny_nameGoes hloc hm' (by rw [F.ok.kind]; rfl) fun h₄ m₄ hn₄ hs₄ => ?_
    exact ⟨g₃, fl, _, sub.trans q1, F₃.lost hn₄ hs₄, rf, hK⟩
end
end Mine

namespace Mine
open PySem PySem.W PyProof.Rows PySem.Spec PySem.Calls

section
variable {prog : Program} {w : World} {A : Around} {E : Value → Shared → Prop} {s : Shared} {K : Frag} {x C D : Addr} {ox : Obj} {od : Obj} {odo : Option Obj} {name : Str}
theorem exc_check {M : Model} {nameV : Value} {Q : Unit → Shared → Prop} (X : K.In s.heap) (I : InstAt s.heap x ox D none) (hB : subIn K (.ref D) (.type "BaseException") = some true) (hq : Q () s) : wpAny M A (checkBuiltinCall "BaseException.__getattribute__" ⟨[.ref x, nameV], []⟩) Q E s := by
  have hk : builtinKind "BaseException.__getattribute__" = some .slot := by decide +kernel
  have hsplit : splitId "BaseException.__getattribute__" = some ("BaseException", "__getattribute__") := by decide +kernel
  have ha := PySem.F.args_bexc_ga (.ref x) nameV
  have L0 := I.type (M := M)
  have L1 := looks_subIn (M := M) X hB
  simp only [checkBuiltinCall, hk, hsplit]
  refine wpAny_bind ?_
  unfold isInstance
  refine wpAny_bind (L0.at (L1.at ?_))
  repeat (first | assumption | wp_step)
theorem exc_class {Q : Option Value → Shared → Prop} (X : K.In s.heap) (I : InstAt s.heap x ox D none) (hga : findIn K (.ref D) "__getattribute__" = some (some (.builtin "BaseException.__getattribute__"))) (hgt : findIn K (.ref D) "__getattr__" = some none)
    (hf : findObj K D none "__class__" = some (.bind (.builtin "getset_descriptor.__get__") (.builtin "object.__class__"))) (hm : mroIn K D (.type "object") = some true) (hB : subIn K (.ref D) (.type "BaseException") = some true)
    (h : Q (some (.ref D)) { s with toks := s.toks + 1 }) : wpAny (model prog w) A (getAttr? (.ref x) "__class__") Q E s := by
  obtain ⟨hh, g, d, t, os⟩ := s
  have L0 := I.type (M := model prog w)
  have L1 := looks_findIn (M := model prog w) X hga
  have L2 := looks_findIn (M := model prog w) X hgt
  have L3 := looks_find (M := model prog w) X I hf
  unfold getAttr? getAttrBy? getAttrBy
  refine wpAny_bind (wpAny_mkText (wpAny_bind (wpAny_attempt (wpAny_holding (wpAny_bind (L0.at (wpAny_bind (L1.at ?_))))))))
  have hne : (onTheHeap (Value.ref D) && Value.builtin "BaseException.__getattribute__" == Value.builtin "object.__getattribute__") = false := by
    rw [show (Value.builtin "BaseException.__getattribute__" == Value.builtin "object.__getattribute__") = false by decide +kernel]; rfl
  dsimp only
  rw [if_neg (by rw [hne]; decide)]
  unfold getAttrByItsOwn hookBefore
  rw [if_pos (by rfl)]
  refine wpAny_bind (L2.at (wpAny_bind (wpAny_attempt (wpAny_holding ?_))))
  unfold callGetattribute boundAndCalled
  rw [if_neg (by simp)]
  refine wpAny_bind (wpAny_of_eq (PySem.F.attrBase_ValueError.ga.bind (.ref x)) ?_)
  refine wpAny_call (codeAny_call_builtin PySem.F.attrBase_ValueError.ga.plain PySem.F.entry_bexc_ga (exc_check (s := ⟨hh, g, d, t + 1, os⟩) X I hB ?_))
  unfold Builtin.«object.__getattribute__»
  refine wpAny_bind (wpAny_pure (a := (Value.ref x, [Value.str "__class__" t])) ?_)
  refine wpAny_bind (wpAny_pure (a := ("__class__" : Str)) ?_)
  refine wpAny_bind (L0.at (wpAny_bind (L3.at ?_)))
  dsimp only
  unfold Builtin.ObjectAttr.bindTo
  refine wpAny_bind (wpAny_holding (wpAny_call (class_get (s := ⟨hh, g, d, t + 1, os⟩) (ox := ox) (od := none) X I hm ?_)))
  refine wpAny_pure ?_
  exact handed_on rfl (wpAny_pure h)
theorem findObj_class {a g : Value} (hc : (clsIn K C).isSome = true) (ha : findIn K (.ref C) name = some (some a)) (hg : specialIn K a "__get__" = some (some g)) (ht : takesIn K a = some true) : findObj K C odo name = some (.bind g a) := by
  obtain ⟨cd, hc⟩ := Option.isSome_iff_exists.mp hc
  unfold findObj
  rw [hc, Option.bind_some, ha, Option.bind_some]
  simp [hg, ht]

def isiK (K : Frag) (D : Addr) : Bool := findIn K (.ref D) "__getattribute__" == some (some (.builtin "BaseException.__getattribute__")) && findIn K (.ref D) "__getattr__" == some none && (clsIn K D).isSome && findIn K (.ref D) "__class__" == some (some (.builtin "object.__class__")) &&
  specialIn K (.builtin "object.__class__") "__get__" == some (some (.builtin "getset_descriptor.__get__")) && takesIn K (.builtin "object.__class__") == some true && mroIn K D (.type "object") == some true && subIn K (.ref D) (.type "BaseException") == some true

theorem isType_of (X : K.In s.heap) (h : (clsIn K D).isSome = true) {M : Model} : Looks M s.heap (isType (.ref D)) true := by
  unfold clsIn at h
  split at h
  · rename_i c' d' cd' sl' ho
    intro A' Q' E' s' k q
    unfold isType loadHead
    exact wpAny_bind (wpAny_loadPart (k _ _ (X _ _ ho)) (wpAny_pure q))
  · cases h
theorem exc_nested {c : Value} {dep : Int} {tk : Tok} {Q : Fin → Shared → Prop} (X : K.In s.heap) (I : InstAt s.heap x ox D none) (hi : isiK K D = true) (hty : Looks (model prog w) s.heap (typeOf c) (.type "type")) (his : Looks (model prog w) s.heap (isType c) true)
    (hne : (Value.ref D == c) = false) (hsub : Looks (model prog w) s.heap (isSubtype (.ref D) c) false) (h : Q (.done (.ret (.bool false))) { s with toks := s.toks + 1 }) :
    wpAny (model prog w) A (Builtin.«isinstance.nested» ⟨[.ref x, c, .int dep tk], []⟩) Q E s := by
  unfold isiK at hi
  simp only [Bool.and_eq_true, beq_iff_eq] at hi
  obtain ⟨⟨⟨⟨⟨⟨⟨k1, k2⟩, k3⟩, k4⟩, k5⟩, k6⟩, k7⟩, k8⟩ := hi
  have hisD : Looks (model prog w) s.heap (isType (.ref D)) true := isType_of X k3
  obtain ⟨h0, g, d, tt, os⟩ := s
  have L0 := I.type (M := model prog w)
  have LI : Looks (model prog w) h0 (isInstance (.ref x) c) false := L0.andThen hsub
  unfold Builtin.«isinstance.nested»
  refine wpAny_bind (L0.at ?_)
  rw [if_neg (fun q => by rw [hne] at q; exact Bool.noConfusion q)]
  refine wpAny_bind (hty.at ?_)
  rw [if_pos (by decide)]
  k_delta "plainIsInstance"
  refine wpAny_bind (wpAny_bind (his.at ?_))
  simp only [Bool.not_true, Bool.false_eq_true, if_false]
  refine wpAny_bind (LI.at ?_)
  simp only [Bool.false_eq_true, if_false]
  refine wpAny_bind (exc_class X I k1 k2 (findObj_class k3 k4 k5 k6) k7 k8 ?_)
  refine wpAny_bind (hisD.at ?_)
  simp only [Bool.not_true, Bool.false_eq_true, if_false]
  refine wpAny_bind (wpAny_rule ?_)
  refine hsub.at ?_
  first
    | exact wpAny_pure h
    | exact wpAny_pure (wpAny_pure h)
    | exact wpAny_bind (wpAny_pure (wpAny_pure h))
theorem exc_yes {c : Value} {dep : Int} {tk : Tok} {Q : Fin → Shared → Prop} (X : K.In s.heap) (I : InstAt s.heap x ox D none) (hty : Looks (model prog w) s.heap (typeOf c) (.type "type")) (his : Looks (model prog w) s.heap (isType c) true)
    (hsub : Looks (model prog w) s.heap (isSubtype (.ref D) c) true) (h : Q (.done (.ret (.bool true))) s) :
    wpAny (model prog w) A (Builtin.«isinstance.nested» ⟨[.ref x, c, .int dep tk], []⟩) Q E s := by
  obtain ⟨h0, g, d, tt, os⟩ := s
  have L0 := I.type (M := model prog w)
  have LI : Looks (model prog w) h0 (isInstance (.ref x) c) true := L0.andThen hsub
  unfold Builtin.«isinstance.nested»
  refine wpAny_bind (L0.at ?_)
  by_cases he : (Value.ref D == c) = true
  · rw [if_pos he]
    repeat (first | exact h | refine wpAny_pure ?_ | refine wpAny_rule ?_ | refine wpAny_bind ?_)
  · rw [if_neg he]
    refine wpAny_bind (hty.at ?_)
    rw [if_pos (by decide)]
    k_delta "plainIsInstance"
    refine wpAny_bind (wpAny_bind (his.at ?_))
    simp only [Bool.not_true, Bool.false_eq_true, if_false]
    refine wpAny_bind (LI.at ?_)
    simp only [if_true]
    repeat (first | exact h | refine wpAny_pure ?_ | refine wpAny_rule ?_ | refine wpAny_bind ?_)
end
section
variable {X : Cx} {n : Nat} {st : St} {Q : D → St → Prop} {C C' : Addr}
def isiNo (K : Frag) (C C' : Addr) : Bool := isiK K C && decide (C ≠ C') && (clsIn K C').isSome && typeIn K (.ref C') == some (.type "type") && subIn K (.ref C) (.ref C') == some false
def isiYes (K : Frag) (C C' : Addr) : Bool := (clsIn K C').isSome && typeIn K (.ref C') == some (.type "type") && subIn K (.ref C) (.ref C') == some true
theorem exc_real {kb : Fz} {av : Addr → Prop} {g : Fz} {hp : Hp} {s : Shared} (S : Sat X kb av g hp s) {v : Value} (r : R g (.exc C) v) : ∃ x ox, v = .ref x ∧ W.InstAt s.heap x ox C none := by
  obtain ⟨a, o, vs, rfl, h1, h2, h3, h4⟩ := r
  refine ⟨a, o, rfl, S.gh _ _ h1, h2, ?_, ?_⟩
  · unfold notCls; rw [h4]
  · rw [h3]; trivial
theorem f_isi_no (ok : X.Ok) (hi : isiNo X.K C C' = true) (h : Q (.bool false) st) : CV X n (.fn (.builtin "isinstance")) [.exc C, .fn (.ref C')] Q st :=
  ⟨.inl ⟨_, rfl⟩, fun env rw A kb av g s fv vs hr F rf rs => by
    obtain ⟨v, _, rfl, r, u, _, rfl, r', rfl⟩ := rs
    rw [rf.fn', r'.fn']
    obtain ⟨x, ox, rfl, I⟩ := exc_real F.sat r
    unfold isiNo at hi
    simp only [Bool.and_eq_true, beq_iff_eq] at hi
    obtain ⟨⟨⟨⟨k1, k2⟩, k3⟩, k4⟩, k5⟩ := hi
    have X' := F.sat.kin ok
    exact call_isinstance_of (exc_nested X' I k1 (looks_typeIn X' k4) (isType_of X' k3) (Bool.eq_false_iff.mpr fun q => of_decide_eq_true k2 (Value.ref.inj (beq_iff_eq.mp q))) (looks_subIn X' k5) (PV.tok F R.bool_ h)) (by intro q; cases q)⟩
theorem f_isi_yes (ok : X.Ok) (hi : isiYes X.K C C' = true) (h : Q (.bool true) st) : CV X n (.fn (.builtin "isinstance")) [.exc C, .fn (.ref C')] Q st :=
  ⟨.inl ⟨_, rfl⟩, fun env rw A kb av g s fv vs hr F rf rs => by
    obtain ⟨v, _, rfl, r, u, _, rfl, r', rfl⟩ := rs
    rw [rf.fn', r'.fn']
    obtain ⟨x, ox, rfl, I⟩ := exc_real F.sat r
    unfold isiYes at hi
    simp only [Bool.and_eq_true, beq_iff_eq] at hi
    obtain ⟨⟨k3, k4⟩, k5⟩ := hi
    have X' := F.sat.kin ok
    exact call_isinstance_of (exc_yes X' I (looks_typeIn X' k4) (isType_of X' k3) (looks_subIn X' k5) (PV.here F R.bool_ h)) (by intro q; cases q)⟩
theorem typeOf_VE : typeOf (.type "ValueError") = pure (.type "type") := by first | rfl | kernel_rfl
theorem f_isi_ve (ok : X.Ok) (hi : subIn X.K (.ref C) (.type "ValueError") = some true) (h : Q (.bool true) st) : CV X n (.fn (.builtin "isinstance")) [.exc C, .fn (.type "ValueError")] Q st :=
  ⟨.inl ⟨_, rfl⟩, fun env rw A kb av g s fv vs hr F rf rs => by
    obtain ⟨v, _, rfl, r, u, _, rfl, r', rfl⟩ := rs
    rw [rf.fn', r'.fn']
    obtain ⟨x, ox, rfl, I⟩ := exc_real F.sat r
    have X' := F.sat.kin ok
    exact call_isinstance_of (exc_yes X' I (Looks.of_pure typeOf_VE) (Looks.of_pure rfl) (looks_subIn X' hi) (PV.here F R.bool_ h)) (by intro q; cases q)⟩
end
end Mine

namespace Mine
open PySem PySem.W PyProof.Rows PySem.Spec PySem.Calls

section
variable {X : Cx} {env : Env} {rw : Bool} {n : Nat} {A A' : Around} {kb kb' : Fz} {av : Addr → Prop} {g g' : Fz} {st st' : St} {s s' : Shared} {hp hp' : Hp} {loc : Str → Option D} {K : Fl → St → Prop} {Q : D → St → Prop}
abbrev Cx.cmf (X : Cx) : Cx := X.sw X.Ex X.ct X.hn false
theorem EXF.cm {cm : Bool} {v : Value} (x : EXF (X.sw X.Ex X.ct X.hn cm) env A kb v s) : EXF X env A kb v s := let ⟨⟨e, C, tr, l, h1, h2, h3, h4⟩, y⟩ := x; ⟨⟨e, C, tr, l, h1, h2, h3, h4.ws⟩, y⟩
theorem ss_cm {c : Stmt} {r : List Stmt} (h : wpS X.cmf n c (seqK X n r K) st) : wpSs X n (c :: r) K st := fun env hok A kb av g s hr F => by
  obtain ⟨o1, o2⟩ := and2 hok
  have hr' : Rm X.cmf env true kb av A n := ⟨hr.toRoom, hr.hd, fun _ => rfl, fun _ q => (by cases q), hr.fr⟩
  refine wpAny_execs_cons (wpAny_mono (h env o1 A kb av g s hr' F.sw) (fun f s₁ ⟨g₁, fl, st₁, q1, F₁, rf, hK⟩ => ?_) fun _ _ x => x.cm)
  have F₁ := F₁.ws
  cases fl with
  | next => rw [show f = .next from rf]; exact wpAny_mono ((show wpSs X n r K st₁ from hK) env o2 A kb av g₁ s₁ hr F₁) (fun _ _ x => x.up q1) fun _ _ x => x
  | cont => rw [show f = .cont from rf]; exact ⟨g₁, .cont, st₁, q1, F₁, rfl, hK⟩
  | brk => rw [show f = .brk from rf]; exact ⟨g₁, .brk, st₁, q1, F₁, rfl, hK⟩
  | ret d => obtain ⟨w, rfl, rw'⟩ := rf; exact ⟨g₁, .ret d, st₁, q1, F₁, ⟨w, rfl, rw'⟩, hK⟩
def Cx.ca (X : Cx) (L : Addr) : Cx := { X with fz := fun b => b = L, cm := true }
theorem MR.ca {L : Addr} {h : Heap} {a : Addr} {mo : MO} (x : MR X g h a mo) : MR (X.ca L) g h a mo := by cases mo <;> exact x
theorem MR.ac {L : Addr} {h : Heap} {a : Addr} {mo : MO} (x : MR (X.ca L) g h a mo) : MR X g h a mo := by cases mo <;> exact x
theorem cv_c {f : Addr} {ds : List D} (hhn : X.hn = true) (hct : X.ct = true) (hcm : X.cm = false) (hz : ∀ b, ¬ X.fz b) (hX : ∀ C, ¬ X.Ex C) (h : ∀ L, FS (X.ca L) n f ds hp (fun d hp => Q d ⟨loc, hp⟩)) : CV X n (.fn (.ref f)) ds Q ⟨loc, hp⟩ :=
  ⟨.inr (.inr ⟨f, rfl, (h 0).1⟩), fun env rw A kb av g s fv vs hr F rf rs => by
    rw [rf.fn']
    obtain rfl := hr.rwc hcm
    classical
    generalize hL : env.locals = L
    have hLo : Own env L := .inl hL.symm
    have kL : kb L = none := by rw [← hL]; exact F.Lk
    have gX : ∀ h b, X.get h b = h.get? b := fun h b => get_not (hz b)
    have gY : ∀ h b, b ≠ L → (X.ca L).get h b = h.get? b := fun h b q => get_not q
    let kb₁ : Fz := fun b => if (hp b).isSome then none else (X.ca L).get s.heap b
    let av₁ : Addr → Prop := fun b => av b ∨ Own env b
    have kin : ∀ {b : Addr} {o : Obj}, hp b = none → (X.ca L).get s.heap b = some o → kb₁ b = some o := fun {b o} q1 q2 => by
      show (if (hp b).isSome then none else (X.ca L).get s.heap b) = some o
      rw [q1]; exact q2
    have kout : ∀ {b : Addr} {o : Obj}, kb₁ b = some o → hp b = none ∧ (X.ca L).get s.heap b = some o := fun {b o} q => by
      have q : (if (hp b).isSome then none else (X.ca L).get s.heap b) = some o := q
      split at q
      · cases q
      · rename_i z; exact ⟨by simpa using z, q⟩
    have up : ∀ b o, kb b = some o → kb₁ b = some o := fun b o e => by
      have hb : hp b = none := by
        cases q : hp b with
        | none => rfl
        | some mo => rw [(F.sat.hph _ _ q).2.1] at e; cases e
      refine kin hb ?_
      have := F.sat.kbh b o e
      rw [gX] at this
      rw [gY _ _ fun z => by rw [z, kL] at e; cases e]
      exact this
    have S₁ : Sat (X.ca L) kb₁ av₁ g hp s := {
      gens := F.sat.gens, os := F.sat.os, drawn := F.sat.drawn
      top := fun b o e => up b o (F.sat.top b o e)
      kbh := fun b o e => (kout e).2
      gh := F.sat.gh
      avk := fun b hb => by
        rcases hb with hb | hb
        · obtain ⟨o, ho⟩ := Option.isSome_iff_exists.mp (F.sat.avk b hb)
          rw [up b o ho]; rfl
        · obtain ⟨o, ho⟩ := F.own_some hb
          rw [kin (F.own_hp hb) (get_of ho)]; rfl
      gav := fun b hb => hb.elim (F.sat.gav b) F.own_g
      hph := fun a mo e => by
        obtain ⟨h1, h2, h3⟩ := F.sat.hph a mo e
        refine ⟨h1.ca, ?_, h3⟩
        show (if (hp a).isSome then none else (X.ca L).get s.heap a) = none
        have e : hp a = some mo := e
        rw [e]; rfl
      fza := fun b hb => .inr (by rw [show b = L from hb]; exact hLo)
      fzT := fun b hb => by
        rw [show b = L from hb]
        show X.T0.get? L = none
        cases q : X.T0.get? L with
        | none => rfl
        | some o => rw [F.sat.top L o q] at kL; cases kL }
    have hrC : RmC (X.ca L) kb₁ av₁ A n := by
      obtain ⟨f, l, L', h1, h2, h3, h4, h5, h6⟩ := hr.fr
      refine ⟨hr.toRoom, hr.hd, fun q1 _ => (by have q1 : X.hn = false := q1; rw [hhn] at q1; cases q1), f :: l, h1, fun f' hf' => ?_⟩
      rcases List.mem_cons.mp hf' with e | e
      · subst e
        have hL' : L' = L := by
          rcases h5 with ⟨_, h5⟩ | ⟨h5, _⟩
          · exact h5.trans hL
          · cases h5
        subst hL'
        refine ⟨h2, L', h3, ⟨?_, .inr hLo⟩, fun _ => rfl⟩
        obtain ⟨m, ⟨o, es, ep, ho, hd, _⟩, _⟩ := F.ns
        rw [hL] at ho
        exact ⟨_, kin (F.own_hp hLo) (get_of ho), fun vs q => by rw [strip_data, hd] at q; cases q⟩
      · obtain ⟨_, L'', _, _, q⟩ := h6 f' e
        exact absurd (q hct) (hz L'')
    refine wpAny_call (codeAny_mono ((h L).2 A kb₁ av₁ g s vs hrC S₁ rs) fun r s' z => ?_)
    rcases r with e | (_ | _ | _ | v) <;> first | exact (let ⟨_, C, _, _, _, q, _⟩ := z; absurd q (hX C)) | exact z.elim | skip
    obtain ⟨g', d, hp', h1, S', h3, h4⟩ := z
    refine ⟨g', d, ⟨loc, hp'⟩, h1, ?_, h3, h4⟩
    have ownk : ∀ b, Own env b → b ≠ L → ∀ o, s.heap.get? b = some o → s'.heap.get? b = some o := fun b hb hne o ho => by
      have := S'.kbh b o (kin (F.own_hp hb) (by rw [gY _ _ hne]; exact ho))
      rwa [gY _ _ hne] at this
    have ownh : ∀ b, Own env b → hp' b = none := fun b hb => by
      cases q : hp' b with
      | none => rfl
      | some mo =>
        obtain ⟨o, ho⟩ := F.own_some hb
        have := (S'.hph b mo q).2.1
        rw [kin (F.own_hp hb) (get_of ho)] at this; cases this
    exact {
      sat := { gens := S'.gens, os := S'.os, drawn := S'.drawn, top := F.sat.top
               kbh := fun b o e => by
                 have := S'.kbh b o (up b o e)
                 rw [gX]
                 rwa [gY _ _ fun z => by rw [z, kL] at e; cases e] at this
               gh := S'.gh, avk := F.sat.avk, gav := fun b hb => S'.gav b (.inl hb)
               hph := fun a mo e => by
                 obtain ⟨q1, q2, q3⟩ := S'.hph a mo e
                 exact ⟨q1.ac, none_of up q2, q3⟩
               fza := F.sat.fza, fzT := F.sat.fzT }
      ok := F.ok
      ns := by
        obtain ⟨m, ⟨o, es, ep, ho, hd, r⟩, hm⟩ := F.ns
        rw [hL] at ho
        obtain ⟨o', q1, q2⟩ := get_ex (S'.kbh L _ (kin (F.own_hp hLo) (get_of ho)))
        have hd' : o'.data = o.data := by rw [← strip_data (X := X.ca L) (b := L) o', q2, strip_data]
        refine ⟨m, ⟨o', es, ep, by rw [hL]; exact q1, hd'.trans hd, r⟩, fun x d e1 e2 => ?_⟩
        obtain ⟨v, h3, h4⟩ := hm x d e1 e2
        exact ⟨v, h3, h4.sub h1⟩
      Lk := F.Lk
      Lg := S'.gav _ (.inr (.inl rfl))
      Lh := ownh _ (.inl rfl)
      cell := fun x c q1 q2 => by
        obtain ⟨vo, ⟨o, ho, hd⟩, hl, a3, a4, a5, a6⟩ := F.cell x c q1 q2
        have hc : Own env c := .inr ⟨x, q1, q2⟩
        refine ⟨vo, ⟨o, ownk c hc (by rw [← hL]; exact a3) o ho, hd⟩, fun d e => ?_, a3, S'.gav _ (.inr hc), ownh _ hc, a6⟩
        obtain ⟨v, e1, e2⟩ := hl d e
        exact ⟨v, e1, e2.sub h1⟩
      apart := F.apart, lg := F.lg, nfz := F.nfz }⟩
end
end Mine

namespace Mine
open PySem PySem.W PyProof.Rows PySem.Spec PySem.Builtin PySem.Builtin.Str
/-! ## texts: the plain part -/
theorem str_ext {a b : Str} (h : a.cps.toList = b.cps.toList) : a = b := by
  cases a; cases b; simp only [Str.mk.injEq]; exact Array.toList_inj.mp h
theorem str_app {a b : Str} : (a ++ b).cps.toList = a.cps.toList ++ b.cps.toList := by
  show (a.cps ++ b.cps).toList = _
  simp
theorem app_assoc {a b c : Str} : a ++ b ++ c = a ++ (b ++ c) := str_ext (by simp only [str_app, List.append_assoc])
theorem cons_cut {c : Nat} : ∀ {p q t t' : List Nat}, c ∉ p → c ∉ q → p ++ c :: t = q ++ c :: t' → p = q ∧ t = t'
  | [], [], _, _, _, _, h => by cases h; exact ⟨rfl, rfl⟩
  | [], b :: q, _, _, _, hq, h => by cases h; exact absurd List.mem_cons_self hq
  | a :: p, [], _, _, hp, _, h => by cases h; exact absurd List.mem_cons_self hp
  | a :: p, b :: q, t, t', hp, hq, h => by
    simp only [List.cons_append, List.cons.injEq] at h
    obtain ⟨rfl, h⟩ := h
    obtain ⟨e1, e2⟩ := cons_cut (fun z => hp (List.mem_cons_of_mem _ z)) (fun z => hq (List.mem_cons_of_mem _ z)) h
    exact ⟨by rw [e1], e2⟩
theorem join_cons2 {sep x y : Str} {r : List Str} : Str.join sep (x :: y :: r) = x ++ sep ++ Str.join sep (y :: r) := rfl
theorem join_inj {c : Nat} : ∀ {ps qs : List Str}, ps ≠ [] → qs ≠ [] → (∀ p ∈ ps, c ∉ p.cps.toList) → (∀ q ∈ qs, c ∉ q.cps.toList) → Str.join ⟨#[c]⟩ ps = Str.join ⟨#[c]⟩ qs → ps = qs
  | [], _, h, _, _, _, _ => absurd rfl h
  | _, [], _, h, _, _, _ => absurd rfl h
  | [p], [q], _, _, _, _, h => by have : p = q := h
                                  rw [this]
  | [p], q :: q2 :: r, _, _, hp, _, h => by
    exfalso
    rw [join_cons2] at h
    have h : p = _ := h
    have := congrArg (fun s : Str => s.cps.toList) h
    simp only [str_app] at this
    exact hp p List.mem_cons_self (by rw [this]; simp)
  | p :: p2 :: r, [q], _, _, _, hq, h => by
    exfalso
    rw [join_cons2] at h
    have h : _ = q := h
    have := congrArg (fun s : Str => s.cps.toList) h
    simp only [str_app] at this
    exact hq q List.mem_cons_self (by rw [← this]; simp)
  | p :: p2 :: r, q :: q2 :: r2, _, _, hp, hq, h => by
    rw [join_cons2, join_cons2] at h
    have := congrArg (fun s : Str => s.cps.toList) h
    simp only [str_app, List.append_assoc, List.singleton_append] at this
    obtain ⟨e1, e2⟩ := cons_cut (hp p List.mem_cons_self) (hq q List.mem_cons_self) (by simpa using this)
    rw [str_ext e1, join_inj (by simp) (by simp) (fun x hx => hp x (List.mem_cons_of_mem _ hx)) (fun x hx => hq x (List.mem_cons_of_mem _ hx)) (str_ext e2)]
theorem split_ne (x : Str) (c : Nat) : Txt.split x ⟨#[c]⟩ ≠ [] := by
  intro h
  have e := StrLaws.join_split x ⟨#[c]⟩
  have h2 := h
  unfold Txt.split at h
  split at h
  · cases h
  · split at h
    · cases h
    · rename_i h3
      rw [StrLaws.partsBetween_eq] at h
      revert h
      generalize occurrences x _ 0 _ _ = cs
      cases cs <;> (intro h; cases h)
theorem split_of_join {c : Nat} {ps : List Str} (hne : ps ≠ []) (hf : ∀ p ∈ ps, c ∉ p.cps.toList) : Txt.split (Str.join ⟨#[c]⟩ ps) ⟨#[c]⟩ = ps :=
  join_inj (split_ne _ _) hne (StrLaws.split_free _ c) hf (StrLaws.join_split _ _)

theorem len_app {a b : Str} : (a ++ b).length = a.length + b.length := by show (a.cps ++ b.cps).size = _; simp [Str.length]
theorem fold_join {sep : Str} : ∀ {ds : List Str} {x : Str}, ds.foldl (fun a d => a ++ sep ++ d) x = Str.join sep (x :: ds)
  | [], x => rfl
  | d :: r, x => by
    rw [List.foldl_cons, fold_join, StrLaws.join_shift, join_cons2]
theorem cut_tail {x : D} {xs : List D} : cut (some 1) none (x :: xs) = xs := by
  unfold cut
  have e : clipAt (x :: xs).length 1 = 1 := clip_nat (k := 1) (by simp)
  simp only [Option.elim_none, Option.elim_some, e, List.drop_succ_cons, List.drop_zero]
  rw [List.take_of_length_le (by simp)]

def dg (n : Int) : Str := Str.ofString (toString n)
def dgOk (x : Str) : Bool := decide (1 ≤ x.length) && decide (x.length ≤ 3) && x.cps.all (fun c => decide (48 ≤ c) && decide (c ≤ 57)) && Txt.isdigit x && (decide (x.length ≤ 1) || !(x.cps[0]? == some 48))
theorem dg_all : ((List.range 1000).all fun n => dgOk (dg (n : Int))) = true := by decide +kernel
theorem dg_ok {n : Int} (h0 : 0 ≤ n) (h1 : n ≤ 999) : dgOk (dg n) = true := by
  have := List.all_eq_true.mp dg_all n.toNat (List.mem_range.mpr (by omega))
  rwa [show ((n.toNat : Nat) : Int) = n by omega] at this
structure Dg (x : Str) : Prop where
  l1 : 1 ≤ x.length
  l3 : x.length ≤ 3
  cs : ∀ c ∈ x.cps.toList, 48 ≤ c ∧ c ≤ 57
  dig : Txt.isdigit x = true
  lead : x.length ≤ 1 ∨ x.cps[0]? ≠ some 48
theorem dg_is {n : Int} (h0 : 0 ≤ n) (h1 : n ≤ 999) : Dg (dg n) := by
  have h := dg_ok h0 h1
  simp only [dgOk, Bool.and_eq_true, decide_eq_true_eq, Bool.or_eq_true, Bool.not_eq_true', beq_eq_false_iff_ne, Array.all_eq_true_iff_forall_mem] at h
  obtain ⟨⟨⟨⟨h1, h2⟩, h3⟩, h4⟩, h5⟩ := h
  exact ⟨h1, h2, fun c hc => h3 c (Array.mem_toList_iff.mp hc), h4, h5⟩

/-! ## texts: the rules -/
section
variable {X : Cx} {env : Env} {rw : Bool} {n : Nat} {A : Around} {kb : Fz} {av : Addr → Prop} {g : Fz} {st : St} {s : Shared} {Q : D → St → Prop} {K : Bool → Prop}
theorem b_adds {x y : Str} (hl : x.length + y.length ≤ 1000000) (h : Q (.str (x ++ y)) st) : wpBin X n .Add (.str x) (.str y) Q st := fun _ _ _ _ _ _ s _ _ _ F h1 h2 => by
  obtain ⟨t, rfl⟩ := h1.str'; obtain ⟨u, rfl⟩ := h2.str'
  refine PySem.P.add_str ?_
  have e : ∀ z : Str, (z.length == 0) = true → z.cps.toList = [] := fun z hz => by
    have : z.cps.size = 0 := by simpa [Str.length] using hz
    simpa using this
  split
  · rename_i hx
    have : x ++ y = y := str_ext (by rw [str_app, e x hx]; rfl)
    rw [this] at h
    exact PV.here F R.str_ h
  · split
    · rename_i hy
      have : x ++ y = x := str_ext (by rw [str_app, e y hy, List.append_nil])
      rw [this] at h
      exact PV.here F R.str_ h
    · refine ⟨?_, PV.tok F R.str_ h⟩
      have : (x ++ y).length = x.length + y.length := by show (x.cps ++ y.cps).size = _; simp [Str.length]
      rw [this, sizeLine_eq]; omega
theorem f_stri {a : Int} (h0 : 0 ≤ a) (h1 : a ≤ 999) (h : Q (.str (dg a)) st) : CV X n (.fn (.type "str")) [.int a] Q st := CV.t1 fun _ _ _ _ _ _ s _ _ F r => by
  obtain ⟨t, rfl⟩ := r.int'
  refine PySem.P.str_of_int ?_ (PV.tok F R.str_ h)
  have : a.natAbs < 1024 := by omega
  have := Nat.log2_lt (n := a.natAbs) (k := 10)
  by_cases z : a.natAbs = 0
  · rw [z]; decide
  · have := (Nat.log2_lt z (k := 10)).mpr (by omega)
    omega
theorem strs_are {ys : List Str} : ∀ {vs : List Value}, Rs g (ys.map D.str) vs → StrsAre vs ys := by
  induction ys with
  | nil => intro vs h; rw [show vs = [] from h]; exact .nil
  | cons y ys ih =>
    intro vs h
    obtain ⟨v, r, rfl, h1, h2⟩ := h
    obtain ⟨t, rfl⟩ := R.str' h1
    exact .cons y t (ih h2)
theorem f_join {x : Str} {l : D} {ys : List Str} (hl : lst st.hp l = some (ys.map D.str)) (hsep : x.length ≤ 16) (hw : (ys.map (·.length)).sum + ys.length ≤ 1048576) (h : Q (.str (Str.join x ys)) st) : CV X n (.fn (.builtin "str.join")) [.str x, l] Q st := CV.b2 fun _ _ _ _ _ _ s _ _ _ F r r' => by
  obtain ⟨t, rfl⟩ := r.str'
  obtain ⟨c, its, m, rfl, hc, hrs⟩ := lst_real F.sat r' hl
  refine join_listW ⟨_, hc, rfl, m, rfl⟩ (strs_are hrs) hsep hw fun t' k => ?_
  rw [show Txt.join x ys = Str.join x ys from StrLaws.glued_eq_join x ys]
  exact ⟨_, _, _, Sub.rfl', F.toks k, R.str_, h⟩
theorem f_isdigit {x : Str} (h : Q (.bool (Txt.isdigit x)) st) : CV X n (.fn (.builtin "str.isdigit")) [.str x] Q st := CV.b1 fun _ _ _ _ _ _ s _ _ F r => by
  obtain ⟨t, rfl⟩ := r.str'
  exact SC.isdigit (PV.here F R.bool_ h)
theorem f_lens {x : Str} (hx : x.length ≤ 1000000) (h : Q (.int x.length) st) : CV X n (.fn (.builtin "len")) [.str x] Q st := CV.b1 fun _ _ _ _ _ _ s _ _ F r => by
  obtain ⟨t, rfl⟩ := r.str'
  exact PySem.P.len_str (by omega) ⟨_, _, _, Sub.rfl', F.toks _, R.int_, h⟩
theorem f_intb {b : Bool} (h : Q (.int (if b then 1 else 0)) st) : CV X n (.fn (.type "int")) [.bool b] Q st := CV.t1 fun _ _ _ _ _ _ s _ _ F r => by
  rw [r.bool']
  exact call_int_bool (PV.tok F R.int_ h)
theorem f_intn {a : Int} (h0 : 0 ≤ a) (h1 : a ≤ 999) (h : Q (.int a) st) : CV X n (.fn (.type "int")) [.str (dg a)] Q st := CV.t1 fun _ _ _ _ _ _ s _ _ F r => by
  obtain ⟨t, rfl⟩ := r.str'
  exact PySem.W.KIN.call_num h0 (by omega) (PV.tok F R.int_ h)
theorem q_eqs {x y : Str} (h : K (x == y)) : wpC1 X n .Eq (.str x) (.str y) K st := fun _ _ _ _ _ _ s _ _ _ _ _ h1 h2 hk => by
  obtain ⟨t, rfl⟩ := h1.str'; obtain ⟨u, rfl⟩ := h2.str'
  exact PyProof.Rows.eq_str (hk _ s.toks h)
theorem q_nes {x y : Str} (h : K (x != y)) : wpC1 X n .NotEq (.str x) (.str y) K st := fun _ _ _ _ _ _ s _ _ _ _ _ h1 h2 hk => by
  obtain ⟨t, rfl⟩ := h1.str'; obtain ⟨u, rfl⟩ := h2.str'
  exact PyProof.Rows.ne_str (hk _ s.toks h)
theorem meth_s {x : Str} {name : Str} {id : String} (slot : Slot "str" name id) (ty : typeOf (.builtin id) = pure (.type "method_descriptor")) : Meth X (.str x) name (.fn (.builtin id)) st := fun _ _ A kb av g s _ pl Q' F r hq => by
  obtain ⟨t, rfl⟩ := r.str'
  exact GM.of (.str x t) (typeIs_str _ _ _) slot ty GM.noRef (hq _ R.fn_)
theorem meth_join {x : Str} : Meth X (.str x) "join" (.fn (.builtin "str.join")) st := meth_s PySem.F.slot_str_join PySem.F.type_str_join
theorem meth_split {x : Str} : Meth X (.str x) "split" (.fn (.builtin "str.split")) st := meth_s PySem.F.slot_str_split PySem.F.type_str_split
theorem meth_isdigit {x : Str} : Meth X (.str x) "isdigit" (.fn (.builtin "str.isdigit")) st := meth_s PySem.F.slot_str_isdigit PySem.F.type_str_isdigit
theorem rs_numbered : ∀ {ps : List Str} {k : Nat}, Rs g (ps.map D.str) (strsFrom k ps)
  | [], _ => rfl
  | p :: ps, k => Rs.cons R.str_ (rs_numbered (k := k + 1))
theorem f_split {x y : Str} (hy : (y.length == 0) = false) (hx : x.length ≤ 1000000) (h : New ((Txt.split x y).map D.str) Q st) : CV X n (.fn (.builtin "str.split")) [.str x, .str y] Q st := CV.b2 fun _ _ _ _ _ _ s _ _ _ F r r' => by
  obtain ⟨t, rfl⟩ := r.str'; obtain ⟨u, rfl⟩ := r'.str'
  have hsl := h.1
  rw [List.length_map] at hsl
  cases h1 : (decide (x.length < y.length) || decide (strKind x < strKind y))
  · cases hf : (occurrences x y 0 x.length (x.length + 1)).isEmpty
    · have e : Txt.split x y = partsBetween x (occurrences x y 0 x.length (x.length + 1)) y.length := by unfold Txt.split; rw [if_neg (by rw [h1]; decide), if_neg (by rw [hf]; decide)]
      rw [e] at hsl h
      refine call_meets PySem.F.slot_str_split (typeIs_str _ _ _) PySem.F.entry_str_split (PySem.F.args_str_split_2 _ _) (meets_str_split_sep x y t u h1 hy hf (sizeLine_ge (by omega)) (sizeLine_ge hsl)) ?_
      exact new_list_at F (fun b o q => Heap.get?_push_of_some _ q) (get?_size _) (Heap.get?_push_size _ rfl) (by simpa using rs_numbered) h
    · have e : Txt.split x y = [x] := by unfold Txt.split; rw [if_neg (by rw [h1]; decide), if_pos hf]
      rw [e] at h
      exact call_meets PySem.F.slot_str_split (typeIs_str _ _ _) PySem.F.entry_str_split (PySem.F.args_str_split_2 _ _) (meets_str_split_not_found x y t u h1 hy hf)
        (new_list_at F (fun b o q => Heap.get?_push_of_some _ q) (get?_size _) (Heap.get?_push_size _ rfl) (Rs.one R.str_) h)
  · have e : Txt.split x y = [x] := by unfold Txt.split; rw [if_pos h1]
    rw [e] at h
    exact call_meets PySem.F.slot_str_split (typeIs_str _ _ _) PySem.F.entry_str_split (PySem.F.args_str_split_2 _ _) (meets_str_split_cannot_occur x y t u h1)
      (new_list_at F (fun b o q => Heap.get?_push_of_some _ q) (get?_size _) (Heap.get?_push_size _ rfl) (Rs.one R.str_) h)
theorem i_str {x : Str} {k : Int} {c : Nat} (h0 : 0 ≤ k) (h1 : k < 1000) (hc : x.cps[k.toNat]? = some c) (h : Q (.str ⟨#[c]⟩) st) : wpItem X n (.str x) (.int k) Q st := fun _ _ A _ _ _ s _ _ _ _ hr F h1' h2 hsl => by
  obtain ⟨t, rfl⟩ := h1'.str'; obtain ⟨u, rfl⟩ := h2.int'
  refine tail_any (typeIs_str _ _ _) PySem.F.slot_str_getitem.lookup ?_ (subscripted_of hsl _ _)
  have hlt : k.toNat < x.cps.size := (Array.getElem?_eq_some_iff.mp hc).1
  refine PySem.P.getItem_str (c := c) (by simp; omega) ?_ (PV.tok F R.str_ h)
  have : seqIndex? k x.length = some k.toNat := idx_seq (idx_nn h0 (by show k < (x.cps.size : Int); omega))
  rw [this]; exact hc
end
end Mine

namespace Mine
open PySem PySem.W PyProof.Rows PySem.Spec

inductive WayD : D → Prop
  | int (i : Int) : WayD (.int i)
  | none : WayD .none
  | bool (b : Bool) : WayD (.bool b)
  | str : WayD (.str "0")
def wpy : D → PyData
  | .bool b => .bool b
  | .int i => .int i
  | .str x => .str x
  | _ => .none
theorem py_way {d : D} (h : WayD d) : py d = some (wpy d) := by cases h <;> rfl
theorem pys_way : ∀ {ds : List D}, (∀ x ∈ ds, WayD x) → pys ds = some (ds.map wpy)
  | [], _ => rfl
  | d :: ds, h => by
    have := pys_way (ds := ds) fun x hx => h x (List.mem_cons_of_mem _ hx)
    simp only [List.map_cons, pys, py_way (h d List.mem_cons_self)]
    rw [this]
theorem canLay_way : ∀ {ds : List D}, (∀ x ∈ ds, WayD x) → PyData.canLayAll0 (ds.map wpy) = true
  | [], _ => rfl
  | d :: ds, h => by
    simp only [List.map_cons, PyData.canLayAll0]
    rw [canLay_way fun x hx => h x (List.mem_cons_of_mem _ hx)]
    cases h d List.mem_cons_self <;> first | rfl | (rw [Bool.and_true]; show (PyData.str (Str.ofString "0")).canLay0 = true; first | decide +kernel | (simp [PyData.canLay0]; done) | kernel_rfl)
theorem depth_way : ∀ {ds : List D}, (∀ x ∈ ds, WayD x) → PyData.depthAll (ds.map wpy) ≤ 1
  | [], _ => by simp [PyData.depthAll]
  | d :: ds, h => by
    simp only [List.map_cons, PyData.depthAll]
    have := depth_way (ds := ds) fun x hx => h x (List.mem_cons_of_mem _ hx)
    have : PyData.depth (wpy d) ≤ 1 := by cases h d List.mem_cons_self <;> simp [wpy, PyData.depth]
    omega
theorem small_way {ds : List D} (h : ∀ x ∈ ds, WayD x) : small (.list (ds.map wpy)) := ⟨by simp only [PyData.canLay0, canLay_way h], by simp only [PyData.depth]; have := depth_way h; omega⟩

theorem s_none_list : isSubtype (.type "NoneType") (.type "list") = pure false := by rw [isSubtype_type]; kernel_rfl
theorem s_tuple_list : isSubtype (.type "tuple") (.type "list") = pure false := by rw [isSubtype_type]; kernel_rfl
section
variable {X : Cx} {env : Env} {rw : Bool} {n : Nat} {A : Around} {kb : Fz} {av : Addr → Prop} {g : Fz} {st : St} {s : Shared} {Q : D → St → Prop} {QB : Bool → Prop} {loc : Str → Option D} {hp : Hp} {L : List (Addr × List D)}
theorem q_eqnilD {d : D} {ds : List D} (hs : lst st.hp d = some ds) (hw : ∀ x ∈ ds, WayD x) (h : QB ds.isEmpty) : wpC1 X n .Eq d (.list []) QB st :=
  q_eqp (pyH_lst hs (pys_way hw)) rfl (small_way hw) small_nil (by rw [show PyData.eqv (.list (ds.map wpy)) (.list []) = ds.isEmpty from by cases ds <;> rfl]; exact h)
theorem f_isi_nl (h : Q (.bool false) st) : CV X n (.fn (.builtin "isinstance")) [.none, .fn (.type "list")] Q st := CV.isi fun _ _ _ _ _ _ s _ _ F r => by
  rw [r.none']; exact call_isinstance (isinstance_false_none (by decide) PySem.F.isi_meta_list s_none_list) (PV.tok F R.bool_ h)
theorem f_isi_tl {xs : List D} (h : Q (.bool false) st) : CV X n (.fn (.builtin "isinstance")) [.tup xs, .fn (.type "list")] Q st := CV.isi fun _ _ _ _ _ _ s _ _ F r => by
  obtain ⟨a, its, rfl, ⟨k, h1⟩, h2⟩ := r.tup'
  obtain ⟨hh, gg, dd, t, os⟩ := s
  exact call_isinstance_of (isinstance_nested_false_tuple (F.sat.gh _ _ h1) rfl (by decide) PySem.F.isi_meta_list s_tuple_list (PV.tok F R.bool_ h)) (by intro q; cases q)
end
end Mine

namespace Mine
open PySem PySem.W PyProof.Rows PySem.Spec PySem.Builtin PySem.Builtin.Str
/-! ## law 08: the plain part: rows and numbers as texts -/
def Asc (x : Str) : Prop := ∀ c ∈ x.cps.toList, 32 ≤ c ∧ c < 127
def ascB (x : Str) : Bool := x.cps.toList.all fun c => decide (32 ≤ c) && decide (c < 127)
theorem asc_of {x : Str} (h : ascB x = true) : Asc x := fun c hc => by
  have := List.all_eq_true.mp h c hc
  simpa using this
theorem Asc.app {a b : Str} (h : Asc a) (h' : Asc b) : Asc (a ++ b) := fun c hc => by
  rw [str_app] at hc
  rcases List.mem_append.mp hc with q | q
  · exact h c q
  · exact h' c q
theorem slice_mem {x : Str} {l u : Option Int} {c : Nat} (h : c ∈ (Txt.slice x l u).cps.toList) : c ∈ x.cps.toList := by
  unfold Txt.slice at h
  split at h
  · exact h
  · simp only [List.mem_filterMap] at h
    obtain ⟨i, _, hi⟩ := h
    rw [← Array.getElem?_toList] at hi
    exact List.mem_of_getElem? hi
theorem Asc.slice {x : Str} (h : Asc x) {l u : Option Int} : Asc (Txt.slice x l u) := fun c hc => h c (slice_mem hc)
theorem asc_dg {a : Int} (h0 : 0 ≤ a) (h1 : a ≤ 999) : Asc (dg a) := fun c hc => by have := (dg_is h0 h1).cs c hc; omega
theorem asc_ok {x : Str} (h : Asc x) : PyData.canLay0 (.str x) = true := by
  show x.cps.all (· < 0x110000) = true
  rw [Array.all_eq_true_iff_forall_mem]
  intro c hc
  have := h c (Array.mem_toList_iff.mpr hc)
  exact decide_eq_true (by omega)
theorem small_asc {x : Str} (h : Asc x) : small (.str x) := ⟨asc_ok h, by show PyData.depth (.str x) ≤ 20; simp only [PyData.depth]; omega⟩

/-! numbers -/
def digB (c : Nat) : Bool := decide (48 ≤ c) && decide (c ≤ 57)
theorem digit_tab : ((List.range 128).all fun c => Unicode.isDigit c == digB c) = true := by decide +kernel
theorem digit_is {c : Nat} (h : c < 127) : Unicode.isDigit c = digB c := by
  have := List.all_eq_true.mp digit_tab c (List.mem_range.mpr (by omega))
  simpa using this
def figs : Str := Str.ofString "0123456789"
theorem find_tab : ((List.range 128).all fun c => Txt.find figs ⟨#[c]⟩ == if digB c then (c : Int) - 48 else -1) = true := by decide +kernel
theorem find_is {c : Nat} (h : c < 127) : Txt.find figs ⟨#[c]⟩ = if digB c then (c : Int) - 48 else -1 := by
  have := List.all_eq_true.mp find_tab c (List.mem_range.mpr (by omega))
  simpa using this
def vlL (l : List Nat) : Int := l.foldl (fun (a : Int) (c : Nat) => a * 10 + ((c : Int) - 48)) 0
def vl (w : Str) : Int := vlL w.cps.toList
theorem vlL_snoc {l : List Nat} {c : Nat} : vlL (l ++ [c]) = vlL l * 10 + ((c : Int) - 48) := by unfold vlL; rw [List.foldl_append]; rfl
def numB (w : Str) : Bool := decide (1 ≤ w.length) && decide (w.length ≤ 3) && w.cps.toList.all digB && (decide (w.length ≤ 1) || !(w.cps[0]? == some 48))
def nv (w : Str) : Int := if numB w then vl w else -1
theorem dg_tab : ((List.range 1000).all fun n => numB (dg (n : Int)) && vl (dg (n : Int)) == (n : Int)) = true := by decide +kernel
theorem dg_num {a : Int} (h0 : 0 ≤ a) (h1 : a ≤ 999) : numB (dg a) = true ∧ vl (dg a) = a := by
  have := List.all_eq_true.mp dg_tab a.toNat (List.mem_range.mpr (by omega))
  rw [show ((a.toNat : Nat) : Int) = a by omega] at this
  simpa using this
theorem nv_dg {a : Int} (h0 : 0 ≤ a) (h1 : a ≤ 999) : nv (dg a) = a := by unfold nv; rw [if_pos (dg_num h0 h1).1]; exact (dg_num h0 h1).2
theorem d1_tab : ((List.range 10).all fun n => (dg (n : Int)).cps.toList == [48 + n]) = true := by decide +kernel
theorem d2_tab : ((List.range 100).all fun n => decide (n < 10) || (dg (n : Int)).cps.toList == [48 + n / 10, 48 + n % 10]) = true := by decide +kernel
theorem d3_tab : ((List.range 1000).all fun n => decide (n < 100) || (dg (n : Int)).cps.toList == [48 + n / 100, 48 + n / 10 % 10, 48 + n % 10]) = true := by decide +kernel
theorem d1 {n : Nat} (h : n < 10) : (dg (n : Int)).cps.toList = [48 + n] := by
  have := List.all_eq_true.mp d1_tab n (List.mem_range.mpr h)
  simpa using this
theorem d2 {n : Nat} (h0 : 10 ≤ n) (h : n < 100) : (dg (n : Int)).cps.toList = [48 + n / 10, 48 + n % 10] := by
  have := List.all_eq_true.mp d2_tab n (List.mem_range.mpr h)
  simp only [Bool.or_eq_true, decide_eq_true_eq, beq_iff_eq] at this
  exact this.resolve_left (by omega)
theorem d3 {n : Nat} (h0 : 100 ≤ n) (h : n < 1000) : (dg (n : Int)).cps.toList = [48 + n / 100, 48 + n / 10 % 10, 48 + n % 10] := by
  have := List.all_eq_true.mp d3_tab n (List.mem_range.mpr h)
  simp only [Bool.or_eq_true, decide_eq_true_eq, beq_iff_eq] at this
  exact this.resolve_left (by omega)
theorem str_len {x : Str} : x.length = x.cps.toList.length := by show x.cps.size = _; simp
theorem num_dg {w : Str} (h : numB w = true) : w = dg (vl w) ∧ 0 ≤ vl w ∧ vl w ≤ 999 := by
  simp only [numB, Bool.and_eq_true, decide_eq_true_eq, Bool.or_eq_true, Bool.not_eq_true', beq_eq_false_iff_ne, List.all_eq_true, digB] at h
  obtain ⟨⟨⟨h1, h2⟩, h3⟩, h4⟩ := h
  rw [str_len] at h1 h2 h4
  rw [← Array.getElem?_toList] at h4
  unfold vl
  rcases e : w.cps.toList with _ | ⟨c1, _ | ⟨c2, _ | ⟨c3, _ | ⟨c4, r⟩⟩⟩⟩
  · rw [e] at h1; simp at h1
  · rw [e] at h3
    have q1 := h3 c1 (by simp)
    have hv : vlL [c1] = ((c1 - 48 : Nat) : Int) := by simp only [vlL, List.foldl]; omega
    rw [hv]
    refine ⟨str_ext ?_, by omega, by omega⟩
    rw [e, d1 (by omega), show 48 + (c1 - 48) = c1 by omega]
  · rw [e] at h3 h4
    have q1 := h3 c1 (by simp)
    have q2 := h3 c2 (by simp)
    have q3 : c1 ≠ 48 := fun z => by rcases h4 with z' | z' <;> simp [z] at z'
    have hv : vlL [c1, c2] = (((c1 - 48) * 10 + (c2 - 48) : Nat) : Int) := by simp only [vlL, List.foldl]; omega
    rw [hv]
    refine ⟨str_ext ?_, by omega, by omega⟩
    rw [e, d2 (by omega) (by omega), show 48 + ((c1 - 48) * 10 + (c2 - 48)) / 10 = c1 by omega, show 48 + ((c1 - 48) * 10 + (c2 - 48)) % 10 = c2 by omega]
  · rw [e] at h3 h4
    have q1 := h3 c1 (by simp)
    have q2 := h3 c2 (by simp)
    have q4 := h3 c3 (by simp)
    have q3 : c1 ≠ 48 := fun z => by rcases h4 with z' | z' <;> simp [z] at z'
    have hv : vlL [c1, c2, c3] = (((c1 - 48) * 100 + (c2 - 48) * 10 + (c3 - 48) : Nat) : Int) := by simp only [vlL, List.foldl]; omega
    rw [hv]
    refine ⟨str_ext ?_, by omega, by omega⟩
    rw [e, d3 (by omega) (by omega), show 48 + ((c1 - 48) * 100 + (c2 - 48) * 10 + (c3 - 48)) / 100 = c1 by omega, show 48 + ((c1 - 48) * 100 + (c2 - 48) * 10 + (c3 - 48)) / 10 % 10 = c2 by omega, show 48 + ((c1 - 48) * 100 + (c2 - 48) * 10 + (c3 - 48)) % 10 = c3 by omega]
  · rw [e] at h2; simp at h2
theorem nv_cases (w : Str) : (numB w = false ∧ nv w = -1) ∨ (numB w = true ∧ w = dg (nv w) ∧ 0 ≤ nv w ∧ nv w ≤ 999) := by
  unfold nv
  cases h : numB w with
  | false => exact .inl ⟨rfl, rfl⟩
  | true => exact .inr ⟨rfl, num_dg h⟩
theorem isdigit_asc {w : Str} (h : Asc w) : Txt.isdigit w = (decide (0 < w.length) && w.cps.toList.all digB) := by
  unfold Txt.isdigit
  congr 1
  rw [← Array.all_toList]
  have : ∀ l : List Nat, (∀ c ∈ l, c < 127) → l.all Unicode.isDigit = l.all digB := by
    intro l
    induction l with
    | nil => intro _; rfl
    | cons c l ih => intro hl; rw [List.all_cons, List.all_cons, digit_is (hl c List.mem_cons_self), ih fun x hx => hl x (List.mem_cons_of_mem _ hx)]
  exact this _ fun c hc => (h c hc).2

theorem numB_of {x : Str} (ha : Asc x) (hd : Txt.isdigit x = true) (h3 : x.length ≤ 3) (h1 : x.length ≤ 1 ∨ x.cps[0]? ≠ some 48) : numB x = true := by
  rw [isdigit_asc ha] at hd
  simp only [Bool.and_eq_true, decide_eq_true_eq] at hd
  simp only [numB, Bool.and_eq_true, decide_eq_true_eq, Bool.or_eq_true, Bool.not_eq_true', beq_eq_false_iff_ne]
  exact ⟨⟨⟨hd.1, h3⟩, hd.2⟩, h1⟩
theorem numB_of' {x : Str} (hd : ∀ c ∈ x.cps.toList, digB c = true) (h0 : 1 ≤ x.length) (h3 : x.length ≤ 3) (h1 : x.length ≤ 1 ∨ x.cps[0]? ≠ some 48) : numB x = true := by
  simp only [numB, Bool.and_eq_true, decide_eq_true_eq, Bool.or_eq_true, Bool.not_eq_true', beq_eq_false_iff_ne]
  exact ⟨⟨⟨h0, h3⟩, List.all_eq_true.mpr hd⟩, h1⟩
theorem not_numB {x : Str} (h : ¬ (1 ≤ x.length ∧ x.length ≤ 3 ∧ (∀ c ∈ x.cps.toList, digB c = true) ∧ (x.length ≤ 1 ∨ x.cps[0]? ≠ some 48))) : nv x = -1 := by
  unfold nv
  rw [if_neg]
  intro q
  simp only [numB, Bool.and_eq_true, decide_eq_true_eq, Bool.or_eq_true, Bool.not_eq_true', beq_eq_false_iff_ne] at q
  obtain ⟨⟨⟨q1, q2⟩, q3⟩, q4⟩ := q
  exact h ⟨q1, q2, List.all_eq_true.mp q3, q4⟩
theorem find_dig {c : Nat} (h : c < 127) (hd : digB c = true) : Txt.find (Str.ofString "0123456789") ⟨#[c]⟩ = (c : Int) - 48 := by
  have := find_is h
  rw [if_pos hd] at this; exact this
theorem find_no {c : Nat} (h : c < 127) (hd : digB c = false) : Txt.find (Str.ofString "0123456789") ⟨#[c]⟩ = -1 := by
  have := find_is h
  rw [if_neg (by rw [hd]; decide)] at this; exact this
theorem zero_is {c : Nat} : ((⟨#[c]⟩ : Str) == Str.ofString "0") = decide (c = 48) := by
  rw [show Str.ofString "0" = ⟨#[48]⟩ from by decide +kernel]
  by_cases h : c = 48
  · rw [h, decide_eq_true rfl]; exact beq_self_eq_true _
  · rw [decide_eq_false h, beq_eq_false_iff_ne]
    intro e
    injection e with e
    exact h (by simpa using e)

/-! splitting -/
theorem join_mem {sep : Str} : ∀ {ps : List Str} {p : Str}, p ∈ ps → ∀ {c : Nat}, c ∈ p.cps.toList → c ∈ (Str.join sep ps).cps.toList
  | [q], p, hp, c, hc => by rw [List.mem_singleton.mp hp] at hc; exact hc
  | q :: q2 :: r, p, hp, c, hc => by
    rw [join_cons2, str_app, str_app]
    rcases List.mem_cons.mp hp with rfl | hp
    · exact List.mem_append_left _ (List.mem_append_left _ hc)
    · exact List.mem_append_right _ (join_mem hp hc)
theorem join_len {sep : Str} : ∀ {ps : List Str} {p : Str}, p ∈ ps → p.length ≤ (Str.join sep ps).length
  | [q], p, hp => by rw [List.mem_singleton.mp hp]; exact Nat.le_refl _
  | q :: q2 :: r, p, hp => by
    rw [join_cons2, len_app, len_app]
    rcases List.mem_cons.mp hp with rfl | hp
    · omega
    · have := join_len (sep := sep) hp; omega
theorem join_many {c : Nat} : ∀ {ps : List Str}, ps.length ≤ (Str.join ⟨#[c]⟩ ps).length + 1
  | [] => by simp
  | [q] => by simp
  | q :: q2 :: r => by
    have := join_many (c := c) (ps := q2 :: r)
    rw [join_cons2, len_app, len_app]
    have : (⟨#[c]⟩ : Str).length = 1 := rfl
    simp only [List.length_cons] at *
    omega
theorem split_many {x : Str} {c : Nat} : (Txt.split x ⟨#[c]⟩).length ≤ x.length + 1 := by
  have := join_many (c := c) (ps := Txt.split x ⟨#[c]⟩)
  rwa [StrLaws.join_split] at this
theorem split_wlen {x p : Str} {c : Nat} (h : p ∈ Txt.split x ⟨#[c]⟩) : p.length ≤ x.length := by
  have := join_len (sep := ⟨#[c]⟩) h
  rwa [StrLaws.join_split] at this
theorem split_asc {x p : Str} {c : Nat} (hx : Asc x) (h : p ∈ Txt.split x ⟨#[c]⟩) : Asc p := fun k hk => by
  have := join_mem (sep := ⟨#[c]⟩) h hk
  rw [StrLaws.join_split] at this
  exact hx k this

/-! rows -/
def w0 (o : Int) : Str := if o = 1 then Str.ofString "odd" else Str.ofString "even"
def hdT (o m : Int) : Str := w0 o ++ Str.ofString " " ++ dg m
def rowF (a : Str) (rs : List Int) : Str := rs.foldl (fun a r => a ++ Str.ofString " " ++ dg r) a
def rowT (o m : Int) (rs : List Int) : Str := rowF (hdT o m ++ Str.ofString ":") rs
theorem sp_is : Str.ofString " " = ⟨#[32]⟩ := by decide +kernel
theorem co_is : Str.ofString ":" = ⟨#[58]⟩ := by decide +kernel
theorem nl_is : Str.ofString "\n" = ⟨#[10]⟩ := by decide +kernel
theorem l_sp : (Str.ofString " ").length = 1 := by decide +kernel
theorem l_co : (Str.ofString ":").length = 1 := by decide +kernel
theorem l_w0 {o : Int} : (w0 o).length ≤ 4 := by unfold w0; split <;> decide +kernel
theorem cosp_is : Str.ofString ": " = Str.ofString ":" ++ Str.ofString " " := by decide +kernel
theorem asc_sp : Asc (Str.ofString " ") := asc_of (by decide +kernel)
theorem asc_co : Asc (Str.ofString ":") := asc_of (by decide +kernel)
theorem asc_w0 {o : Int} : Asc (w0 o) := by unfold w0; split <;> exact asc_of (by decide +kernel)
theorem hdT_len {o m : Int} (h0 : 0 ≤ m) (h1 : m ≤ 999) : (hdT o m).length ≤ 8 := by
  have := (dg_is h0 h1).l3
  have := l_w0 (o := o)
  unfold hdT
  rw [len_app, len_app, l_sp]
  omega
theorem rowF_len : ∀ {rs : List Int} {a : Str}, (∀ x ∈ rs, 0 ≤ x ∧ x ≤ 999) → (rowF a rs).length ≤ a.length + 4 * rs.length
  | [], a, _ => by simp [rowF]
  | r :: rs, a, h => by
    have ih := rowF_len (rs := rs) (a := a ++ Str.ofString " " ++ dg r) fun x hx => h x (List.mem_cons_of_mem _ hx)
    have h1 := h r List.mem_cons_self
    have := (dg_is h1.1 h1.2).l3
    rw [len_app, len_app, l_sp] at ih
    show (rowF (a ++ Str.ofString " " ++ dg r) rs).length ≤ _
    simp only [List.length_cons]; omega
theorem rowF_asc : ∀ {rs : List Int} {a : Str}, Asc a → (∀ x ∈ rs, 0 ≤ x ∧ x ≤ 999) → Asc (rowF a rs)
  | [], a, ha, _ => ha
  | r :: rs, a, ha, h => by
    have h1 := h r List.mem_cons_self
    exact rowF_asc (rs := rs) (a := a ++ Str.ofString " " ++ dg r) ((ha.app asc_sp).app (asc_dg h1.1 h1.2)) fun x hx => h x (List.mem_cons_of_mem _ hx)
theorem rowF_app : ∀ {rs : List Int} {a b : Str}, rowF (a ++ b) rs = a ++ rowF b rs
  | [], a, b => rfl
  | r :: rs, a, b => by
    show rowF (a ++ b ++ Str.ofString " " ++ dg r) rs = a ++ rowF (b ++ Str.ofString " " ++ dg r) rs
    rw [← rowF_app, app_assoc, app_assoc, app_assoc]
theorem rowF_join {rs : List Int} {a : Str} : rowF a rs = Str.join ⟨#[32]⟩ (a :: rs.map dg) := by
  rw [← fold_join, List.foldl_map, ← sp_is]; rfl
theorem app_empty {a : Str} : a ++ Str.empty = a := str_ext (by rw [str_app]; simp [Str.empty])
theorem rowT_join {o m : Int} {rs : List Int} : rowT o m rs = Str.join ⟨#[58]⟩ [hdT o m, rowF Str.empty rs] := by
  unfold rowT
  rw [show hdT o m ++ Str.ofString ":" = hdT o m ++ Str.ofString ":" ++ Str.empty from app_empty.symm, rowF_app, co_is]; rfl
theorem dg_free {m : Int} (h0 : 0 ≤ m) (h1 : m ≤ 999) {c : Nat} (hc : c = 58 ∨ c = 10 ∨ c = 32) : c ∉ (dg m).cps.toList := fun h => by have := (dg_is h0 h1).cs c h; omega
theorem w0_free {o : Int} {c : Nat} (hc : c = 58 ∨ c = 32) : c ∉ (w0 o).cps.toList := by
  have e1 : (Str.ofString "odd").cps.toList = [111, 100, 100] := by decide +kernel
  have e2 : (Str.ofString "even").cps.toList = [101, 118, 101, 110] := by decide +kernel
  unfold w0
  intro h
  split at h
  · rw [e1] at h; simp at h; omega
  · rw [e2] at h; simp at h; omega
theorem hdT_free {o m : Int} (h0 : 0 ≤ m) (h1 : m ≤ 999) : 58 ∉ (hdT o m).cps.toList := by
  unfold hdT
  rw [str_app, str_app, sp_is]
  intro h
  rcases List.mem_append.mp h with h | h
  · rcases List.mem_append.mp h with h | h
    · exact w0_free (.inl rfl) h
    · simp at h
  · exact dg_free h0 h1 (.inl rfl) h
theorem rowF_free : ∀ {rs : List Int} {a : Str}, (∀ x ∈ rs, 0 ≤ x ∧ x ≤ 999) → 58 ∉ a.cps.toList → 58 ∉ (rowF a rs).cps.toList
  | [], _, _, h => h
  | r :: rs, a, h, ha => by
    have h1 := h r List.mem_cons_self
    refine rowF_free (rs := rs) (a := a ++ Str.ofString " " ++ dg r) (fun x hx => h x (List.mem_cons_of_mem _ hx)) ?_
    rw [str_app, str_app, sp_is]
    intro z
    rcases List.mem_append.mp z with z | z
    · rcases List.mem_append.mp z with z | z
      · exact ha z
      · simp at z
    · exact dg_free h1.1 h1.2 (.inl rfl) z
theorem split_row {o m : Int} {rs : List Int} (h0 : 0 ≤ m) (h1 : m ≤ 999) (hr : ∀ x ∈ rs, 0 ≤ x ∧ x ≤ 999) : Txt.split (rowT o m rs) (Str.ofString ":") = [hdT o m, rowF Str.empty rs] := by
  rw [co_is, rowT_join]
  refine split_of_join (by simp) fun p hp => ?_
  rcases List.mem_cons.mp hp with rfl | hp
  · exact hdT_free h0 h1
  · rw [List.mem_singleton.mp hp]; exact rowF_free hr (by simp [Str.empty])
theorem split_head {o m : Int} (h0 : 0 ≤ m) (h1 : m ≤ 999) : Txt.split (hdT o m) (Str.ofString " ") = [w0 o, dg m] := by
  rw [sp_is, show hdT o m = Str.join ⟨#[32]⟩ [w0 o, dg m] from by unfold hdT; rw [sp_is]; rfl]
  refine split_of_join (by simp) fun p hp => ?_
  rcases List.mem_cons.mp hp with rfl | hp
  · exact w0_free (.inr rfl)
  · rw [List.mem_singleton.mp hp]; exact dg_free h0 h1 (by omega)
theorem split_tail {rs : List Int} (hr : ∀ x ∈ rs, 0 ≤ x ∧ x ≤ 999) : Txt.split (rowF Str.empty rs) (Str.ofString " ") = Str.empty :: rs.map dg := by
  rw [sp_is, rowF_join]
  refine split_of_join (by simp) fun p hp => ?_
  rcases List.mem_cons.mp hp with rfl | hp
  · simp [Str.empty]
  · obtain ⟨x, hx, rfl⟩ := List.mem_map.mp hp
    exact dg_free (hr x hx).1 (hr x hx).2 (by omega)
theorem rowT_words {o m : Int} {rs : List Int} : rowT o m rs = Str.join ⟨#[32]⟩ (w0 o :: (dg m ++ Str.ofString ":") :: rs.map dg) := by
  unfold rowT hdT
  rw [app_assoc, rowF_app, rowF_join, join_cons2, sp_is]
theorem split_L {o m : Int} {rs : List Int} (h0 : 0 ≤ m) (h1 : m ≤ 999) (hr : ∀ x ∈ rs, 0 ≤ x ∧ x ≤ 999) : Txt.split (rowT o m rs) (Str.ofString " ") = w0 o :: (dg m ++ Str.ofString ":") :: rs.map dg := by
  rw [sp_is, rowT_words]
  refine split_of_join (by simp) fun p hp => ?_
  rcases List.mem_cons.mp hp with rfl | hp
  · exact w0_free (.inr rfl)
  · rcases List.mem_cons.mp hp with rfl | hp
    · rw [str_app, co_is]
      intro z
      rcases List.mem_append.mp z with z | z
      · exact dg_free h0 h1 (by omega) z
      · simp at z
    · obtain ⟨x, hx, rfl⟩ := List.mem_map.mp hp
      exact dg_free (hr x hx).1 (hr x hx).2 (by omega)
theorem rowT_law {o m : Int} {rs : List Int} (hne : rs ≠ []) : w0 o ++ Str.ofString " " ++ dg m ++ Str.ofString ": " ++ Str.join (Str.ofString " ") (rs.map dg) = rowT o m rs := by
  cases rs with
  | nil => exact absurd rfl hne
  | cons r rs =>
    unfold rowT hdT
    rw [rowF_join, List.map_cons, join_cons2, cosp_is, sp_is]
    simp only [app_assoc]

abbrev T3 := Int × Int × List Int
def rowOf (t : T3) : Str := rowT t.1 t.2.1 t.2.2
structure TOk (t : T3) : Prop where
  o01 : t.1 = 0 ∨ t.1 = 1
  m0 : 0 ≤ t.2.1
  m1 : t.2.1 ≤ 999
  r9 : ∀ x ∈ t.2.2, 0 ≤ x ∧ x ≤ 999
  rl : t.2.2.length ≤ 62
def IsRow (row : Str) : Prop := ∃ t, TOk t ∧ row = rowOf t
theorem rowOf_asc {t : T3} (h : TOk t) : Asc (rowOf t) := rowF_asc (((asc_w0.app asc_sp).app (asc_dg h.m0 h.m1)).app asc_co) h.r9
theorem rowOf_len {t : T3} (h : TOk t) : (rowOf t).length ≤ 9 + 4 * t.2.2.length := by
  have := rowF_len (a := hdT t.1 t.2.1 ++ Str.ofString ":") h.r9
  have h2 := hdT_len (o := t.1) h.m0 h.m1
  rw [len_app, l_co] at this
  unfold rowOf rowT; omega
theorem tok_of {o m : Int} {rs : List Int} {row : Str} (ho : o = 0 ∨ o = 1) (h0 : 0 ≤ m) (h1 : m ≤ 999) (hr : ∀ x ∈ rs, 0 ≤ x ∧ x ≤ 999) (hl : row.length ≤ 60) (e : row = rowT o m rs) : IsRow row := by
  refine ⟨(o, m, rs), ⟨ho, h0, h1, hr, ?_⟩, e⟩
  have := join_many (c := 32) (ps := w0 o :: (dg m ++ Str.ofString ":") :: rs.map dg)
  rw [← rowT_words, ← e] at this
  simp only [List.length_cons, List.length_map] at this
  show rs.length ≤ 62
  omega
/-! the last sign -/
theorem slice_to1 {x : Str} (h : 1 ≤ x.length) : Txt.slice x none (some (-1)) = ⟨(x.cps.toList.take (x.length - 1)).toArray⟩ := by
  have := eq_of_beq (slice_closes_to_neg (x := x) (j := -1) (by omega) (by omega) rfl)
  rw [this, show (0 : Int).toNat = 0 from rfl, List.drop_zero, show (-1 + (x.length : Int) - 0).toNat = x.length - 1 by omega]
theorem slice_from1 {x : Str} (h : 1 ≤ x.length) : Txt.slice x (some (-1)) none = ⟨(x.cps.toList.drop (x.length - 1)).toArray⟩ := by
  have := eq_of_beq (slice_closes_from_neg (x := x) (i := -1) (by omega) (by omega) rfl rfl)
  rw [this, show (-1 + (x.length : Int)).toNat = x.length - 1 by omega, List.take_of_length_le]
  rw [List.length_drop, ← str_len]; omega
theorem slice_colon {x : Str} (h : Txt.slice x (some (-1)) none = Str.ofString ":") : x = Txt.slice x none (some (-1)) ++ Str.ofString ":" := by
  have hl : 1 ≤ x.length := by
    have := Txt.slice_le x (some (-1)) none
    rw [h, l_co] at this; exact this
  rw [slice_to1 hl, ← h, slice_from1 hl]
  refine str_ext ?_
  rw [str_app]
  exact (List.take_append_drop _ _).symm
theorem colon_slices {y : Str} : Txt.slice (y ++ Str.ofString ":") (some (-1)) none = Str.ofString ":" ∧ Txt.slice (y ++ Str.ofString ":") none (some (-1)) = y := by
  have hl : (y ++ Str.ofString ":").length = y.length + 1 := by rw [len_app, l_co]
  rw [slice_to1 (by omega), slice_from1 (by omega), hl, Nat.add_sub_cancel]
  rw [str_app, str_len]
  refine ⟨str_ext ?_, str_ext ?_⟩
  · show List.drop _ _ = _
    rw [List.drop_append_of_le_length (Nat.le_refl _), List.drop_length, List.nil_append]
  · show List.take _ _ = _
    rw [List.take_append_of_le_length (Nat.le_refl _), List.take_length]

/-! lines -/
theorem sum_le {ys : List Str} {b : Nat} : (∀ y ∈ ys, y.length ≤ b) → (ys.map (·.length)).sum ≤ ys.length * b := by
  induction ys with
  | nil => intro _; simp
  | cons y ys ih =>
    intro h
    have h1 := h y List.mem_cons_self
    have h2 := ih fun x hx => h x (List.mem_cons_of_mem _ hx)
    simp only [List.map_cons, List.sum_cons, List.length_cons, Nat.add_mul, Nat.one_mul]; omega
theorem lines_w {ys : List Str} (hl : ys.length ≤ 61) (ha : ∀ y ∈ ys, y.length ≤ 60) : (ys.map (·.length)).sum + ys.length ≤ 1048576 := by
  have := sum_le ha
  have : ys.length * 60 ≤ 61 * 60 := Nat.mul_le_mul_right _ hl
  omega
theorem lines_len {ys : List Str} (hl : ys.length ≤ 61) (ha : ∀ y ∈ ys, y.length ≤ 60) : (Str.join (Str.ofString "\n") ys).length ≤ 1000000 := by
  rw [← StrLaws.glued_eq_join, size_glued]
  have h1 : (Str.ofString "\n").length = 1 := by decide +kernel
  have := sum_le ha
  have : ys.length * 60 ≤ 61 * 60 := Nat.mul_le_mul_right _ hl
  rw [h1, Nat.mul_one]; omega
theorem lines_split {ys : List Str} (hne : ys ≠ []) (ha : ∀ y ∈ ys, Asc y) : Txt.split (Str.join (Str.ofString "\n") ys) (Str.ofString "\n") = ys := by
  rw [nl_is]
  exact split_of_join hne fun p hp q => by have := ha p hp 10 q; omega
/-! doubles -/
theorem dedup_len : ∀ (l acc : List Int), (l.foldl step_dedup acc).length ≤ acc.length + l.length ∧ ((l.foldl step_dedup acc).length = acc.length + l.length ↔ (∀ x ∈ l, x ∉ acc) ∧ l.Nodup)
  | [], acc => by simp
  | x :: l, acc => by
    rw [List.foldl_cons]
    by_cases h : acc.any (· == x) = true
    · rw [show step_dedup acc x = acc from if_pos h]
      have h' : x ∈ acc := by
        obtain ⟨k, h1, h2⟩ := List.any_eq_true.mp h
        rw [← show k = x from by simpa using h2]; exact h1
      obtain ⟨h1, h2⟩ := dedup_len l acc
      refine ⟨by simp only [List.length_cons]; omega, ⟨fun q => ?_, fun q => ?_⟩⟩
      · simp only [List.length_cons] at q; omega
      · exact absurd h' (q.1 x List.mem_cons_self)
    · rw [show step_dedup acc x = acc ++ [x] from if_neg h]
      have h' : x ∉ acc := fun q => h (List.any_eq_true.mpr ⟨x, q, by simp⟩)
      obtain ⟨h1, h2⟩ := dedup_len l (acc ++ [x])
      rw [List.length_append, List.length_singleton] at h1 h2
      refine ⟨by simp only [List.length_cons]; omega, ?_⟩
      rw [List.length_cons, show acc.length + (l.length + 1) = acc.length + 1 + l.length by omega, h2, List.nodup_cons]
      constructor
      · rintro ⟨q1, q2⟩
        refine ⟨fun y hy => ?_, fun hx => q1 x hx (by simp), q2⟩
        rcases List.mem_cons.mp hy with rfl | hy
        · exact h'
        · exact fun z => q1 y hy (List.mem_append_left _ z)
      · rintro ⟨q1, q2, q3⟩
        refine ⟨fun y hy => ?_, q3⟩
        rw [List.mem_append, List.mem_singleton]
        rintro (z | rfl)
        · exact q1 y (List.mem_cons_of_mem _ hy) z
        · exact q2 hy
theorem met_len {l : List Int} : (firstMet (fun i => l.getD i 0) l.length).length ≤ l.length ∧ ((firstMet (fun i => l.getD i 0) l.length).length = l.length ↔ l.Nodup) := by
  have e : firstMet (fun i => l.getD i 0) l.length = l.foldl step_dedup [] := by
    unfold firstMet
    congr 1
    refine List.ext_getElem? fun i => ?_
    rw [List.getElem?_map]
    by_cases h : i < l.length
    · rw [List.getElem?_range h, List.getElem?_eq_getElem h]; simp [h]
    · rw [List.getElem?_eq_none (l := List.range l.length) (by simpa using h), List.getElem?_eq_none (l := l) (by simpa using h)]; rfl
  rw [e]
  have := dedup_len l []
  simp only [List.length_nil, Nat.zero_add] at this
  refine ⟨this.1, this.2.trans ⟨fun q => q.2, fun q => ⟨by simp, q⟩⟩⟩
theorem cut_tail2 {x y : D} {xs : List D} : cut (some 2) none (x :: y :: xs) = xs := by
  unfold cut
  have e : clipAt (x :: y :: xs).length 2 = 2 := clip_nat (k := 2) (by simp)
  simp only [Option.elim_none, Option.elim_some, e, List.drop_succ_cons, List.drop_zero]
  rw [List.take_of_length_le (by simp)]
def RowOk (size : Int) (row : List Int) : Prop := row ≠ [] ∧ row.length ≤ 60 ∧ row.Nodup ∧ ∀ x ∈ row, 0 ≤ x ∧ x < size
theorem two_of {ps : List Str} (h : ps.length = 2) : ∃ p q, ps = [p, q] := by
  match ps, h with
  | [p, q], _ => exact ⟨p, q, rfl⟩
theorem cons_of {ps : List Str} (h : ps ≠ []) : ∃ p qs, ps = p :: qs := by
  match ps, h with
  | p :: qs, _ => exact ⟨p, qs, rfl⟩
theorem w0_of {x : Str} (h : (Str.ofString "even" == x || Str.ofString "odd" == x) = true) : ∃ o, (o = 0 ∨ o = 1) ∧ x = w0 o := by
  rcases Bool.or_eq_true_iff.mp h with q | q
  · exact ⟨0, .inl rfl, by rw [← eq_of_beq q]; rfl⟩
  · exact ⟨1, .inr rfl, by rw [← eq_of_beq q]; rfl⟩
theorem w0_in {o : Int} (h : o = 0 ∨ o = 1) : (Str.ofString "even" == w0 o || Str.ofString "odd" == w0 o) = true := by rcases h with rfl | rfl <;> decide +kernel
theorem w0_odd {o : Int} (h : o = 0 ∨ o = 1) : (if (w0 o == Str.ofString "odd") = true then (1 : Int) else 0) = o := by rcases h with rfl | rfl <;> decide +kernel
theorem str_get {ys : List Str} {i : Nat} {y : D} (h : (ys.map D.str)[i]? = some y) : ∃ x, ys[i]? = some x ∧ y = .str x := by
  rw [List.getElem?_map] at h
  obtain ⟨x, hx, rfl⟩ := Option.map_eq_some_iff.mp h
  exact ⟨x, hx, rfl⟩
end Mine

namespace Mine
open PySem PySem.W PyProof.Rows PySem.Spec PySem.Calls
section
variable {X : Cx} {env : Env} {rw : Bool} {n : Nat} {A : Around} {kb : Fz} {av : Addr → Prop} {g g' : Fz} {st st' : St} {s s' : Shared} {hp hp' : Hp} {loc : Str → Option D} {K : Fl → St → Prop} {Q : D → St → Prop} {QB : Bool → Prop} {E : Value → Shared → Prop}
/-! ## slices, of texts too -/
def wpSl2 (X : Cx) (n : Nat) (a dl du : D) (Q : D → St → Prop) (st : St) : Prop := wpSl X n a dl du Q st ∨ ∃ lo hi x, bound dl = some lo ∧ bound du = some hi ∧ a = .str x ∧ x.length ≤ 1000000 ∧ Q (.str (Txt.slice x lo hi)) st
abbrev kS3 (X : Cx) (n : Nat) (a lo : D) (Q : D → St → Prop) : D → St → Prop := fun hi st => wpSl2 X n a lo hi Q st
abbrev kS2 (X : Cx) (n : Nat) (a : D) (u : Option Expr) (Q : D → St → Prop) : D → St → Prop := fun lo st => wpOpt X n u (kS3 X n a lo Q) st
abbrev kS1 (X : Cx) (n : Nat) (l u : Option Expr) (Q : D → St → Prop) : D → St → Prop := fun a st => wpOpt X n l (kS2 X n a u Q) st
theorem part_of {v : Value} {k : Option Int} (h : IsPart v k) : ∃ l : Option (Int × Tok), v = partValue l ∧ k = l.map (·.1) := by
  cases h with
  | none => exact ⟨none, rfl, rfl⟩
  | int i t => exact ⟨some (i, t), rfl, rfl⟩
theorem e_slice2 {e : Expr} {l u : Option Expr} {sp p : Pos} (h : wpE X n e (kS1 X n l u Q) st) : wpE X n (.Subscript e (.Slice l u none sp) p) Q st := fun env rw hok A kb av g s hr F => by
  obtain ⟨o1, o2⟩ := and2 hok
  obtain ⟨o3, _⟩ := and2 (show (okO X.isG env.scope.names l && okO X.isG env.scope.names u && true) = true from o2)
  obtain ⟨o3, o4⟩ := and2 o3
  refine Subscript_ ((h env rw o1).use hr F fun v s₁ g₁ a st₁ h1 F₁ h3 h4 => ?_)
  show wpAny _ _ (do
    let l ← valueOrNone (evalOpt l env)
    let u ← holding [l] (valueOrNone (evalOpt u env))
    let s ← holding [l, u] (valueOrNone (evalOpt none env))
    newFields "slice" [l, u, s]) _ _ _
  refine wpAny_bind ((h4 env rw o3).use hr F₁ fun vl s₂ g₂ dl st₂ k1 F₂ k3 k4 => wpAny_bind (wpAny_holding ((k4 env rw o4).use hr F₂ fun vu s₃ g₃ du st₃ l1 F₃ l3 l4 => wpAny_bind (wpAny_holding (wpAny_pure ?_)))))
  have rl := k3.sub l1
  have ra := (h3.sub k1).sub l1
  have hk : ∀ b o', s₃.heap.get? b = some o' → (s₃.heap.push { cls := .type "slice", data := .fields #[vl, vu, .none] }).get? b = some o' := fun b o' e => Heap.get?_push_of_some _ e
  have F' := F₃.keeps (s' := { s₃ with heap := s₃.heap.push { cls := .type "slice", data := .fields #[vl, vu, .none] } }) hk
  rcases l4 with ⟨lo, hi, xs, el, eu, e1, hle, hn⟩ | ⟨lo, hi, x, el, eu, rfl, hle, hn⟩
  · obtain ⟨c, its, m, rfl, hc, hrs⟩ := lst_real F₃.sat ra e1
    have hl := hrs.length
    simp only [Array.length_toList] at hl
    refine wpAny_newObj_type ?_
    have IL : (s₃.heap.push { cls := .type "slice", data := .fields #[vl, vu, .none] }).IsList c its := ⟨_, hk _ _ hc, rfl, m, rfl⟩
    refine tail_any (ops := [_, _]) (Heap.IsList.typeIs (s := { s₃ with heap := _ }) IL) slot_list_getitem.lookup ?_ rfl
    refine wpAny_getItem_list_slice (st := none) IL ⟨_, Heap.get?_push_size _ rfl, rfl, rfl⟩ (bound_part rl el) (bound_part l3 eu) .none (by intro x; cases x) ?_ (sizeLine_ge (by rw [hl]; exact hle))
    refine (new_list F' (k := 0) ?_ hn).up ((h1.trans k1).trans l1)
    rw [slicePick_plain, hl]
    unfold cut
    simpa using (hrs.drop' _).take' _
  · obtain ⟨t, rfl⟩ := ra.str'
    obtain ⟨pl, rfl, rfl⟩ := part_of (bound_part rl el)
    obtain ⟨pu, rfl, rfl⟩ := part_of (bound_part l3 eu)
    refine wpAny_newObj_type ?_
    refine tail_any (ops := [_, _]) (typeIs_str _ _ _) PySem.F.slot_str_getitem.lookup ?_ rfl
    refine wpAny_getItem_str_slice (l := pl) (u := pu) (st := none) ⟨_, Heap.get?_push_size _ rfl, rfl, rfl⟩ rfl (post_val_or_str ⟨Nat.le_trans (Txt.slice_le x _ _) (sizeLine_ge (by omega)), fun t' k => ?_⟩)
    exact PV.up ((h1.trans k1).trans l1) ⟨g₃, .str _, st₃, Sub.rfl', F'.toks k, R.str_, hn⟩
theorem sl_l {d lo hi : D} {lo' hi' : Option Int} {xs : List D} (h1 : bound lo = some lo') (h2 : bound hi = some hi') (hs : lst st.hp d = some xs) (hl : xs.length ≤ 16000000) (h : New (cut lo' hi' xs) Q st) : wpSl2 X n d lo hi Q st := .inl ⟨lo', hi', xs, h1, h2, hs, hl, h⟩
theorem sl_s {x : Str} {lo hi : D} {lo' hi' : Option Int} (h1 : bound lo = some lo') (h2 : bound hi = some hi') (hl : x.length ≤ 1000000) (h : Q (.str (Txt.slice x lo' hi')) st) : wpSl2 X n (.str x) lo hi Q st := .inr ⟨lo', hi', x, h1, h2, rfl, hl, h⟩

theorem bound_i {i : Int} (h0 : -1000000 < i) (h1 : i < 1000000) : bound (.int i) = some (some i) := by unfold bound; simp only; rw [if_pos (by omega)]
theorem i_strA {x : Str} {k : Int} {m : Nat} (ha : Asc x) (hm : x.length = m) (hx : m ≤ 1000) (h0 : 0 ≤ k) (h1 : k < m) (h : ∀ c : Str, Asc c → c.length = 1 → Q (.str c) st) : wpItem X n (.str x) (.int k) Q st := by
  have hlt : k.toNat < x.cps.size := by have : x.cps.size = m := hm; omega
  refine i_str (c := x.cps[k.toNat]) h0 (by omega) (Array.getElem?_eq_getElem hlt) (h _ (fun c hc => ?_) rfl)
  have e : c = x.cps[k.toNat] := by simpa using hc
  rw [e]
  exact ha _ (by rw [← Array.getElem_toList]; exact List.getElem_mem _)
/-! ## for over a text -/
def chs (x : Str) : List D := x.cps.toList.map fun c => .str ⟨#[c]⟩
theorem iter_s (F : InF X env rw kb av g st s) {x : Str} {t : Tok} :
    wpAny (model X.prog X.w) A (pyIter (.str x t)) (fun it s' => ∃ I T, it = .ref I ∧ InF X env rw kb av g st s' ∧ Loose env kb g st.hp s' I ∧ s'.heap.IsStrIter I T x t 0 ∧ (∀ A' : Around, A'.handled = none → Walks X.prog X.w A' I [I] [I] x.cps.size (SignAt x) (fun i h => h.IsStrIter I T x t i))) E s := by
  have hk : ∀ o b o', s.heap.get? b = some o' → (s.heap.push o).get? b = some o' := fun o b o' e => Heap.get?_push_of_some _ e
  cases ha : x.cps.all (· < 128)
  · exact wpAny_pyIter_wide ha ⟨_, _, rfl, F.keeps (hk _), F.loose (get?_size _) ⟨_, Heap.get?_push_size _ rfl⟩, ⟨_, Heap.get?_push_size _ rfl, rfl, rfl⟩, fun A' hA => Walks.strWide hA _ x t⟩
  · exact wpAny_pyIter_ascii ha ⟨_, _, rfl, F.keeps (hk _), F.loose (get?_size _) ⟨_, Heap.get?_push_size _ rfl⟩, ⟨_, Heap.get?_push_size _ rfl, rfl, rfl⟩, fun A' hA => Walks.strAscii hA _ x t⟩
abbrev kForS (X : Cx) (n : Nat) (x : Str) (body : List Stmt) (K : Fl → St → Prop) : D → St → Prop := fun src st => ∃ y, src = .str y ∧ forG (forF X n x body) (.list (chs y)) (chs y) (chs y) K st
inductive FInvS (X : Cx) (env : Env) (n : Nat) (kb : Fz) (av : Addr → Prop) (g : Fz) (I : Addr) (T : String) (y : Str) (t : Tok) (x : Str) (body : List Stmt) (K : Fl → St → Prop) (j : Nat) (s' : Shared) : Prop
  | mk (i : Nat) (g' : Fz) (st' : St) (e : j = (chs y).length + 1 - i) (hi : i ≤ (chs y).length) (h : Sub g g') (F : InF X env true kb av g' st' s') (L : Loose env kb g' st'.hp s' I) (hI : s'.heap.IsStrIter I T y t i) (hG : forG (forF X n x body) (.list (chs y)) (chs y) ((chs y).drop i) K st') : FInvS X env n kb av g I T y t x body K j s'
theorem striter_at {h h' : Heap} {I : Addr} {T : String} {y : Str} {t : Tok} {i : Nat} (x : h.IsStrIter I T y t i) (e : h'.get? I = h.get? I) : h'.IsStrIter I T y t i := let ⟨o, ho, r⟩ := x; ⟨o, e.trans ho, r⟩
theorem s_forS [Hn X] {x : Str} {px p : Pos} {iter : Expr} {body : List Stmt} (h : wpE X n iter (kForS X n x body K) st) : wpS X n (.For (.Name x px) iter body [] p) K st := fun env hok A kb av g s hr F => by
  obtain ⟨h1, h3⟩ := and2 hok
  obtain ⟨h1, h2⟩ := and2 h1
  refine wpAny_For (wpAny_mono (h env true h1 A kb av g s hr F) (fun v s₁ ⟨g₁, src, st₁, sub₁, F₁, rv, hx⟩ => ?_) fun _ _ x => x) (okE_folded h1 env)
  obtain ⟨y, rfl, hG⟩ := hx
  obtain ⟨t, rfl⟩ := rv.str'
  have ly : (chs y).length = y.cps.size := by simp [chs]
  refine wpAny_mono (iter_s F₁) (fun it s₂ ⟨I, T, hI, F₂, LI, hIt, hW⟩ => ?_) fun _ _ x => x
  subst hI
  refine codeAny_forLoop (FInvS X env n kb av g₁ I T y t x body K) ?_ ((chs y).length + 1) ⟨0, g₁, st₁, by omega, by omega, Sub.rfl', F₂, LI, hIt, by simpa using hG⟩
  rintro j s₃ ⟨i, g₃, st₃, rfl, hi, sub₃, F₃, L₃, hI₃, hG₃⟩
  by_cases hlt : i < (chs y).length
  · have hd : (chs y).drop i = (chs y)[i] :: (chs y).drop (i + 1) := List.drop_eq_getElem_cons hlt
    rw [hd] at hG₃
    simp only [forG] at hG₃
    obtain ⟨hit₃, hG₃⟩ := hG₃
    refine (hW A (hr.hd Hn.h)).item i s₃ _ _ (by omega) hI₃ fun v h₄ tk hP hst hk₄ => ?_
    obtain ⟨c, u, hc, rfl⟩ := hP
    have hy : (chs y)[i] = .str ⟨#[c]⟩ := by
      have : (chs y)[i]? = some (.str ⟨#[c]⟩) := by unfold chs; rw [List.getElem?_map, Array.getElem?_toList, hc]; rfl
      rw [List.getElem?_eq_getElem hlt] at this
      exact Option.some.inj this
    rw [hy] at hG₃
    have hk₄' : ∀ b o, b ≠ I → s₃.heap.get? b = some o → h₄.get? b = some o := fun b o hb e => hk₄ b o (by simpa using hb) e
    have F₄ : InF X env true kb av g₃ st₃ { s₃ with heap := h₄, toks := tk } := F₃.extI (s' := { s₃ with heap := h₄, toks := tk }) L₃ hk₄'
    have L₄ : Loose env kb g₃ st₃.hp { s₃ with heap := h₄, toks := tk } I := ⟨L₃.k, L₃.g, L₃.h, L₃.o, let ⟨o, ho, _⟩ := hst; ⟨o, ho⟩⟩
    refine wpAny_assign_Name (store_ok F₄ (R.str_ (x := ⟨#[c]⟩) (t := u)) (okSt_of (names := []) h2) (okSt_g h2) fun s₅ F₅ hk₅ => ?_)
    have L₅ : Loose env kb g₃ st₃.hp s₅ I := ⟨L₄.k, L₄.g, L₄.h, L₄.o, let ⟨o, ho⟩ := L₄.ex; ⟨o, hk₅ _ _ L₄.o ho⟩⟩
    have hI₅ : s₅.heap.IsStrIter I T y t (i + 1) := striter_at hst (by obtain ⟨o, ho⟩ := L₄.ex; have ho' : h₄.get? I = some o := ho; rw [ho']; exact hk₅ _ _ L₄.o ho)
    have F₆ := F₅.push (P := fun b => b = I) (by rintro b rfl; exact L₅)
    have hrF : Rm X env true (addK X kb (fun b => b = I) s₅.heap) (fun b => av b ∨ b = I) A n := by
      obtain ⟨f, l, L, h1, h2, h3, h4, h5, h6⟩ := hr.fr
      exact ⟨hr.toRoom, hr.hd, hr.rwc, fun q1 q2 => (hr.hk q1 q2).mono fun b o q => F₅.sat.up q, f, l, L, h1, h2, h3, h4, h5.imp id fun q => ⟨q.1, q.2.mono (fun b o q => F₅.sat.up q) fun b hb => .inl hb⟩, fun f' hf' => (h6 f' hf').mono (fun b o q => F₅.sat.up q) fun b hb => .inl hb⟩
    refine wpAny_mono ((show wpSs X n body _ _ from hG₃) env h3 A _ _ g₃ s₅ hrF F₆) (fun f s₇ ⟨g₇, fl, st₇, q1, F₇, rf, hK⟩ => ?_) fun _ _ x => (x.mono fun b o q => F₅.sat.up q).passes hr.fr
    obtain ⟨F₈, hP⟩ := F₅.pop F₇ (by rintro b rfl; exact L₅)
    obtain ⟨eI, L₈⟩ := hP I rfl
    have again : forG (forF X n x body) (.list (chs y)) (chs y) ((chs y).drop (i + 1)) K st₇ → ∃ m, m < (chs y).length + 1 - i ∧ FInvS X env n kb av g₁ I T y t x body K m s₇ := fun hh =>
      ⟨(chs y).length + 1 - (i + 1), by omega, i + 1, g₇, st₇, rfl, by omega, sub₃.trans q1, F₈, L₈, striter_at hI₅ eI, hh⟩
    cases fl with
    | next => rw [show f = .next from rf]; exact again hK
    | cont => rw [show f = .cont from rf]; exact again hK
    | brk => rw [show f = .brk from rf]; exact ⟨g₇, .next, st₇, (sub₁.trans sub₃).trans q1, F₈, rfl, hK⟩
    | ret d => obtain ⟨w, rfl, rw'⟩ := rf; exact ⟨g₇, .ret d, st₇, (sub₁.trans sub₃).trans q1, F₈, ⟨w, rfl, rw'⟩, hK⟩
  · have hie : i = (chs y).length := by omega
    subst hie
    rw [List.drop_length] at hG₃
    simp only [forG] at hG₃
    obtain ⟨hit₃, hK⟩ := hG₃
    rw [ly] at hI₃
    refine (hW A (hr.hd Hn.h)).done s₃ _ _ hI₃ fun h₄ tk hk₄ => ?_
    have hk₄' : ∀ b o, b ≠ I → s₃.heap.get? b = some o → h₄.get? b = some o := fun b o hb e => hk₄ b o (by simpa using hb) e
    have F₄ : InF X env true kb av g₃ st₃ { s₃ with heap := h₄, toks := tk } := F₃.extI (s' := { s₃ with heap := h₄, toks := tk }) L₃ hk₄'
    exact wpAny_execs_nil ⟨g₃, .next, st₃, sub₁.trans sub₃, F₄, rfl, hK⟩

/-! ## find; doubles -/
theorem meth_find {x : Str} : Meth X (.str x) "find" (.fn (.builtin "str.find")) st := meth_s PySem.F.slot_str_find PySem.F.type_str_find
theorem f_find {x y : Str} (h : Q (.int (Txt.find x y)) st) : CV X n (.fn (.builtin "str.find")) [.str x, .str y] Q st := CV.b2 fun _ _ _ _ _ _ s _ _ _ F r r' => by
  obtain ⟨t, rfl⟩ := r.str'; obtain ⟨u, rfl⟩ := r'.str'
  exact SC.find (PV.tok F R.int_ h)
theorem ints_are {l : List Int} : ∀ {vs : List Value}, Rs g (zs l) vs → IntsAre vs l := by
  induction l with
  | nil => intro vs h; rw [show vs = [] from h]; exact .nil
  | cons y ys ih =>
    intro vs h
    obtain ⟨v, r, rfl, h1, h2⟩ := h
    obtain ⟨t, rfl⟩ := R.int' h1
    exact .cons y t (ih h2)
theorem e_lenset [Hn X] (ok : X.Ok) {x1 x2 : Str} {p1 p2 p3 p4 : Pos} {e : Expr} (hg1 : X.G x1 = some (.fn (.builtin "len"))) (hg2 : X.G x2 = some (.fn (.type "set")))
    (h : wpE X n e (fun d st => ∃ l, lst st.hp d = some (zs l) ∧ l.length ≤ 1000 ∧ Q (.int (firstMet (fun i => l.getD i 0) l.length).length) st) st) :
    wpE X n (.Call (.Name x1 p1) [.Call (.Name x2 p2) [e] [] p3] [] p4) Q st := fun env rw hok A kb av g s hr F => by
  obtain ⟨o1, o4⟩ := and2 hok
  obtain ⟨o1, o3⟩ := and2 o1
  obtain ⟨_, o2⟩ := and2 o1
  have oc := (and2 o2).1
  obtain ⟨c1, c4⟩ := and2 oc
  obtain ⟨c1, c3⟩ := and2 c1
  obtain ⟨_, c2⟩ := and2 c1
  refine wpAny_Call_Name_kw (glob_eval ok F (show okName X.isG env.scope.names x1 = true from o4) hg1 fun v rv => ?_)
  rw [rv.fn']
  refine callWith_of (P := fun h => X.K.In h) (by rw [backTo_any o2]; rfl) (fun hh hK => ⟨.machine, .inr (.inl rfl), Looks.of_pure rfl⟩) ?_
  rw [okE_notStar oc]
  refine Calls.evalArgs_plain (Calls.spliced_cons ?_)
  refine wpAny_Call_Name_kw (glob_eval ok F (show okName X.isG env.scope.names x2 = true from c4) hg2 fun v2 rv2 => ?_)
  rw [rv2.fn']
  refine callWith_of (P := fun h => X.K.In h) (by rw [backTo_any c2]; rfl) (fun hh hK => ⟨.machine, .inr (.inl rfl), Looks.of_pure rfl⟩) ?_
  rw [okE_notStar (and2 c2).1]
  refine Calls.evalArgs_plain (Calls.spliced_cons ((h env rw (and2 c2).1).use hr F fun v s₁ g₁ d st₁ h1 F₁ h3 h4 => Calls.spliced_nil ?_))
  obtain ⟨l, hl, hlen, hq⟩ := h4
  obtain ⟨c, its, m, rfl, hc, hrs⟩ := lst_real F₁.sat h3 hl
  have hsz := hrs.length
  rw [zs_length, Array.length_toList] at hsz
  have hbd : its.size + 1 < scanBound := by
    have : 1001 < scanBound := by decide
    omega
  refine ⟨F₁.sat.kin ok, ?_⟩
  refine call_set_list (hr.hd Hn.h) ⟨_, hc, rfl, m, rfl⟩ (ints_are hrs) hbd fun h' tk hS hk => ?_
  have F₂ : InF X env rw kb av g₁ st₁ { s₁ with heap := h', toks := tk } := F₁.keeps (s' := { s₁ with heap := h', toks := tk }) (fun b o q => hk b o (Heap.lt_size q) q)
  obtain ⟨o, ho, hex, es, ep, t, hd, _, _, hn, hf⟩ := hS.objOf
  have hes : es.size ≤ 1000 := by rw [hn]; have := firstMet_length_le (fun i => l.getD i 0) its.size; omega
  refine Calls.spliced_nil ⟨F₂.sat.kin ok, ?_⟩
  refine call_len_set ho hex hd hf (by omega) ?_
  refine ⟨g₁, .int _, st₁, h1, F₂.toks _, R.int_, ?_⟩
  rw [hn, hsz]
  exact hq
theorem ss_shs {cs : List Stmt} (hsh : Shift st st') (h : wpSs X n cs K st') : wpSs X n cs K st := fun env hok A kb av g s hr F => by
  obtain ⟨g', sub, F'⟩ := hsh.ok F
  exact wpAny_mono (h env hok A kb av g' s hr F') (fun f s₁ ⟨g₁, fl, st₁, q1, F₁, rf, hK⟩ => ⟨g₁, fl, st₁, sub.trans q1, F₁, rf, hK⟩) fun _ _ x => x
/-! ## lists of short texts -/
def gsB (x : Str) : Bool := ascB x && decide (x.length ≤ 30)
def GoodS (l : List D) : Prop := ∀ d ∈ l, ∃ x, d = .str x ∧ Asc x ∧ x.length ≤ 30
theorem gs_nil : GoodS [] := fun d h => by cases h
theorem gs_cons' {x : Str} {l : List D} (h : Asc x) (h' : x.length ≤ 30) (r : GoodS l) : GoodS (.str x :: l) := fun d hd => by
  rcases List.mem_cons.mp hd with rfl | hd
  · exact ⟨x, rfl, h, h'⟩
  · exact r d hd
theorem gs_cons {x : Str} {l : List D} (h : gsB x = true) (r : GoodS l) : GoodS (.str x :: l) := by
  simp only [gsB, Bool.and_eq_true, decide_eq_true_eq] at h
  exact gs_cons' (asc_of h.1) h.2 r
theorem gs_app {l l' : List D} (h : GoodS l) (h' : GoodS l') : GoodS (l ++ l') := fun d hd => by
  rcases List.mem_append.mp hd with q | q
  · exact h d q
  · exact h' d q
theorem i_gs {x : D} {k : Int} {xs : List D} (hs : sq st.hp x = some xs) (hg : GoodS xs) (hl : xs.length ≤ 16000000) (h0 : 0 ≤ k) (h1 : k < xs.length) (h : ∀ y, Asc y → y.length ≤ 30 → Q (.str y) st) : wpItem X n x (.int k) Q st := by
  have hlt : k.toNat < xs.length := by omega
  obtain ⟨y, e, h2, h3⟩ := hg xs[k.toNat] (List.getElem_mem hlt)
  exact i_at (d := .str y) hs hl h0 (by rw [List.getElem?_eq_getElem hlt, e]) (h y h2 h3)
/-! ## comparing -/
theorem q_notin2 {x a b : Str} (hx : Asc x) (ha : Asc a) (hb : Asc b) (h : QB (!(a == x || b == x))) : wpC1 X n .NotIn (.str x) (.tup [.str a, .str b]) QB st :=
  q_notinp (xs := [.str a, .str b]) (ps := [.str a, .str b]) rfl rfl (p := .str x) rfl ⟨by simp only [PyData.canLay0, PyData.canLayAll0, Bool.and_true, Bool.and_eq_true]; exact ⟨asc_ok ha, asc_ok hb⟩, by simp only [PyData.depth, PyData.depthAll]; omega⟩ (small_asc hx) (by simpa [PyData.eqv] using h)
def rowD (t : T3) : D := .tup [.int t.1, .int t.2.1, .list (zs t.2.2)]
theorem q_nerow {t : T3} (h : QB false) : wpC1 X n .NotEq (rowD t) (rowD t) QB st := by
  have e : ∀ hp, pyH hp (rowD t) = some (.tuple [.int t.1, .int t.2.1, .list (t.2.2.map PyData.int)]) := fun hp => by simp only [rowD, pyH, py, pys, pys_ints, Option.map_some]
  have c : PyData.canLay0 (.tuple [.int t.1, .int t.2.1, .list (t.2.2.map PyData.int)]) = true := by simp only [PyData.canLay0, PyData.canLayAll0, canLay_ints, Bool.and_self]
  have sm : small (.tuple [.int t.1, .int t.2.1, .list (t.2.2.map PyData.int)]) := ⟨c, by simp only [PyData.depth, PyData.depthAll, depth_ints]; omega⟩
  exact q_nep (e _) (e _) sm sm (by rw [SeqAt.eqv_refl _ c]; exact h)
end
end Mine

namespace Mine.H08
open PySem PySem.W PyProof.Rows Mine
theorem quick {p : Program} {w : World} {m : Nat} {a : Option Value} {b n : Nat} {s : SharedT} {t : Thread} {r : Option (Flow × SharedT × Code × Pos)} (h : PySem.W.Fast.tw10110043849684766642 PySem.W.Fast.tw14364793385576792824 p w m a b n s t = r) : segRunT treeTable p w m a b n s t = r := by rw [PySem.W.Fast.te10110043849684766642, PySem.W.Fast.te14364793385576792824]; exact h
noncomputable abbrev pb : List Stmt := Program.main PySem.Challenge.pw_uf040023_08 |>.body
noncomputable abbrev F__wall : Stmt := nth pb 0
noncomputable abbrev F_is_whole : Stmt := nth pb 10
noncomputable abbrev F_need_roads : Stmt := nth pb 11
noncomputable abbrev F_need_board : Stmt := nth pb 12
noncomputable abbrev F_Board___init__ : Stmt := nth (sIn (nth pb 13)) 0
noncomputable abbrev F_Board_many : Stmt := nth (sIn (nth pb 13)) 1
noncomputable abbrev F_Board_need : Stmt := nth (sIn (nth pb 13)) 2
noncomputable abbrev F_Board_owner : Stmt := nth (sIn (nth pb 13)) 3
noncomputable abbrev F_Board_mark : Stmt := nth (sIn (nth pb 13)) 4
noncomputable abbrev F_Board_roads : Stmt := nth (sIn (nth pb 13)) 5
noncomputable abbrev F_Board_sources : Stmt := nth (sIn (nth pb 13)) 6
noncomputable abbrev F_number_of : Stmt := nth pb 15
noncomputable abbrev F_read_row : Stmt := nth pb 16
noncomputable abbrev F_read : Stmt := nth pb 17
noncomputable abbrev F__law_cell_at : Stmt := nth pb 19
noncomputable abbrev F__law_mixed : Stmt := nth pb 20
noncomputable abbrev F__law_odd_row : Stmt := nth pb 21
noncomputable abbrev F__law_bent_row : Stmt := nth pb 22
noncomputable abbrev F__law_number : Stmt := nth pb 23
noncomputable abbrev F__law_row_of : Stmt := nth pb 24
noncomputable abbrev F__law_due : Stmt := nth pb 25
noncomputable abbrev F__law_read : Stmt := nth pb 26
noncomputable abbrev F__law_rows : Stmt := nth pb 27
noncomputable abbrev F__law_spoiled : Stmt := nth pb 28
noncomputable abbrev F_law : Stmt := nth pb 29
noncomputable def env : Env := { scope := Module.scope (Program.main PySem.Challenge.pw_uf040023_08), locals := mainNs, globals := mainNs, cells := [], code := .ref 13, frame := some 14 }
noncomputable abbrev cE : Code := .body (behindTheImports PySem.Challenge.pw_uf040023_08) env
abbrev BB : List Frame := [topFrame { line := 0, col := 0, endLine := 0, endCol := 0 }]
abbrev ann : Option Value := Option.some (.ref 6)
noncomputable def o11 (P : Params) : Obj := { cls := .type "tuple", data := .seq #[] }
noncomputable def o12 (P : Params) : Obj := { cls := .none, data := .fields #[] }
noncomputable def o13 (P : Params) : Obj := { cls := .type "code", data := .fields #[.str (Str.ofString "<module>") 182, .str (Str.ofString "<module>") 183, .str (Str.ofString "/claim/cut.py") 184, .int 1 0, .int 0 0, .int 0 0, .int 0 0, .int 0 0, .ref 11, .bool Bool.false, .int 181 0, .ref 12, .none, .none, .none, .none, .int 185 0, .int 1 0, .str (Str.ofString "/claim/cut.py") 186] }
noncomputable def o14 (P : Params) : Obj := { cls := .type "frame", slots := #[Option.some (.ref 13), Option.some (.ref 3), Option.some (.ref 3), Option.none, Option.some (.str (Str.ofString "__main__") 164), Option.none, Option.some (.ref 0)] }
noncomputable def o3 (P : Params) : Obj := { cls := .type "dict", data := .dict #[{ hash := PyData.keyHash P (Str.ofString "__name__"), key := .str (Str.ofString "__name__") 165, val := .str (Str.ofString "evenroads.errors") 194 }, { hash := PyData.keyHash P (Str.ofString "__doc__"), key := .str (Str.ofString "__doc__") 166, val := .none }, { hash := PyData.keyHash P (Str.ofString "__package__"), key := .str (Str.ofString "__package__") 167, val := .none }, { hash := PyData.keyHash P (Str.ofString "__loader__"), key := .str (Str.ofString "__loader__") 168, val := .builtin "__main__.__loader__#opaque" }, { hash := PyData.keyHash P (Str.ofString "__spec__"), key := .str (Str.ofString "__spec__") 169, val := .none }, { hash := PyData.keyHash P (Str.ofString "__annotations__"), key := .str (Str.ofString "__annotations__") 170, val := .ref 6 }, { hash := PyData.keyHash P (Str.ofString "__builtins__"), key := .str (Str.ofString "__builtins__") 171, val := .ref 4 }, { hash := PyData.keyHash P (Str.ofString "__file__"), key := .str (Str.ofString "__file__") 173, val := .str (Str.ofString "/claim/cut.py") 172 }, { hash := PyData.keyHash P (Str.ofString "__cached__"), key := .str (Str.ofString "__cached__") 174, val := .none }, { hash := PyData.keyHash P (Str.ofString "_wall"), key := .str (Str.ofString "_wall") 193, val := .ref 21 }, { hash := PyData.keyHash P (Str.ofString "RoadError"), key := .str (Str.ofString "RoadError") 213, val := .ref 31 }] 11 }
noncomputable def o12v1 (P : Params) : Obj := { cls := .none, data := .fields #[.int 1 0, .int 0 0, .ref 20, .int 5 0, .int 0 0, .ref 27] }
noncomputable def o15 (P : Params) : Obj := { cls := .type "tuple", data := .seq #[] }
noncomputable def o16 (P : Params) : Obj := { cls := .none, data := .fields #[] }
noncomputable def o17 (P : Params) : Obj := { cls := .type "tuple", data := .seq #[.str (Str.ofString "k") 190] }
noncomputable def o18 (P : Params) : Obj := { cls := .type "tuple", data := .seq #[] }
noncomputable def o19 (P : Params) : Obj := { cls := .none, data := .func { name := Str.ofString "_wall", qualname := Str.ofString "_wall", params := sArgs F__wall, body := PySem.FuncBody.stmts (sBody F__wall), scope := sScope F__wall, globals := 0, closure := [], defaults := .none, kwdefaults := .none } }
noncomputable def o20 (P : Params) : Obj := { cls := .type "code", data := .fields #[.str (Str.ofString "_wall") 187, .str (Str.ofString "_wall") 188, .str (Str.ofString "/claim/cut.py") 189, .int 1 0, .int 1 0, .int 0 0, .int 0 0, .int 3 0, .ref 15, .bool Bool.true, .int 181 0, .ref 16, .none, .ref 17, .ref 18, .ref 19, .int 191 0, .int 1 0, .str (Str.ofString "/claim/cut.py") 192] }
noncomputable def o21 (P : Params) : Obj := { cls := .type "function", data := .func { name := Str.ofString "_wall", qualname := Str.ofString "_wall", params := sArgs F__wall, body := PySem.FuncBody.stmts (sBody F__wall), scope := sScope F__wall, globals := 3, closure := [], defaults := .none, kwdefaults := .none, pyModule := .str (Str.ofString "__main__") 164, code := .ref 20 } }
noncomputable def o22 (P : Params) : Obj := { cls := .type "tuple", data := .seq #[.type "ValueError"] }
noncomputable def o23 (P : Params) : Obj := { cls := .type "builtin_function_or_method", data := .fields #[.builtin "type.__prepare__", .type "type"] }
noncomputable def o24 (P : Params) : Obj := { cls := .type "dict", data := .dict #[{ hash := PyData.keyHash P (Str.ofString "__module__"), key := .str (Str.ofString "__module__") 203, val := .str (Str.ofString "evenroads.errors") 194 }, { hash := PyData.keyHash P (Str.ofString "__qualname__"), key := .str (Str.ofString "__qualname__") 205, val := .str (Str.ofString "RoadError") 204 }, { hash := PyData.keyHash P (Str.ofString "__firstlineno__"), key := .str (Str.ofString "__firstlineno__") 207, val := .int 5 206 }, { hash := PyData.keyHash P (Str.ofString "__static_attributes__"), key := .str (Str.ofString "__static_attributes__") 208, val := .ref 29 }] 4 }
noncomputable def o25 (P : Params) : Obj := { cls := .type "tuple", data := .seq #[] }
noncomputable def o26 (P : Params) : Obj := { cls := .none, data := .fields #[] }
noncomputable def o27 (P : Params) : Obj := { cls := .type "code", data := .fields #[.str (Str.ofString "RoadError") 198, .str (Str.ofString "RoadError") 199, .str (Str.ofString "/claim/cut.py") 200, .int 5 0, .int 0 0, .int 0 0, .int 0 0, .int 0 0, .ref 25, .bool Bool.false, .int 181 0, .ref 26, .none, .none, .none, .none, .int 201 0, .int 5 0, .str (Str.ofString "/claim/cut.py") 202] }
noncomputable def o28 (P : Params) : Obj := { cls := .type "frame", slots := #[Option.some (.ref 27), Option.some (.ref 3), Option.some (.ref 24), Option.none, Option.some (.str (Str.ofString "evenroads.errors") 194), Option.none, Option.some (.ref 0)] }
noncomputable def o29 (P : Params) : Obj := { cls := .type "tuple", data := .seq #[] }
noncomputable def o30 (P : Params) : Obj := { cls := .type "dict", data := .dict #[{ hash := PyData.keyHash P (Str.ofString "__module__"), key := .str (Str.ofString "__module__") 203, val := .str (Str.ofString "evenroads.errors") 194 }, { hash := PyData.keyHash P (Str.ofString "__firstlineno__"), key := .str (Str.ofString "__firstlineno__") 207, val := .int 5 206 }, { hash := PyData.keyHash P (Str.ofString "__static_attributes__"), key := .str (Str.ofString "__static_attributes__") 208, val := .ref 29 }, { hash := PyData.keyHash P (Str.ofString "__weakref__"), key := .str (Str.ofString "__weakref__") 210, val := .ref 32 }, { hash := PyData.keyHash P (Str.ofString "__doc__"), key := .str (Str.ofString "__doc__") 211, val := .none }] 3 }
noncomputable def o31 (P : Params) : Obj := { cls := .type "type", data := .cls { name := Str.ofString "RoadError", bases := [.type "ValueError"], mro := [.ref 31, .type "ValueError", .type "Exception", .type "BaseException", .type "object"], ns := 30, qualname := Str.ofString "RoadError" }, slots := #[Option.some (.ref 22), Option.none, Option.some (.str (Str.ofString "RoadError") 196), Option.some (.str (Str.ofString "RoadError") 204), Option.some (.builtin "ValueError.__new__"), Option.some (.bool Bool.true)] }
noncomputable def o32 (P : Params) : Obj := { cls := .type "getset_descriptor", data := .fields #[.str (Str.ofString "__weakref__") 209, .ref 31, .builtin "ExceptionGroup.__weakref__", .none] }
noncomputable def o33 (P : Params) : Obj := { cls := .type "super", data := .fields #[.ref 31, .ref 31, .ref 31] }
noncomputable def o34 (P : Params) : Obj := { cls := .type "builtin_function_or_method", data := .fields #[.builtin "object.__init_subclass__", .ref 31] }
noncomputable def o3v1 (P : Params) : Obj := { cls := .type "dict", data := .dict #[{ hash := PyData.keyHash P (Str.ofString "__name__"), key := .str (Str.ofString "__name__") 165, val := .str (Str.ofString "evenroads.errors") 194 }, { hash := PyData.keyHash P (Str.ofString "__doc__"), key := .str (Str.ofString "__doc__") 166, val := .none }, { hash := PyData.keyHash P (Str.ofString "__package__"), key := .str (Str.ofString "__package__") 167, val := .none }, { hash := PyData.keyHash P (Str.ofString "__loader__"), key := .str (Str.ofString "__loader__") 168, val := .builtin "__main__.__loader__#opaque" }, { hash := PyData.keyHash P (Str.ofString "__spec__"), key := .str (Str.ofString "__spec__") 169, val := .none }, { hash := PyData.keyHash P (Str.ofString "__annotations__"), key := .str (Str.ofString "__annotations__") 170, val := .ref 6 }, { hash := PyData.keyHash P (Str.ofString "__builtins__"), key := .str (Str.ofString "__builtins__") 171, val := .ref 4 }, { hash := PyData.keyHash P (Str.ofString "__file__"), key := .str (Str.ofString "__file__") 173, val := .str (Str.ofString "/claim/cut.py") 172 }, { hash := PyData.keyHash P (Str.ofString "__cached__"), key := .str (Str.ofString "__cached__") 174, val := .none }, { hash := PyData.keyHash P (Str.ofString "_wall"), key := .str (Str.ofString "_wall") 193, val := .ref 21 }, { hash := PyData.keyHash P (Str.ofString "RoadError"), key := .str (Str.ofString "RoadError") 213, val := .ref 31 }, { hash := PyData.keyHash P (Str.ofString "NoBoard"), key := .str (Str.ofString "NoBoard") 229, val := .ref 44 }] 12 }
noncomputable def o12v2 (P : Params) : Obj := { cls := .none, data := .fields #[.int 1 0, .int 0 0, .ref 20, .int 5 0, .int 0 0, .ref 27, .int 7 0, .int 0 0, .ref 40] }
noncomputable def o31v1 (P : Params) : Obj := { cls := .type "type", data := .cls { name := Str.ofString "RoadError", bases := [.type "ValueError"], mro := [.ref 31, .type "ValueError", .type "Exception", .type "BaseException", .type "object"], ns := 30, qualname := Str.ofString "RoadError", subclasses := [.ref 44] }, slots := #[Option.some (.ref 22), Option.none, Option.some (.str (Str.ofString "RoadError") 196), Option.some (.str (Str.ofString "RoadError") 204), Option.some (.builtin "ValueError.__new__"), Option.some (.bool Bool.true)] }
noncomputable def o35 (P : Params) : Obj := { cls := .type "tuple", data := .seq #[.ref 31] }
noncomputable def o36 (P : Params) : Obj := { cls := .type "builtin_function_or_method", data := .fields #[.builtin "type.__prepare__", .type "type"] }
noncomputable def o37 (P : Params) : Obj := { cls := .type "dict", data := .dict #[{ hash := PyData.keyHash P (Str.ofString "__module__"), key := .str (Str.ofString "__module__") 221, val := .str (Str.ofString "evenroads.errors") 194 }, { hash := PyData.keyHash P (Str.ofString "__qualname__"), key := .str (Str.ofString "__qualname__") 223, val := .str (Str.ofString "NoBoard") 222 }, { hash := PyData.keyHash P (Str.ofString "__firstlineno__"), key := .str (Str.ofString "__firstlineno__") 225, val := .int 7 224 }, { hash := PyData.keyHash P (Str.ofString "__static_attributes__"), key := .str (Str.ofString "__static_attributes__") 226, val := .ref 42 }] 4 }
noncomputable def o38 (P : Params) : Obj := { cls := .type "tuple", data := .seq #[] }
noncomputable def o39 (P : Params) : Obj := { cls := .none, data := .fields #[] }
noncomputable def o40 (P : Params) : Obj := { cls := .type "code", data := .fields #[.str (Str.ofString "NoBoard") 216, .str (Str.ofString "NoBoard") 217, .str (Str.ofString "/claim/cut.py") 218, .int 7 0, .int 0 0, .int 0 0, .int 0 0, .int 0 0, .ref 38, .bool Bool.false, .int 181 0, .ref 39, .none, .none, .none, .none, .int 219 0, .int 7 0, .str (Str.ofString "/claim/cut.py") 220] }
noncomputable def o41 (P : Params) : Obj := { cls := .type "frame", slots := #[Option.some (.ref 40), Option.some (.ref 3), Option.some (.ref 37), Option.none, Option.some (.str (Str.ofString "evenroads.errors") 194), Option.none, Option.some (.ref 0)] }
noncomputable def o42 (P : Params) : Obj := { cls := .type "tuple", data := .seq #[] }
noncomputable def o43 (P : Params) : Obj := { cls := .type "dict", data := .dict #[{ hash := PyData.keyHash P (Str.ofString "__module__"), key := .str (Str.ofString "__module__") 221, val := .str (Str.ofString "evenroads.errors") 194 }, { hash := PyData.keyHash P (Str.ofString "__firstlineno__"), key := .str (Str.ofString "__firstlineno__") 225, val := .int 7 224 }, { hash := PyData.keyHash P (Str.ofString "__static_attributes__"), key := .str (Str.ofString "__static_attributes__") 226, val := .ref 42 }, { hash := PyData.keyHash P (Str.ofString "__doc__"), key := .str (Str.ofString "__doc__") 227, val := .none }] 2 }
noncomputable def o44 (P : Params) : Obj := { cls := .type "type", data := .cls { name := Str.ofString "NoBoard", bases := [.ref 31], mro := [.ref 44, .ref 31, .type "ValueError", .type "Exception", .type "BaseException", .type "object"], ns := 43, qualname := Str.ofString "NoBoard" }, slots := #[Option.some (.ref 35), Option.none, Option.some (.str (Str.ofString "NoBoard") 214), Option.some (.str (Str.ofString "NoBoard") 222), Option.some (.builtin "ValueError.__new__"), Option.some (.bool Bool.true)] }
noncomputable def o45 (P : Params) : Obj := { cls := .type "super", data := .fields #[.ref 44, .ref 44, .ref 44] }
noncomputable def o46 (P : Params) : Obj := { cls := .type "builtin_function_or_method", data := .fields #[.builtin "object.__init_subclass__", .ref 44] }
noncomputable def o3v2 (P : Params) : Obj := { cls := .type "dict", data := .dict #[{ hash := PyData.keyHash P (Str.ofString "__name__"), key := .str (Str.ofString "__name__") 165, val := .str (Str.ofString "evenroads.errors") 194 }, { hash := PyData.keyHash P (Str.ofString "__doc__"), key := .str (Str.ofString "__doc__") 166, val := .none }, { hash := PyData.keyHash P (Str.ofString "__package__"), key := .str (Str.ofString "__package__") 167, val := .none }, { hash := PyData.keyHash P (Str.ofString "__loader__"), key := .str (Str.ofString "__loader__") 168, val := .builtin "__main__.__loader__#opaque" }, { hash := PyData.keyHash P (Str.ofString "__spec__"), key := .str (Str.ofString "__spec__") 169, val := .none }, { hash := PyData.keyHash P (Str.ofString "__annotations__"), key := .str (Str.ofString "__annotations__") 170, val := .ref 6 }, { hash := PyData.keyHash P (Str.ofString "__builtins__"), key := .str (Str.ofString "__builtins__") 171, val := .ref 4 }, { hash := PyData.keyHash P (Str.ofString "__file__"), key := .str (Str.ofString "__file__") 173, val := .str (Str.ofString "/claim/cut.py") 172 }, { hash := PyData.keyHash P (Str.ofString "__cached__"), key := .str (Str.ofString "__cached__") 174, val := .none }, { hash := PyData.keyHash P (Str.ofString "_wall"), key := .str (Str.ofString "_wall") 193, val := .ref 21 }, { hash := PyData.keyHash P (Str.ofString "RoadError"), key := .str (Str.ofString "RoadError") 213, val := .ref 31 }, { hash := PyData.keyHash P (Str.ofString "NoBoard"), key := .str (Str.ofString "NoBoard") 229, val := .ref 44 }, { hash := PyData.keyHash P (Str.ofString "NoPlace"), key := .str (Str.ofString "NoPlace") 245, val := .ref 56 }] 13 }
noncomputable def o12v3 (P : Params) : Obj := { cls := .none, data := .fields #[.int 1 0, .int 0 0, .ref 20, .int 5 0, .int 0 0, .ref 27, .int 7 0, .int 0 0, .ref 40, .int 9 0, .int 0 0, .ref 52] }
noncomputable def o31v2 (P : Params) : Obj := { cls := .type "type", data := .cls { name := Str.ofString "RoadError", bases := [.type "ValueError"], mro := [.ref 31, .type "ValueError", .type "Exception", .type "BaseException", .type "object"], ns := 30, qualname := Str.ofString "RoadError", subclasses := [.ref 44, .ref 56] }, slots := #[Option.some (.ref 22), Option.none, Option.some (.str (Str.ofString "RoadError") 196), Option.some (.str (Str.ofString "RoadError") 204), Option.some (.builtin "ValueError.__new__"), Option.some (.bool Bool.true)] }
noncomputable def o47 (P : Params) : Obj := { cls := .type "tuple", data := .seq #[.ref 31] }
noncomputable def o48 (P : Params) : Obj := { cls := .type "builtin_function_or_method", data := .fields #[.builtin "type.__prepare__", .type "type"] }
noncomputable def o49 (P : Params) : Obj := { cls := .type "dict", data := .dict #[{ hash := PyData.keyHash P (Str.ofString "__module__"), key := .str (Str.ofString "__module__") 237, val := .str (Str.ofString "evenroads.errors") 194 }, { hash := PyData.keyHash P (Str.ofString "__qualname__"), key := .str (Str.ofString "__qualname__") 239, val := .str (Str.ofString "NoPlace") 238 }, { hash := PyData.keyHash P (Str.ofString "__firstlineno__"), key := .str (Str.ofString "__firstlineno__") 241, val := .int 9 240 }, { hash := PyData.keyHash P (Str.ofString "__static_attributes__"), key := .str (Str.ofString "__static_attributes__") 242, val := .ref 54 }] 4 }
noncomputable def o50 (P : Params) : Obj := { cls := .type "tuple", data := .seq #[] }
noncomputable def o51 (P : Params) : Obj := { cls := .none, data := .fields #[] }
noncomputable def o52 (P : Params) : Obj := { cls := .type "code", data := .fields #[.str (Str.ofString "NoPlace") 232, .str (Str.ofString "NoPlace") 233, .str (Str.ofString "/claim/cut.py") 234, .int 9 0, .int 0 0, .int 0 0, .int 0 0, .int 0 0, .ref 50, .bool Bool.false, .int 181 0, .ref 51, .none, .none, .none, .none, .int 235 0, .int 9 0, .str (Str.ofString "/claim/cut.py") 236] }
noncomputable def o53 (P : Params) : Obj := { cls := .type "frame", slots := #[Option.some (.ref 52), Option.some (.ref 3), Option.some (.ref 49), Option.none, Option.some (.str (Str.ofString "evenroads.errors") 194), Option.none, Option.some (.ref 0)] }
noncomputable def o54 (P : Params) : Obj := { cls := .type "tuple", data := .seq #[] }
noncomputable def o55 (P : Params) : Obj := { cls := .type "dict", data := .dict #[{ hash := PyData.keyHash P (Str.ofString "__module__"), key := .str (Str.ofString "__module__") 237, val := .str (Str.ofString "evenroads.errors") 194 }, { hash := PyData.keyHash P (Str.ofString "__firstlineno__"), key := .str (Str.ofString "__firstlineno__") 241, val := .int 9 240 }, { hash := PyData.keyHash P (Str.ofString "__static_attributes__"), key := .str (Str.ofString "__static_attributes__") 242, val := .ref 54 }, { hash := PyData.keyHash P (Str.ofString "__doc__"), key := .str (Str.ofString "__doc__") 243, val := .none }] 2 }
noncomputable def o56 (P : Params) : Obj := { cls := .type "type", data := .cls { name := Str.ofString "NoPlace", bases := [.ref 31], mro := [.ref 56, .ref 31, .type "ValueError", .type "Exception", .type "BaseException", .type "object"], ns := 55, qualname := Str.ofString "NoPlace" }, slots := #[Option.some (.ref 47), Option.none, Option.some (.str (Str.ofString "NoPlace") 230), Option.some (.str (Str.ofString "NoPlace") 238), Option.some (.builtin "ValueError.__new__"), Option.some (.bool Bool.true)] }
noncomputable def o57 (P : Params) : Obj := { cls := .type "super", data := .fields #[.ref 56, .ref 56, .ref 56] }
noncomputable def o58 (P : Params) : Obj := { cls := .type "builtin_function_or_method", data := .fields #[.builtin "object.__init_subclass__", .ref 56] }
noncomputable def o3v3 (P : Params) : Obj := { cls := .type "dict", data := .dict #[{ hash := PyData.keyHash P (Str.ofString "__name__"), key := .str (Str.ofString "__name__") 165, val := .str (Str.ofString "evenroads.errors") 194 }, { hash := PyData.keyHash P (Str.ofString "__doc__"), key := .str (Str.ofString "__doc__") 166, val := .none }, { hash := PyData.keyHash P (Str.ofString "__package__"), key := .str (Str.ofString "__package__") 167, val := .none }, { hash := PyData.keyHash P (Str.ofString "__loader__"), key := .str (Str.ofString "__loader__") 168, val := .builtin "__main__.__loader__#opaque" }, { hash := PyData.keyHash P (Str.ofString "__spec__"), key := .str (Str.ofString "__spec__") 169, val := .none }, { hash := PyData.keyHash P (Str.ofString "__annotations__"), key := .str (Str.ofString "__annotations__") 170, val := .ref 6 }, { hash := PyData.keyHash P (Str.ofString "__builtins__"), key := .str (Str.ofString "__builtins__") 171, val := .ref 4 }, { hash := PyData.keyHash P (Str.ofString "__file__"), key := .str (Str.ofString "__file__") 173, val := .str (Str.ofString "/claim/cut.py") 172 }, { hash := PyData.keyHash P (Str.ofString "__cached__"), key := .str (Str.ofString "__cached__") 174, val := .none }, { hash := PyData.keyHash P (Str.ofString "_wall"), key := .str (Str.ofString "_wall") 193, val := .ref 21 }, { hash := PyData.keyHash P (Str.ofString "RoadError"), key := .str (Str.ofString "RoadError") 213, val := .ref 31 }, { hash := PyData.keyHash P (Str.ofString "NoBoard"), key := .str (Str.ofString "NoBoard") 229, val := .ref 44 }, { hash := PyData.keyHash P (Str.ofString "NoPlace"), key := .str (Str.ofString "NoPlace") 245, val := .ref 56 }, { hash := PyData.keyHash P (Str.ofString "NoWay"), key := .str (Str.ofString "NoWay") 261, val := .ref 68 }] 14 }
noncomputable def o12v4 (P : Params) : Obj := { cls := .none, data := .fields #[.int 1 0, .int 0 0, .ref 20, .int 5 0, .int 0 0, .ref 27, .int 7 0, .int 0 0, .ref 40, .int 9 0, .int 0 0, .ref 52, .int 11 0, .int 0 0, .ref 64] }
noncomputable def o31v3 (P : Params) : Obj := { cls := .type "type", data := .cls { name := Str.ofString "RoadError", bases := [.type "ValueError"], mro := [.ref 31, .type "ValueError", .type "Exception", .type "BaseException", .type "object"], ns := 30, qualname := Str.ofString "RoadError", subclasses := [.ref 44, .ref 56, .ref 68] }, slots := #[Option.some (.ref 22), Option.none, Option.some (.str (Str.ofString "RoadError") 196), Option.some (.str (Str.ofString "RoadError") 204), Option.some (.builtin "ValueError.__new__"), Option.some (.bool Bool.true)] }
noncomputable def o59 (P : Params) : Obj := { cls := .type "tuple", data := .seq #[.ref 31] }
noncomputable def o60 (P : Params) : Obj := { cls := .type "builtin_function_or_method", data := .fields #[.builtin "type.__prepare__", .type "type"] }
noncomputable def o61 (P : Params) : Obj := { cls := .type "dict", data := .dict #[{ hash := PyData.keyHash P (Str.ofString "__module__"), key := .str (Str.ofString "__module__") 253, val := .str (Str.ofString "evenroads.errors") 194 }, { hash := PyData.keyHash P (Str.ofString "__qualname__"), key := .str (Str.ofString "__qualname__") 255, val := .str (Str.ofString "NoWay") 254 }, { hash := PyData.keyHash P (Str.ofString "__firstlineno__"), key := .str (Str.ofString "__firstlineno__") 257, val := .int 11 256 }, { hash := PyData.keyHash P (Str.ofString "__static_attributes__"), key := .str (Str.ofString "__static_attributes__") 258, val := .ref 66 }] 4 }
noncomputable def o62 (P : Params) : Obj := { cls := .type "tuple", data := .seq #[] }
noncomputable def o63 (P : Params) : Obj := { cls := .none, data := .fields #[] }
noncomputable def o64 (P : Params) : Obj := { cls := .type "code", data := .fields #[.str (Str.ofString "NoWay") 248, .str (Str.ofString "NoWay") 249, .str (Str.ofString "/claim/cut.py") 250, .int 11 0, .int 0 0, .int 0 0, .int 0 0, .int 0 0, .ref 62, .bool Bool.false, .int 181 0, .ref 63, .none, .none, .none, .none, .int 251 0, .int 11 0, .str (Str.ofString "/claim/cut.py") 252] }
noncomputable def o65 (P : Params) : Obj := { cls := .type "frame", slots := #[Option.some (.ref 64), Option.some (.ref 3), Option.some (.ref 61), Option.none, Option.some (.str (Str.ofString "evenroads.errors") 194), Option.none, Option.some (.ref 0)] }
noncomputable def o66 (P : Params) : Obj := { cls := .type "tuple", data := .seq #[] }
noncomputable def o67 (P : Params) : Obj := { cls := .type "dict", data := .dict #[{ hash := PyData.keyHash P (Str.ofString "__module__"), key := .str (Str.ofString "__module__") 253, val := .str (Str.ofString "evenroads.errors") 194 }, { hash := PyData.keyHash P (Str.ofString "__firstlineno__"), key := .str (Str.ofString "__firstlineno__") 257, val := .int 11 256 }, { hash := PyData.keyHash P (Str.ofString "__static_attributes__"), key := .str (Str.ofString "__static_attributes__") 258, val := .ref 66 }, { hash := PyData.keyHash P (Str.ofString "__doc__"), key := .str (Str.ofString "__doc__") 259, val := .none }] 2 }
noncomputable def o68 (P : Params) : Obj := { cls := .type "type", data := .cls { name := Str.ofString "NoWay", bases := [.ref 31], mro := [.ref 68, .ref 31, .type "ValueError", .type "Exception", .type "BaseException", .type "object"], ns := 67, qualname := Str.ofString "NoWay" }, slots := #[Option.some (.ref 59), Option.none, Option.some (.str (Str.ofString "NoWay") 246), Option.some (.str (Str.ofString "NoWay") 254), Option.some (.builtin "ValueError.__new__"), Option.some (.bool Bool.true)] }
noncomputable def o69 (P : Params) : Obj := { cls := .type "super", data := .fields #[.ref 68, .ref 68, .ref 68] }
noncomputable def o70 (P : Params) : Obj := { cls := .type "builtin_function_or_method", data := .fields #[.builtin "object.__init_subclass__", .ref 68] }
noncomputable def o3v4 (P : Params) : Obj := { cls := .type "dict", data := .dict #[{ hash := PyData.keyHash P (Str.ofString "__name__"), key := .str (Str.ofString "__name__") 165, val := .str (Str.ofString "evenroads.board") 278 }, { hash := PyData.keyHash P (Str.ofString "__doc__"), key := .str (Str.ofString "__doc__") 166, val := .none }, { hash := PyData.keyHash P (Str.ofString "__package__"), key := .str (Str.ofString "__package__") 167, val := .none }, { hash := PyData.keyHash P (Str.ofString "__loader__"), key := .str (Str.ofString "__loader__") 168, val := .builtin "__main__.__loader__#opaque" }, { hash := PyData.keyHash P (Str.ofString "__spec__"), key := .str (Str.ofString "__spec__") 169, val := .none }, { hash := PyData.keyHash P (Str.ofString "__annotations__"), key := .str (Str.ofString "__annotations__") 170, val := .ref 6 }, { hash := PyData.keyHash P (Str.ofString "__builtins__"), key := .str (Str.ofString "__builtins__") 171, val := .ref 4 }, { hash := PyData.keyHash P (Str.ofString "__file__"), key := .str (Str.ofString "__file__") 173, val := .str (Str.ofString "/claim/cut.py") 172 }, { hash := PyData.keyHash P (Str.ofString "__cached__"), key := .str (Str.ofString "__cached__") 174, val := .none }, { hash := PyData.keyHash P (Str.ofString "_wall"), key := .str (Str.ofString "_wall") 193, val := .ref 21 }, { hash := PyData.keyHash P (Str.ofString "RoadError"), key := .str (Str.ofString "RoadError") 213, val := .ref 31 }, { hash := PyData.keyHash P (Str.ofString "NoBoard"), key := .str (Str.ofString "NoBoard") 229, val := .ref 44 }, { hash := PyData.keyHash P (Str.ofString "NoPlace"), key := .str (Str.ofString "NoPlace") 245, val := .ref 56 }, { hash := PyData.keyHash P (Str.ofString "NoWay"), key := .str (Str.ofString "NoWay") 261, val := .ref 68 }, { hash := PyData.keyHash P (Str.ofString "NoNote"), key := .str (Str.ofString "NoNote") 277, val := .ref 80 }, { hash := PyData.keyHash P (Str.ofString "MOST_PLACES"), key := .str (Str.ofString "MOST_PLACES") 281, val := .int 60 280 }, { hash := PyData.keyHash P (Str.ofString "MOST_MARK"), key := .str (Str.ofString "MOST_MARK") 283, val := .int 999 282 }, { hash := PyData.keyHash P (Str.ofString "is_whole"), key := .str (Str.ofString "is_whole") 291, val := .ref 89 }, { hash := PyData.keyHash P (Str.ofString "need_roads"), key := .str (Str.ofString "need_roads") 301, val := .ref 96 }, { hash := PyData.keyHash P (Str.ofString "need_board"), key := .str (Str.ofString "need_board") 313, val := .ref 103 }] 20 }
noncomputable def o12v5 (P : Params) : Obj := { cls := .none, data := .fields #[.int 1 0, .int 0 0, .ref 20, .int 5 0, .int 0 0, .ref 27, .int 7 0, .int 0 0, .ref 40, .int 9 0, .int 0 0, .ref 52, .int 11 0, .int 0 0, .ref 64, .int 13 0, .int 0 0, .ref 76, .int 18 0, .int 0 0, .ref 88, .int 20 0, .int 0 0, .ref 95, .int 28 0, .int 0 0, .ref 102] }
noncomputable def o31v4 (P : Params) : Obj := { cls := .type "type", data := .cls { name := Str.ofString "RoadError", bases := [.type "ValueError"], mro := [.ref 31, .type "ValueError", .type "Exception", .type "BaseException", .type "object"], ns := 30, qualname := Str.ofString "RoadError", subclasses := [.ref 44, .ref 56, .ref 68, .ref 80] }, slots := #[Option.some (.ref 22), Option.none, Option.some (.str (Str.ofString "RoadError") 196), Option.some (.str (Str.ofString "RoadError") 204), Option.some (.builtin "ValueError.__new__"), Option.some (.bool Bool.true)] }
noncomputable def o71 (P : Params) : Obj := { cls := .type "tuple", data := .seq #[.ref 31] }
noncomputable def o72 (P : Params) : Obj := { cls := .type "builtin_function_or_method", data := .fields #[.builtin "type.__prepare__", .type "type"] }
noncomputable def o73 (P : Params) : Obj := { cls := .type "dict", data := .dict #[{ hash := PyData.keyHash P (Str.ofString "__module__"), key := .str (Str.ofString "__module__") 269, val := .str (Str.ofString "evenroads.errors") 194 }, { hash := PyData.keyHash P (Str.ofString "__qualname__"), key := .str (Str.ofString "__qualname__") 271, val := .str (Str.ofString "NoNote") 270 }, { hash := PyData.keyHash P (Str.ofString "__firstlineno__"), key := .str (Str.ofString "__firstlineno__") 273, val := .int 13 272 }, { hash := PyData.keyHash P (Str.ofString "__static_attributes__"), key := .str (Str.ofString "__static_attributes__") 274, val := .ref 78 }] 4 }
noncomputable def o74 (P : Params) : Obj := { cls := .type "tuple", data := .seq #[] }
noncomputable def o75 (P : Params) : Obj := { cls := .none, data := .fields #[] }
noncomputable def o76 (P : Params) : Obj := { cls := .type "code", data := .fields #[.str (Str.ofString "NoNote") 264, .str (Str.ofString "NoNote") 265, .str (Str.ofString "/claim/cut.py") 266, .int 13 0, .int 0 0, .int 0 0, .int 0 0, .int 0 0, .ref 74, .bool Bool.false, .int 181 0, .ref 75, .none, .none, .none, .none, .int 267 0, .int 13 0, .str (Str.ofString "/claim/cut.py") 268] }
noncomputable def o77 (P : Params) : Obj := { cls := .type "frame", slots := #[Option.some (.ref 76), Option.some (.ref 3), Option.some (.ref 73), Option.none, Option.some (.str (Str.ofString "evenroads.errors") 194), Option.none, Option.some (.ref 0)] }
noncomputable def o78 (P : Params) : Obj := { cls := .type "tuple", data := .seq #[] }
noncomputable def o79 (P : Params) : Obj := { cls := .type "dict", data := .dict #[{ hash := PyData.keyHash P (Str.ofString "__module__"), key := .str (Str.ofString "__module__") 269, val := .str (Str.ofString "evenroads.errors") 194 }, { hash := PyData.keyHash P (Str.ofString "__firstlineno__"), key := .str (Str.ofString "__firstlineno__") 273, val := .int 13 272 }, { hash := PyData.keyHash P (Str.ofString "__static_attributes__"), key := .str (Str.ofString "__static_attributes__") 274, val := .ref 78 }, { hash := PyData.keyHash P (Str.ofString "__doc__"), key := .str (Str.ofString "__doc__") 275, val := .none }] 2 }
noncomputable def o80 (P : Params) : Obj := { cls := .type "type", data := .cls { name := Str.ofString "NoNote", bases := [.ref 31], mro := [.ref 80, .ref 31, .type "ValueError", .type "Exception", .type "BaseException", .type "object"], ns := 79, qualname := Str.ofString "NoNote" }, slots := #[Option.some (.ref 71), Option.none, Option.some (.str (Str.ofString "NoNote") 262), Option.some (.str (Str.ofString "NoNote") 270), Option.some (.builtin "ValueError.__new__"), Option.some (.bool Bool.true)] }
noncomputable def o81 (P : Params) : Obj := { cls := .type "super", data := .fields #[.ref 80, .ref 80, .ref 80] }
noncomputable def o82 (P : Params) : Obj := { cls := .type "builtin_function_or_method", data := .fields #[.builtin "object.__init_subclass__", .ref 80] }
noncomputable def o83 (P : Params) : Obj := { cls := .type "tuple", data := .seq #[] }
noncomputable def o84 (P : Params) : Obj := { cls := .none, data := .fields #[] }
noncomputable def o85 (P : Params) : Obj := { cls := .type "tuple", data := .seq #[.str (Str.ofString "thing") 287, .str (Str.ofString "most") 288] }
noncomputable def o86 (P : Params) : Obj := { cls := .type "tuple", data := .seq #[] }
noncomputable def o87 (P : Params) : Obj := { cls := .none, data := .func { name := Str.ofString "is_whole", qualname := Str.ofString "is_whole", params := sArgs F_is_whole, body := PySem.FuncBody.stmts (sBody F_is_whole), scope := sScope F_is_whole, globals := 0, closure := [], defaults := .none, kwdefaults := .none } }
noncomputable def o88 (P : Params) : Obj := { cls := .type "code", data := .fields #[.str (Str.ofString "is_whole") 284, .str (Str.ofString "is_whole") 285, .str (Str.ofString "/claim/cut.py") 286, .int 18 0, .int 2 0, .int 0 0, .int 0 0, .int 3 0, .ref 83, .bool Bool.true, .int 181 0, .ref 84, .none, .ref 85, .ref 86, .ref 87, .int 289 0, .int 18 0, .str (Str.ofString "/claim/cut.py") 290] }
noncomputable def o89 (P : Params) : Obj := { cls := .type "function", data := .func { name := Str.ofString "is_whole", qualname := Str.ofString "is_whole", params := sArgs F_is_whole, body := PySem.FuncBody.stmts (sBody F_is_whole), scope := sScope F_is_whole, globals := 3, closure := [], defaults := .none, kwdefaults := .none, pyModule := .str (Str.ofString "evenroads.board") 278, code := .ref 88 } }
noncomputable def o90 (P : Params) : Obj := { cls := .type "tuple", data := .seq #[] }
noncomputable def o91 (P : Params) : Obj := { cls := .none, data := .fields #[] }
noncomputable def o92 (P : Params) : Obj := { cls := .type "tuple", data := .seq #[.str (Str.ofString "roads") 295, .str (Str.ofString "many") 296, .str (Str.ofString "seen") 297, .str (Str.ofString "road") 298] }
noncomputable def o93 (P : Params) : Obj := { cls := .type "tuple", data := .seq #[] }
noncomputable def o94 (P : Params) : Obj := { cls := .none, data := .func { name := Str.ofString "need_roads", qualname := Str.ofString "need_roads", params := sArgs F_need_roads, body := PySem.FuncBody.stmts (sBody F_need_roads), scope := sScope F_need_roads, globals := 0, closure := [], defaults := .none, kwdefaults := .none } }
noncomputable def o95 (P : Params) : Obj := { cls := .type "code", data := .fields #[.str (Str.ofString "need_roads") 292, .str (Str.ofString "need_roads") 293, .str (Str.ofString "/claim/cut.py") 294, .int 20 0, .int 2 0, .int 0 0, .int 0 0, .int 3 0, .ref 90, .bool Bool.true, .int 181 0, .ref 91, .none, .ref 92, .ref 93, .ref 94, .int 299 0, .int 20 0, .str (Str.ofString "/claim/cut.py") 300] }
noncomputable def o96 (P : Params) : Obj := { cls := .type "function", data := .func { name := Str.ofString "need_roads", qualname := Str.ofString "need_roads", params := sArgs F_need_roads, body := PySem.FuncBody.stmts (sBody F_need_roads), scope := sScope F_need_roads, globals := 3, closure := [], defaults := .none, kwdefaults := .none, pyModule := .str (Str.ofString "evenroads.board") 278, code := .ref 95 } }
noncomputable def o97 (P : Params) : Obj := { cls := .type "tuple", data := .seq #[] }
noncomputable def o98 (P : Params) : Obj := { cls := .none, data := .fields #[] }
noncomputable def o99 (P : Params) : Obj := { cls := .type "tuple", data := .seq #[.str (Str.ofString "owners") 305, .str (Str.ofString "marks") 306, .str (Str.ofString "roads") 307, .str (Str.ofString "owner") 308, .str (Str.ofString "mark") 309, .str (Str.ofString "some") 310] }
noncomputable def o100 (P : Params) : Obj := { cls := .type "tuple", data := .seq #[] }
noncomputable def o101 (P : Params) : Obj := { cls := .none, data := .func { name := Str.ofString "need_board", qualname := Str.ofString "need_board", params := sArgs F_need_board, body := PySem.FuncBody.stmts (sBody F_need_board), scope := sScope F_need_board, globals := 0, closure := [], defaults := .none, kwdefaults := .none } }
noncomputable def o102 (P : Params) : Obj := { cls := .type "code", data := .fields #[.str (Str.ofString "need_board") 302, .str (Str.ofString "need_board") 303, .str (Str.ofString "/claim/cut.py") 304, .int 28 0, .int 3 0, .int 0 0, .int 0 0, .int 3 0, .ref 97, .bool Bool.true, .int 181 0, .ref 98, .none, .ref 99, .ref 100, .ref 101, .int 311 0, .int 28 0, .str (Str.ofString "/claim/cut.py") 312] }
noncomputable def o103 (P : Params) : Obj := { cls := .type "function", data := .func { name := Str.ofString "need_board", qualname := Str.ofString "need_board", params := sArgs F_need_board, body := PySem.FuncBody.stmts (sBody F_need_board), scope := sScope F_need_board, globals := 3, closure := [], defaults := .none, kwdefaults := .none, pyModule := .str (Str.ofString "evenroads.board") 278, code := .ref 102 } }
noncomputable def o3v5 (P : Params) : Obj := { cls := .type "dict", data := .dict #[{ hash := PyData.keyHash P (Str.ofString "__name__"), key := .str (Str.ofString "__name__") 165, val := .str (Str.ofString "evenroads.board") 278 }, { hash := PyData.keyHash P (Str.ofString "__doc__"), key := .str (Str.ofString "__doc__") 166, val := .none }, { hash := PyData.keyHash P (Str.ofString "__package__"), key := .str (Str.ofString "__package__") 167, val := .none }, { hash := PyData.keyHash P (Str.ofString "__loader__"), key := .str (Str.ofString "__loader__") 168, val := .builtin "__main__.__loader__#opaque" }, { hash := PyData.keyHash P (Str.ofString "__spec__"), key := .str (Str.ofString "__spec__") 169, val := .none }, { hash := PyData.keyHash P (Str.ofString "__annotations__"), key := .str (Str.ofString "__annotations__") 170, val := .ref 6 }, { hash := PyData.keyHash P (Str.ofString "__builtins__"), key := .str (Str.ofString "__builtins__") 171, val := .ref 4 }, { hash := PyData.keyHash P (Str.ofString "__file__"), key := .str (Str.ofString "__file__") 173, val := .str (Str.ofString "/claim/cut.py") 172 }, { hash := PyData.keyHash P (Str.ofString "__cached__"), key := .str (Str.ofString "__cached__") 174, val := .none }, { hash := PyData.keyHash P (Str.ofString "_wall"), key := .str (Str.ofString "_wall") 193, val := .ref 21 }, { hash := PyData.keyHash P (Str.ofString "RoadError"), key := .str (Str.ofString "RoadError") 213, val := .ref 31 }, { hash := PyData.keyHash P (Str.ofString "NoBoard"), key := .str (Str.ofString "NoBoard") 229, val := .ref 44 }, { hash := PyData.keyHash P (Str.ofString "NoPlace"), key := .str (Str.ofString "NoPlace") 245, val := .ref 56 }, { hash := PyData.keyHash P (Str.ofString "NoWay"), key := .str (Str.ofString "NoWay") 261, val := .ref 68 }, { hash := PyData.keyHash P (Str.ofString "NoNote"), key := .str (Str.ofString "NoNote") 277, val := .ref 80 }, { hash := PyData.keyHash P (Str.ofString "MOST_PLACES"), key := .str (Str.ofString "MOST_PLACES") 281, val := .int 60 280 }, { hash := PyData.keyHash P (Str.ofString "MOST_MARK"), key := .str (Str.ofString "MOST_MARK") 283, val := .int 999 282 }, { hash := PyData.keyHash P (Str.ofString "is_whole"), key := .str (Str.ofString "is_whole") 291, val := .ref 89 }, { hash := PyData.keyHash P (Str.ofString "need_roads"), key := .str (Str.ofString "need_roads") 301, val := .ref 96 }, { hash := PyData.keyHash P (Str.ofString "need_board"), key := .str (Str.ofString "need_board") 313, val := .ref 103 }, { hash := PyData.keyHash P (Str.ofString "Board"), key := .str (Str.ofString "Board") 389, val := .ref 160 }] 21 }
noncomputable def o12v6 (P : Params) : Obj := { cls := .none, data := .fields #[.int 1 0, .int 0 0, .ref 20, .int 5 0, .int 0 0, .ref 27, .int 7 0, .int 0 0, .ref 40, .int 9 0, .int 0 0, .ref 52, .int 11 0, .int 0 0, .ref 64, .int 13 0, .int 0 0, .ref 76, .int 18 0, .int 0 0, .ref 88, .int 20 0, .int 0 0, .ref 95, .int 28 0, .int 0 0, .ref 102, .int 41 0, .int 0 0, .ref 109] }
noncomputable def o104 (P : Params) : Obj := { cls := .type "tuple", data := .seq #[] }
noncomputable def o105 (P : Params) : Obj := { cls := .type "builtin_function_or_method", data := .fields #[.builtin "type.__prepare__", .type "type"] }
noncomputable def o106 (P : Params) : Obj := { cls := .type "dict", data := .dict #[{ hash := PyData.keyHash P (Str.ofString "__module__"), key := .str (Str.ofString "__module__") 321, val := .str (Str.ofString "evenroads.board") 278 }, { hash := PyData.keyHash P (Str.ofString "__qualname__"), key := .str (Str.ofString "__qualname__") 323, val := .str (Str.ofString "Board") 322 }, { hash := PyData.keyHash P (Str.ofString "__firstlineno__"), key := .str (Str.ofString "__firstlineno__") 325, val := .int 41 324 }, { hash := PyData.keyHash P (Str.ofString "__init__"), key := .str (Str.ofString "__init__") 331, val := .ref 115 }, { hash := PyData.keyHash P (Str.ofString "many"), key := .str (Str.ofString "many") 338, val := .ref 122 }, { hash := PyData.keyHash P (Str.ofString "need"), key := .str (Str.ofString "need") 346, val := .ref 129 }, { hash := PyData.keyHash P (Str.ofString "owner"), key := .str (Str.ofString "owner") 354, val := .ref 136 }, { hash := PyData.keyHash P (Str.ofString "mark"), key := .str (Str.ofString "mark") 362, val := .ref 143 }, { hash := PyData.keyHash P (Str.ofString "roads"), key := .str (Str.ofString "roads") 370, val := .ref 150 }, { hash := PyData.keyHash P (Str.ofString "sources"), key := .str (Str.ofString "sources") 378, val := .ref 157 }, { hash := PyData.keyHash P (Str.ofString "__static_attributes__"), key := .str (Str.ofString "__static_attributes__") 382, val := .ref 158 }] 11 }
noncomputable def o107 (P : Params) : Obj := { cls := .type "tuple", data := .seq #[] }
noncomputable def o108 (P : Params) : Obj := { cls := .none, data := .fields #[.int 43 0, .int 4 0, .ref 114, .int 49 0, .int 4 0, .ref 121, .int 52 0, .int 4 0, .ref 128, .int 56 0, .int 4 0, .ref 135, .int 60 0, .int 4 0, .ref 142, .int 64 0, .int 4 0, .ref 149, .int 68 0, .int 4 0, .ref 156] }
noncomputable def o109 (P : Params) : Obj := { cls := .type "code", data := .fields #[.str (Str.ofString "Board") 316, .str (Str.ofString "Board") 317, .str (Str.ofString "/claim/cut.py") 318, .int 41 0, .int 0 0, .int 0 0, .int 0 0, .int 0 0, .ref 107, .bool Bool.false, .int 181 0, .ref 108, .none, .none, .none, .none, .int 319 0, .int 41 0, .str (Str.ofString "/claim/cut.py") 320] }
noncomputable def o110 (P : Params) : Obj := { cls := .type "frame", slots := #[Option.some (.ref 109), Option.some (.ref 3), Option.some (.ref 106), Option.none, Option.some (.str (Str.ofString "evenroads.board") 278), Option.none, Option.some (.ref 0)] }
noncomputable def o111 (P : Params) : Obj := { cls := .type "tuple", data := .seq #[] }
noncomputable def o112 (P : Params) : Obj := { cls := .none, data := .fields #[] }
noncomputable def o113 (P : Params) : Obj := { cls := .none, data := .func { name := Str.ofString "__init__", qualname := Str.ofString "Board.__init__", params := sArgs F_Board___init__, body := PySem.FuncBody.stmts (sBody F_Board___init__), scope := sScope F_Board___init__, globals := 0, closure := [], defaults := .none, kwdefaults := .none } }
noncomputable def o114 (P : Params) : Obj := { cls := .type "code", data := .fields #[.str (Str.ofString "__init__") 326, .str (Str.ofString "Board.__init__") 327, .str (Str.ofString "/claim/cut.py") 328, .int 43 0, .int 4 0, .int 0 0, .int 0 0, .int 3 0, .ref 111, .bool Bool.true, .int 181 0, .ref 112, .none, .none, .none, .ref 113, .int 329 0, .int 43 0, .str (Str.ofString "/claim/cut.py") 330] }
noncomputable def o115 (P : Params) : Obj := { cls := .type "function", data := .func { name := Str.ofString "__init__", qualname := Str.ofString "Board.__init__", params := sArgs F_Board___init__, body := PySem.FuncBody.stmts (sBody F_Board___init__), scope := sScope F_Board___init__, globals := 3, closure := [], defaults := .none, kwdefaults := .none, pyModule := .str (Str.ofString "evenroads.board") 278, code := .ref 114 } }
noncomputable def o116 (P : Params) : Obj := { cls := .type "tuple", data := .seq #[] }
noncomputable def o117 (P : Params) : Obj := { cls := .none, data := .fields #[] }
noncomputable def o118 (P : Params) : Obj := { cls := .type "tuple", data := .seq #[.str (Str.ofString "self") 335] }
noncomputable def o119 (P : Params) : Obj := { cls := .type "tuple", data := .seq #[] }
noncomputable def o120 (P : Params) : Obj := { cls := .none, data := .func { name := Str.ofString "many", qualname := Str.ofString "Board.many", params := sArgs F_Board_many, body := PySem.FuncBody.stmts (sBody F_Board_many), scope := sScope F_Board_many, globals := 0, closure := [], defaults := .none, kwdefaults := .none } }
noncomputable def o121 (P : Params) : Obj := { cls := .type "code", data := .fields #[.str (Str.ofString "many") 332, .str (Str.ofString "Board.many") 333, .str (Str.ofString "/claim/cut.py") 334, .int 49 0, .int 1 0, .int 0 0, .int 0 0, .int 3 0, .ref 116, .bool Bool.true, .int 181 0, .ref 117, .none, .ref 118, .ref 119, .ref 120, .int 336 0, .int 49 0, .str (Str.ofString "/claim/cut.py") 337] }
noncomputable def o122 (P : Params) : Obj := { cls := .type "function", data := .func { name := Str.ofString "many", qualname := Str.ofString "Board.many", params := sArgs F_Board_many, body := PySem.FuncBody.stmts (sBody F_Board_many), scope := sScope F_Board_many, globals := 3, closure := [], defaults := .none, kwdefaults := .none, pyModule := .str (Str.ofString "evenroads.board") 278, code := .ref 121 } }
noncomputable def o123 (P : Params) : Obj := { cls := .type "tuple", data := .seq #[] }
noncomputable def o124 (P : Params) : Obj := { cls := .none, data := .fields #[] }
noncomputable def o125 (P : Params) : Obj := { cls := .type "tuple", data := .seq #[.str (Str.ofString "self") 342, .str (Str.ofString "place") 343] }
noncomputable def o126 (P : Params) : Obj := { cls := .type "tuple", data := .seq #[] }
noncomputable def o127 (P : Params) : Obj := { cls := .none, data := .func { name := Str.ofString "need", qualname := Str.ofString "Board.need", params := sArgs F_Board_need, body := PySem.FuncBody.stmts (sBody F_Board_need), scope := sScope F_Board_need, globals := 0, closure := [], defaults := .none, kwdefaults := .none } }
noncomputable def o128 (P : Params) : Obj := { cls := .type "code", data := .fields #[.str (Str.ofString "need") 339, .str (Str.ofString "Board.need") 340, .str (Str.ofString "/claim/cut.py") 341, .int 52 0, .int 2 0, .int 0 0, .int 0 0, .int 3 0, .ref 123, .bool Bool.true, .int 181 0, .ref 124, .none, .ref 125, .ref 126, .ref 127, .int 344 0, .int 52 0, .str (Str.ofString "/claim/cut.py") 345] }
noncomputable def o129 (P : Params) : Obj := { cls := .type "function", data := .func { name := Str.ofString "need", qualname := Str.ofString "Board.need", params := sArgs F_Board_need, body := PySem.FuncBody.stmts (sBody F_Board_need), scope := sScope F_Board_need, globals := 3, closure := [], defaults := .none, kwdefaults := .none, pyModule := .str (Str.ofString "evenroads.board") 278, code := .ref 128 } }
noncomputable def o130 (P : Params) : Obj := { cls := .type "tuple", data := .seq #[] }
noncomputable def o131 (P : Params) : Obj := { cls := .none, data := .fields #[] }
noncomputable def o132 (P : Params) : Obj := { cls := .type "tuple", data := .seq #[.str (Str.ofString "self") 350, .str (Str.ofString "place") 351] }
noncomputable def o133 (P : Params) : Obj := { cls := .type "tuple", data := .seq #[] }
noncomputable def o134 (P : Params) : Obj := { cls := .none, data := .func { name := Str.ofString "owner", qualname := Str.ofString "Board.owner", params := sArgs F_Board_owner, body := PySem.FuncBody.stmts (sBody F_Board_owner), scope := sScope F_Board_owner, globals := 0, closure := [], defaults := .none, kwdefaults := .none } }
noncomputable def o135 (P : Params) : Obj := { cls := .type "code", data := .fields #[.str (Str.ofString "owner") 347, .str (Str.ofString "Board.owner") 348, .str (Str.ofString "/claim/cut.py") 349, .int 56 0, .int 2 0, .int 0 0, .int 0 0, .int 3 0, .ref 130, .bool Bool.true, .int 181 0, .ref 131, .none, .ref 132, .ref 133, .ref 134, .int 352 0, .int 56 0, .str (Str.ofString "/claim/cut.py") 353] }
noncomputable def o136 (P : Params) : Obj := { cls := .type "function", data := .func { name := Str.ofString "owner", qualname := Str.ofString "Board.owner", params := sArgs F_Board_owner, body := PySem.FuncBody.stmts (sBody F_Board_owner), scope := sScope F_Board_owner, globals := 3, closure := [], defaults := .none, kwdefaults := .none, pyModule := .str (Str.ofString "evenroads.board") 278, code := .ref 135 } }
noncomputable def o137 (P : Params) : Obj := { cls := .type "tuple", data := .seq #[] }
noncomputable def o138 (P : Params) : Obj := { cls := .none, data := .fields #[] }
noncomputable def o139 (P : Params) : Obj := { cls := .type "tuple", data := .seq #[.str (Str.ofString "self") 358, .str (Str.ofString "place") 359] }
noncomputable def o140 (P : Params) : Obj := { cls := .type "tuple", data := .seq #[] }
noncomputable def o141 (P : Params) : Obj := { cls := .none, data := .func { name := Str.ofString "mark", qualname := Str.ofString "Board.mark", params := sArgs F_Board_mark, body := PySem.FuncBody.stmts (sBody F_Board_mark), scope := sScope F_Board_mark, globals := 0, closure := [], defaults := .none, kwdefaults := .none } }
noncomputable def o142 (P : Params) : Obj := { cls := .type "code", data := .fields #[.str (Str.ofString "mark") 355, .str (Str.ofString "Board.mark") 356, .str (Str.ofString "/claim/cut.py") 357, .int 60 0, .int 2 0, .int 0 0, .int 0 0, .int 3 0, .ref 137, .bool Bool.true, .int 181 0, .ref 138, .none, .ref 139, .ref 140, .ref 141, .int 360 0, .int 60 0, .str (Str.ofString "/claim/cut.py") 361] }
noncomputable def o143 (P : Params) : Obj := { cls := .type "function", data := .func { name := Str.ofString "mark", qualname := Str.ofString "Board.mark", params := sArgs F_Board_mark, body := PySem.FuncBody.stmts (sBody F_Board_mark), scope := sScope F_Board_mark, globals := 3, closure := [], defaults := .none, kwdefaults := .none, pyModule := .str (Str.ofString "evenroads.board") 278, code := .ref 142 } }
noncomputable def o144 (P : Params) : Obj := { cls := .type "tuple", data := .seq #[] }
noncomputable def o145 (P : Params) : Obj := { cls := .none, data := .fields #[] }
noncomputable def o146 (P : Params) : Obj := { cls := .type "tuple", data := .seq #[.str (Str.ofString "self") 366, .str (Str.ofString "place") 367] }
noncomputable def o147 (P : Params) : Obj := { cls := .type "tuple", data := .seq #[] }
noncomputable def o148 (P : Params) : Obj := { cls := .none, data := .func { name := Str.ofString "roads", qualname := Str.ofString "Board.roads", params := sArgs F_Board_roads, body := PySem.FuncBody.stmts (sBody F_Board_roads), scope := sScope F_Board_roads, globals := 0, closure := [], defaults := .none, kwdefaults := .none } }
noncomputable def o149 (P : Params) : Obj := { cls := .type "code", data := .fields #[.str (Str.ofString "roads") 363, .str (Str.ofString "Board.roads") 364, .str (Str.ofString "/claim/cut.py") 365, .int 64 0, .int 2 0, .int 0 0, .int 0 0, .int 3 0, .ref 144, .bool Bool.true, .int 181 0, .ref 145, .none, .ref 146, .ref 147, .ref 148, .int 368 0, .int 64 0, .str (Str.ofString "/claim/cut.py") 369] }
noncomputable def o150 (P : Params) : Obj := { cls := .type "function", data := .func { name := Str.ofString "roads", qualname := Str.ofString "Board.roads", params := sArgs F_Board_roads, body := PySem.FuncBody.stmts (sBody F_Board_roads), scope := sScope F_Board_roads, globals := 3, closure := [], defaults := .none, kwdefaults := .none, pyModule := .str (Str.ofString "evenroads.board") 278, code := .ref 149 } }
noncomputable def o151 (P : Params) : Obj := { cls := .type "tuple", data := .seq #[] }
noncomputable def o152 (P : Params) : Obj := { cls := .none, data := .fields #[] }
noncomputable def o153 (P : Params) : Obj := { cls := .type "tuple", data := .seq #[.str (Str.ofString "self") 374, .str (Str.ofString "place") 375] }
noncomputable def o154 (P : Params) : Obj := { cls := .type "tuple", data := .seq #[] }
noncomputable def o155 (P : Params) : Obj := { cls := .none, data := .func { name := Str.ofString "sources", qualname := Str.ofString "Board.sources", params := sArgs F_Board_sources, body := PySem.FuncBody.stmts (sBody F_Board_sources), scope := sScope F_Board_sources, globals := 0, closure := [], defaults := .none, kwdefaults := .none } }
noncomputable def o156 (P : Params) : Obj := { cls := .type "code", data := .fields #[.str (Str.ofString "sources") 371, .str (Str.ofString "Board.sources") 372, .str (Str.ofString "/claim/cut.py") 373, .int 68 0, .int 2 0, .int 0 0, .int 0 0, .int 3 0, .ref 151, .bool Bool.true, .int 181 0, .ref 152, .none, .ref 153, .ref 154, .ref 155, .int 376 0, .int 68 0, .str (Str.ofString "/claim/cut.py") 377] }
noncomputable def o157 (P : Params) : Obj := { cls := .type "function", data := .func { name := Str.ofString "sources", qualname := Str.ofString "Board.sources", params := sArgs F_Board_sources, body := PySem.FuncBody.stmts (sBody F_Board_sources), scope := sScope F_Board_sources, globals := 3, closure := [], defaults := .none, kwdefaults := .none, pyModule := .str (Str.ofString "evenroads.board") 278, code := .ref 156 } }
noncomputable def o158 (P : Params) : Obj := { cls := .type "tuple", data := .seq #[.str (Str.ofString "hands") 379, .str (Str.ofString "leading") 380, .str (Str.ofString "numbers") 381] }
noncomputable def o159 (P : Params) : Obj := { cls := .type "dict", data := .dict #[{ hash := PyData.keyHash P (Str.ofString "__module__"), key := .str (Str.ofString "__module__") 321, val := .str (Str.ofString "evenroads.board") 278 }, { hash := PyData.keyHash P (Str.ofString "__firstlineno__"), key := .str (Str.ofString "__firstlineno__") 325, val := .int 41 324 }, { hash := PyData.keyHash P (Str.ofString "__init__"), key := .str (Str.ofString "__init__") 331, val := .ref 115 }, { hash := PyData.keyHash P (Str.ofString "many"), key := .str (Str.ofString "many") 338, val := .ref 122 }, { hash := PyData.keyHash P (Str.ofString "need"), key := .str (Str.ofString "need") 346, val := .ref 129 }, { hash := PyData.keyHash P (Str.ofString "owner"), key := .str (Str.ofString "owner") 354, val := .ref 136 }, { hash := PyData.keyHash P (Str.ofString "mark"), key := .str (Str.ofString "mark") 362, val := .ref 143 }, { hash := PyData.keyHash P (Str.ofString "roads"), key := .str (Str.ofString "roads") 370, val := .ref 150 }, { hash := PyData.keyHash P (Str.ofString "sources"), key := .str (Str.ofString "sources") 378, val := .ref 157 }, { hash := PyData.keyHash P (Str.ofString "__static_attributes__"), key := .str (Str.ofString "__static_attributes__") 382, val := .ref 158 }, { hash := PyData.keyHash P (Str.ofString "__dict__"), key := .str (Str.ofString "__dict__") 384, val := .ref 161 }, { hash := PyData.keyHash P (Str.ofString "__weakref__"), key := .str (Str.ofString "__weakref__") 386, val := .ref 162 }, { hash := PyData.keyHash P (Str.ofString "__doc__"), key := .str (Str.ofString "__doc__") 387, val := .none }] 4 }
noncomputable def o160 (P : Params) : Obj := { cls := .type "type", data := .cls { name := Str.ofString "Board", bases := [.type "object"], mro := [.ref 160, .type "object"], ns := 159, qualname := Str.ofString "Board" }, slots := #[Option.none, Option.none, Option.some (.str (Str.ofString "Board") 314), Option.some (.str (Str.ofString "Board") 322), Option.some (.builtin "object.__new__"), Option.some (.bool Bool.true)] }
noncomputable def o161 (P : Params) : Obj := { cls := .type "getset_descriptor", data := .fields #[.str (Str.ofString "__dict__") 383, .ref 160, .builtin "function.__dict__", .builtin "function.__dict__#set"] }
noncomputable def o162 (P : Params) : Obj := { cls := .type "getset_descriptor", data := .fields #[.str (Str.ofString "__weakref__") 385, .ref 160, .builtin "ExceptionGroup.__weakref__", .none] }
noncomputable def o163 (P : Params) : Obj := { cls := .type "super", data := .fields #[.ref 160, .ref 160, .ref 160] }
noncomputable def o164 (P : Params) : Obj := { cls := .type "builtin_function_or_method", data := .fields #[.builtin "object.__init_subclass__", .ref 160] }
noncomputable def o3v6 (P : Params) : Obj := { cls := .type "dict", data := .dict #[{ hash := PyData.keyHash P (Str.ofString "__name__"), key := .str (Str.ofString "__name__") 165, val := .str (Str.ofString "law_uf040023_08") 411 }, { hash := PyData.keyHash P (Str.ofString "__doc__"), key := .str (Str.ofString "__doc__") 166, val := .none }, { hash := PyData.keyHash P (Str.ofString "__package__"), key := .str (Str.ofString "__package__") 167, val := .none }, { hash := PyData.keyHash P (Str.ofString "__loader__"), key := .str (Str.ofString "__loader__") 168, val := .builtin "__main__.__loader__#opaque" }, { hash := PyData.keyHash P (Str.ofString "__spec__"), key := .str (Str.ofString "__spec__") 169, val := .none }, { hash := PyData.keyHash P (Str.ofString "__annotations__"), key := .str (Str.ofString "__annotations__") 170, val := .ref 6 }, { hash := PyData.keyHash P (Str.ofString "__builtins__"), key := .str (Str.ofString "__builtins__") 171, val := .ref 4 }, { hash := PyData.keyHash P (Str.ofString "__file__"), key := .str (Str.ofString "__file__") 173, val := .str (Str.ofString "/claim/cut.py") 172 }, { hash := PyData.keyHash P (Str.ofString "__cached__"), key := .str (Str.ofString "__cached__") 174, val := .none }, { hash := PyData.keyHash P (Str.ofString "_wall"), key := .str (Str.ofString "_wall") 193, val := .ref 21 }, { hash := PyData.keyHash P (Str.ofString "RoadError"), key := .str (Str.ofString "RoadError") 213, val := .ref 31 }, { hash := PyData.keyHash P (Str.ofString "NoBoard"), key := .str (Str.ofString "NoBoard") 229, val := .ref 44 }, { hash := PyData.keyHash P (Str.ofString "NoPlace"), key := .str (Str.ofString "NoPlace") 245, val := .ref 56 }, { hash := PyData.keyHash P (Str.ofString "NoWay"), key := .str (Str.ofString "NoWay") 261, val := .ref 68 }, { hash := PyData.keyHash P (Str.ofString "NoNote"), key := .str (Str.ofString "NoNote") 277, val := .ref 80 }, { hash := PyData.keyHash P (Str.ofString "MOST_PLACES"), key := .str (Str.ofString "MOST_PLACES") 281, val := .int 60 280 }, { hash := PyData.keyHash P (Str.ofString "MOST_MARK"), key := .str (Str.ofString "MOST_MARK") 283, val := .int 999 282 }, { hash := PyData.keyHash P (Str.ofString "is_whole"), key := .str (Str.ofString "is_whole") 291, val := .ref 89 }, { hash := PyData.keyHash P (Str.ofString "need_roads"), key := .str (Str.ofString "need_roads") 301, val := .ref 96 }, { hash := PyData.keyHash P (Str.ofString "need_board"), key := .str (Str.ofString "need_board") 313, val := .ref 103 }, { hash := PyData.keyHash P (Str.ofString "Board"), key := .str (Str.ofString "Board") 389, val := .ref 160 }, { hash := PyData.keyHash P (Str.ofString "number_of"), key := .str (Str.ofString "number_of") 398, val := .ref 171 }, { hash := PyData.keyHash P (Str.ofString "read_row"), key := .str (Str.ofString "read_row") 404, val := .ref 176 }, { hash := PyData.keyHash P (Str.ofString "read"), key := .str (Str.ofString "read") 410, val := .ref 181 }, { hash := PyData.keyHash P (Str.ofString "_law_cell_at"), key := .str (Str.ofString "_law_cell_at") 420, val := .ref 188 }, { hash := PyData.keyHash P (Str.ofString "_law_mixed"), key := .str (Str.ofString "_law_mixed") 429, val := .ref 195 }, { hash := PyData.keyHash P (Str.ofString "_law_odd_row"), key := .str (Str.ofString "_law_odd_row") 438, val := .ref 202 }, { hash := PyData.keyHash P (Str.ofString "_law_bent_row"), key := .str (Str.ofString "_law_bent_row") 449, val := .ref 209 }, { hash := PyData.keyHash P (Str.ofString "_law_number"), key := .str (Str.ofString "_law_number") 459, val := .ref 216 }, { hash := PyData.keyHash P (Str.ofString "_law_row_of"), key := .str (Str.ofString "_law_row_of") 465, val := .ref 221 }, { hash := PyData.keyHash P (Str.ofString "_law_due"), key := .str (Str.ofString "_law_due") 474, val := .ref 228 }, { hash := PyData.keyHash P (Str.ofString "_law_read"), key := .str (Str.ofString "_law_read") 483, val := .ref 235 }, { hash := PyData.keyHash P (Str.ofString "_law_rows"), key := .str (Str.ofString "_law_rows") 489, val := .ref 240 }] 33 }
noncomputable def o12v7 (P : Params) : Obj := { cls := .none, data := .fields #[.int 1 0, .int 0 0, .ref 20, .int 5 0, .int 0 0, .ref 27, .int 7 0, .int 0 0, .ref 40, .int 9 0, .int 0 0, .ref 52, .int 11 0, .int 0 0, .ref 64, .int 13 0, .int 0 0, .ref 76, .int 18 0, .int 0 0, .ref 88, .int 20 0, .int 0 0, .ref 95, .int 28 0, .int 0 0, .ref 102, .int 41 0, .int 0 0, .ref 109, .int 71 0, .int 0 0, .ref 170, .int 75 0, .int 0 0, .ref 175, .int 84 0, .int 0 0, .ref 180, .int 88 0, .int 0 0, .ref 187, .int 92 0, .int 0 0, .ref 194, .int 94 0, .int 0 0, .ref 201, .int 101 0, .int 0 0, .ref 208, .int 112 0, .int 0 0, .ref 215, .int 122 0, .int 0 0, .ref 220, .int 131 0, .int 0 0, .ref 227, .int 137 0, .int 0 0, .ref 234, .int 153 0, .int 0 0, .ref 239] }
noncomputable def o165 (P : Params) : Obj := { cls := .type "tuple", data := .seq #[] }
noncomputable def o166 (P : Params) : Obj := { cls := .none, data := .fields #[] }
noncomputable def o167 (P : Params) : Obj := { cls := .type "tuple", data := .seq #[.str (Str.ofString "word") 395] }
noncomputable def o168 (P : Params) : Obj := { cls := .type "tuple", data := .seq #[] }
noncomputable def o169 (P : Params) : Obj := { cls := .none, data := .func { name := Str.ofString "number_of", qualname := Str.ofString "number_of", params := sArgs F_number_of, body := PySem.FuncBody.stmts (sBody F_number_of), scope := sScope F_number_of, globals := 0, closure := [], defaults := .none, kwdefaults := .none } }
noncomputable def o170 (P : Params) : Obj := { cls := .type "code", data := .fields #[.str (Str.ofString "number_of") 392, .str (Str.ofString "number_of") 393, .str (Str.ofString "/claim/cut.py") 394, .int 71 0, .int 1 0, .int 0 0, .int 0 0, .int 3 0, .ref 165, .bool Bool.true, .int 181 0, .ref 166, .none, .ref 167, .ref 168, .ref 169, .int 396 0, .int 71 0, .str (Str.ofString "/claim/cut.py") 397] }
noncomputable def o171 (P : Params) : Obj := { cls := .type "function", data := .func { name := Str.ofString "number_of", qualname := Str.ofString "number_of", params := sArgs F_number_of, body := PySem.FuncBody.stmts (sBody F_number_of), scope := sScope F_number_of, globals := 3, closure := [], defaults := .none, kwdefaults := .none, pyModule := .str (Str.ofString "evenroads.notes") 390, code := .ref 170 } }
noncomputable def o172 (P : Params) : Obj := { cls := .type "tuple", data := .seq #[] }
noncomputable def o173 (P : Params) : Obj := { cls := .none, data := .fields #[] }
noncomputable def o174 (P : Params) : Obj := { cls := .none, data := .func { name := Str.ofString "read_row", qualname := Str.ofString "read_row", params := sArgs F_read_row, body := PySem.FuncBody.stmts (sBody F_read_row), scope := sScope F_read_row, globals := 0, closure := [], defaults := .none, kwdefaults := .none } }
noncomputable def o175 (P : Params) : Obj := { cls := .type "code", data := .fields #[.str (Str.ofString "read_row") 399, .str (Str.ofString "read_row") 400, .str (Str.ofString "/claim/cut.py") 401, .int 75 0, .int 1 0, .int 0 0, .int 0 0, .int 3 0, .ref 172, .bool Bool.true, .int 181 0, .ref 173, .none, .none, .none, .ref 174, .int 402 0, .int 75 0, .str (Str.ofString "/claim/cut.py") 403] }
noncomputable def o176 (P : Params) : Obj := { cls := .type "function", data := .func { name := Str.ofString "read_row", qualname := Str.ofString "read_row", params := sArgs F_read_row, body := PySem.FuncBody.stmts (sBody F_read_row), scope := sScope F_read_row, globals := 3, closure := [], defaults := .none, kwdefaults := .none, pyModule := .str (Str.ofString "evenroads.notes") 390, code := .ref 175 } }
noncomputable def o177 (P : Params) : Obj := { cls := .type "tuple", data := .seq #[] }
noncomputable def o178 (P : Params) : Obj := { cls := .none, data := .fields #[] }
noncomputable def o179 (P : Params) : Obj := { cls := .none, data := .func { name := Str.ofString "read", qualname := Str.ofString "read", params := sArgs F_read, body := PySem.FuncBody.stmts (sBody F_read), scope := sScope F_read, globals := 0, closure := [], defaults := .none, kwdefaults := .none } }
noncomputable def o180 (P : Params) : Obj := { cls := .type "code", data := .fields #[.str (Str.ofString "read") 405, .str (Str.ofString "read") 406, .str (Str.ofString "/claim/cut.py") 407, .int 84 0, .int 1 0, .int 0 0, .int 0 0, .int 3 0, .ref 177, .bool Bool.true, .int 181 0, .ref 178, .none, .none, .none, .ref 179, .int 408 0, .int 84 0, .str (Str.ofString "/claim/cut.py") 409] }
noncomputable def o181 (P : Params) : Obj := { cls := .type "function", data := .func { name := Str.ofString "read", qualname := Str.ofString "read", params := sArgs F_read, body := PySem.FuncBody.stmts (sBody F_read), scope := sScope F_read, globals := 3, closure := [], defaults := .none, kwdefaults := .none, pyModule := .str (Str.ofString "evenroads.notes") 390, code := .ref 180 } }
noncomputable def o182 (P : Params) : Obj := { cls := .type "tuple", data := .seq #[] }
noncomputable def o183 (P : Params) : Obj := { cls := .none, data := .fields #[] }
noncomputable def o184 (P : Params) : Obj := { cls := .type "tuple", data := .seq #[.str (Str.ofString "_law_script") 416, .str (Str.ofString "_law_k") 417] }
noncomputable def o185 (P : Params) : Obj := { cls := .type "tuple", data := .seq #[] }
noncomputable def o186 (P : Params) : Obj := { cls := .none, data := .func { name := Str.ofString "_law_cell_at", qualname := Str.ofString "_law_cell_at", params := sArgs F__law_cell_at, body := PySem.FuncBody.stmts (sBody F__law_cell_at), scope := sScope F__law_cell_at, globals := 0, closure := [], defaults := .none, kwdefaults := .none } }
noncomputable def o187 (P : Params) : Obj := { cls := .type "code", data := .fields #[.str (Str.ofString "_law_cell_at") 413, .str (Str.ofString "_law_cell_at") 414, .str (Str.ofString "/claim/cut.py") 415, .int 88 0, .int 2 0, .int 0 0, .int 0 0, .int 3 0, .ref 182, .bool Bool.true, .int 181 0, .ref 183, .none, .ref 184, .ref 185, .ref 186, .int 418 0, .int 88 0, .str (Str.ofString "/claim/cut.py") 419] }
noncomputable def o188 (P : Params) : Obj := { cls := .type "function", data := .func { name := Str.ofString "_law_cell_at", qualname := Str.ofString "_law_cell_at", params := sArgs F__law_cell_at, body := PySem.FuncBody.stmts (sBody F__law_cell_at), scope := sScope F__law_cell_at, globals := 3, closure := [], defaults := .none, kwdefaults := .none, pyModule := .str (Str.ofString "law_uf040023_08") 411, code := .ref 187 } }
noncomputable def o189 (P : Params) : Obj := { cls := .type "tuple", data := .seq #[] }
noncomputable def o190 (P : Params) : Obj := { cls := .none, data := .fields #[] }
noncomputable def o191 (P : Params) : Obj := { cls := .type "tuple", data := .seq #[.str (Str.ofString "_law_script") 424, .str (Str.ofString "_law_k") 425, .str (Str.ofString "_law_salt") 426] }
noncomputable def o192 (P : Params) : Obj := { cls := .type "tuple", data := .seq #[] }
noncomputable def o193 (P : Params) : Obj := { cls := .none, data := .func { name := Str.ofString "_law_mixed", qualname := Str.ofString "_law_mixed", params := sArgs F__law_mixed, body := PySem.FuncBody.stmts (sBody F__law_mixed), scope := sScope F__law_mixed, globals := 0, closure := [], defaults := .none, kwdefaults := .none } }
noncomputable def o194 (P : Params) : Obj := { cls := .type "code", data := .fields #[.str (Str.ofString "_law_mixed") 421, .str (Str.ofString "_law_mixed") 422, .str (Str.ofString "/claim/cut.py") 423, .int 92 0, .int 3 0, .int 0 0, .int 0 0, .int 3 0, .ref 189, .bool Bool.true, .int 181 0, .ref 190, .none, .ref 191, .ref 192, .ref 193, .int 427 0, .int 92 0, .str (Str.ofString "/claim/cut.py") 428] }
noncomputable def o195 (P : Params) : Obj := { cls := .type "function", data := .func { name := Str.ofString "_law_mixed", qualname := Str.ofString "_law_mixed", params := sArgs F__law_mixed, body := PySem.FuncBody.stmts (sBody F__law_mixed), scope := sScope F__law_mixed, globals := 3, closure := [], defaults := .none, kwdefaults := .none, pyModule := .str (Str.ofString "law_uf040023_08") 411, code := .ref 194 } }
noncomputable def o196 (P : Params) : Obj := { cls := .type "tuple", data := .seq #[] }
noncomputable def o197 (P : Params) : Obj := { cls := .none, data := .fields #[] }
noncomputable def o198 (P : Params) : Obj := { cls := .type "tuple", data := .seq #[.str (Str.ofString "_law_kind") 433, .str (Str.ofString "_law_size") 434, .str (Str.ofString "_law_rows_here") 435] }
noncomputable def o199 (P : Params) : Obj := { cls := .type "tuple", data := .seq #[] }
noncomputable def o200 (P : Params) : Obj := { cls := .none, data := .func { name := Str.ofString "_law_odd_row", qualname := Str.ofString "_law_odd_row", params := sArgs F__law_odd_row, body := PySem.FuncBody.stmts (sBody F__law_odd_row), scope := sScope F__law_odd_row, globals := 0, closure := [], defaults := .none, kwdefaults := .none } }
noncomputable def o201 (P : Params) : Obj := { cls := .type "code", data := .fields #[.str (Str.ofString "_law_odd_row") 430, .str (Str.ofString "_law_odd_row") 431, .str (Str.ofString "/claim/cut.py") 432, .int 94 0, .int 2 0, .int 0 0, .int 0 0, .int 3 0, .ref 196, .bool Bool.true, .int 181 0, .ref 197, .none, .ref 198, .ref 199, .ref 200, .int 436 0, .int 94 0, .str (Str.ofString "/claim/cut.py") 437] }
noncomputable def o202 (P : Params) : Obj := { cls := .type "function", data := .func { name := Str.ofString "_law_odd_row", qualname := Str.ofString "_law_odd_row", params := sArgs F__law_odd_row, body := PySem.FuncBody.stmts (sBody F__law_odd_row), scope := sScope F__law_odd_row, globals := 3, closure := [], defaults := .none, kwdefaults := .none, pyModule := .str (Str.ofString "law_uf040023_08") 411, code := .ref 201 } }
noncomputable def o203 (P : Params) : Obj := { cls := .type "tuple", data := .seq #[] }
noncomputable def o204 (P : Params) : Obj := { cls := .none, data := .fields #[] }
noncomputable def o205 (P : Params) : Obj := { cls := .type "tuple", data := .seq #[.str (Str.ofString "_law_row") 442, .str (Str.ofString "_law_cell") 443, .str (Str.ofString "_law_signs") 444, .str (Str.ofString "_law_at") 445, .str (Str.ofString "_law_sign") 446] }
noncomputable def o206 (P : Params) : Obj := { cls := .type "tuple", data := .seq #[] }
noncomputable def o207 (P : Params) : Obj := { cls := .none, data := .func { name := Str.ofString "_law_bent_row", qualname := Str.ofString "_law_bent_row", params := sArgs F__law_bent_row, body := PySem.FuncBody.stmts (sBody F__law_bent_row), scope := sScope F__law_bent_row, globals := 0, closure := [], defaults := .none, kwdefaults := .none } }
noncomputable def o208 (P : Params) : Obj := { cls := .type "code", data := .fields #[.str (Str.ofString "_law_bent_row") 439, .str (Str.ofString "_law_bent_row") 440, .str (Str.ofString "/claim/cut.py") 441, .int 101 0, .int 2 0, .int 0 0, .int 0 0, .int 3 0, .ref 203, .bool Bool.true, .int 181 0, .ref 204, .none, .ref 205, .ref 206, .ref 207, .int 447 0, .int 101 0, .str (Str.ofString "/claim/cut.py") 448] }
noncomputable def o209 (P : Params) : Obj := { cls := .type "function", data := .func { name := Str.ofString "_law_bent_row", qualname := Str.ofString "_law_bent_row", params := sArgs F__law_bent_row, body := PySem.FuncBody.stmts (sBody F__law_bent_row), scope := sScope F__law_bent_row, globals := 3, closure := [], defaults := .none, kwdefaults := .none, pyModule := .str (Str.ofString "law_uf040023_08") 411, code := .ref 208 } }
noncomputable def o210 (P : Params) : Obj := { cls := .type "tuple", data := .seq #[] }
noncomputable def o211 (P : Params) : Obj := { cls := .none, data := .fields #[] }
noncomputable def o212 (P : Params) : Obj := { cls := .type "tuple", data := .seq #[.str (Str.ofString "_law_word") 453, .str (Str.ofString "_law_found") 454, .str (Str.ofString "_law_sign") 455, .str (Str.ofString "_law_figure") 456] }
noncomputable def o213 (P : Params) : Obj := { cls := .type "tuple", data := .seq #[] }
noncomputable def o214 (P : Params) : Obj := { cls := .none, data := .func { name := Str.ofString "_law_number", qualname := Str.ofString "_law_number", params := sArgs F__law_number, body := PySem.FuncBody.stmts (sBody F__law_number), scope := sScope F__law_number, globals := 0, closure := [], defaults := .none, kwdefaults := .none } }
noncomputable def o215 (P : Params) : Obj := { cls := .type "code", data := .fields #[.str (Str.ofString "_law_number") 450, .str (Str.ofString "_law_number") 451, .str (Str.ofString "/claim/cut.py") 452, .int 112 0, .int 1 0, .int 0 0, .int 0 0, .int 3 0, .ref 210, .bool Bool.true, .int 181 0, .ref 211, .none, .ref 212, .ref 213, .ref 214, .int 457 0, .int 112 0, .str (Str.ofString "/claim/cut.py") 458] }
noncomputable def o216 (P : Params) : Obj := { cls := .type "function", data := .func { name := Str.ofString "_law_number", qualname := Str.ofString "_law_number", params := sArgs F__law_number, body := PySem.FuncBody.stmts (sBody F__law_number), scope := sScope F__law_number, globals := 3, closure := [], defaults := .none, kwdefaults := .none, pyModule := .str (Str.ofString "law_uf040023_08") 411, code := .ref 215 } }
noncomputable def o217 (P : Params) : Obj := { cls := .type "tuple", data := .seq #[] }
noncomputable def o218 (P : Params) : Obj := { cls := .none, data := .fields #[] }
noncomputable def o219 (P : Params) : Obj := { cls := .none, data := .func { name := Str.ofString "_law_row_of", qualname := Str.ofString "_law_row_of", params := sArgs F__law_row_of, body := PySem.FuncBody.stmts (sBody F__law_row_of), scope := sScope F__law_row_of, globals := 0, closure := [], defaults := .none, kwdefaults := .none } }
noncomputable def o220 (P : Params) : Obj := { cls := .type "code", data := .fields #[.str (Str.ofString "_law_row_of") 460, .str (Str.ofString "_law_row_of") 461, .str (Str.ofString "/claim/cut.py") 462, .int 122 0, .int 1 0, .int 0 0, .int 0 0, .int 3 0, .ref 217, .bool Bool.true, .int 181 0, .ref 218, .none, .none, .none, .ref 219, .int 463 0, .int 122 0, .str (Str.ofString "/claim/cut.py") 464] }
noncomputable def o221 (P : Params) : Obj := { cls := .type "function", data := .func { name := Str.ofString "_law_row_of", qualname := Str.ofString "_law_row_of", params := sArgs F__law_row_of, body := PySem.FuncBody.stmts (sBody F__law_row_of), scope := sScope F__law_row_of, globals := 3, closure := [], defaults := .none, kwdefaults := .none, pyModule := .str (Str.ofString "law_uf040023_08") 411, code := .ref 220 } }
noncomputable def o222 (P : Params) : Obj := { cls := .type "tuple", data := .seq #[] }
noncomputable def o223 (P : Params) : Obj := { cls := .none, data := .fields #[] }
noncomputable def o224 (P : Params) : Obj := { cls := .type "tuple", data := .seq #[.str (Str.ofString "_law_row") 469, .str (Str.ofString "_law_size") 470, .str (Str.ofString "_law_bad") 471] }
noncomputable def o225 (P : Params) : Obj := { cls := .type "tuple", data := .seq #[] }
noncomputable def o226 (P : Params) : Obj := { cls := .none, data := .func { name := Str.ofString "_law_due", qualname := Str.ofString "_law_due", params := sArgs F__law_due, body := PySem.FuncBody.stmts (sBody F__law_due), scope := sScope F__law_due, globals := 0, closure := [], defaults := .none, kwdefaults := .none } }
noncomputable def o227 (P : Params) : Obj := { cls := .type "code", data := .fields #[.str (Str.ofString "_law_due") 466, .str (Str.ofString "_law_due") 467, .str (Str.ofString "/claim/cut.py") 468, .int 131 0, .int 3 0, .int 0 0, .int 0 0, .int 3 0, .ref 222, .bool Bool.true, .int 181 0, .ref 223, .none, .ref 224, .ref 225, .ref 226, .int 472 0, .int 131 0, .str (Str.ofString "/claim/cut.py") 473] }
noncomputable def o228 (P : Params) : Obj := { cls := .type "function", data := .func { name := Str.ofString "_law_due", qualname := Str.ofString "_law_due", params := sArgs F__law_due, body := PySem.FuncBody.stmts (sBody F__law_due), scope := sScope F__law_due, globals := 3, closure := [], defaults := .none, kwdefaults := .none, pyModule := .str (Str.ofString "law_uf040023_08") 411, code := .ref 227 } }
noncomputable def o229 (P : Params) : Obj := { cls := .type "tuple", data := .seq #[] }
noncomputable def o230 (P : Params) : Obj := { cls := .none, data := .fields #[] }
noncomputable def o231 (P : Params) : Obj := { cls := .type "tuple", data := .seq #[.str (Str.ofString "_law_text") 478, .str (Str.ofString "_law_way") 479, .str (Str.ofString "error") 480] }
noncomputable def o232 (P : Params) : Obj := { cls := .type "tuple", data := .seq #[] }
noncomputable def o233 (P : Params) : Obj := { cls := .none, data := .func { name := Str.ofString "_law_read", qualname := Str.ofString "_law_read", params := sArgs F__law_read, body := PySem.FuncBody.stmts (sBody F__law_read), scope := sScope F__law_read, globals := 0, closure := [], defaults := .none, kwdefaults := .none } }
noncomputable def o234 (P : Params) : Obj := { cls := .type "code", data := .fields #[.str (Str.ofString "_law_read") 475, .str (Str.ofString "_law_read") 476, .str (Str.ofString "/claim/cut.py") 477, .int 137 0, .int 2 0, .int 0 0, .int 0 0, .int 3 0, .ref 229, .bool Bool.true, .int 181 0, .ref 230, .none, .ref 231, .ref 232, .ref 233, .int 481 0, .int 137 0, .str (Str.ofString "/claim/cut.py") 482] }
noncomputable def o235 (P : Params) : Obj := { cls := .type "function", data := .func { name := Str.ofString "_law_read", qualname := Str.ofString "_law_read", params := sArgs F__law_read, body := PySem.FuncBody.stmts (sBody F__law_read), scope := sScope F__law_read, globals := 3, closure := [], defaults := .none, kwdefaults := .none, pyModule := .str (Str.ofString "law_uf040023_08") 411, code := .ref 234 } }
noncomputable def o236 (P : Params) : Obj := { cls := .type "tuple", data := .seq #[] }
noncomputable def o237 (P : Params) : Obj := { cls := .none, data := .fields #[] }
noncomputable def o238 (P : Params) : Obj := { cls := .none, data := .func { name := Str.ofString "_law_rows", qualname := Str.ofString "_law_rows", params := sArgs F__law_rows, body := PySem.FuncBody.stmts (sBody F__law_rows), scope := sScope F__law_rows, globals := 0, closure := [], defaults := .none, kwdefaults := .none } }
noncomputable def o239 (P : Params) : Obj := { cls := .type "code", data := .fields #[.str (Str.ofString "_law_rows") 484, .str (Str.ofString "_law_rows") 485, .str (Str.ofString "/claim/cut.py") 486, .int 153 0, .int 2 0, .int 0 0, .int 0 0, .int 3 0, .ref 236, .bool Bool.true, .int 181 0, .ref 237, .none, .none, .none, .ref 238, .int 487 0, .int 153 0, .str (Str.ofString "/claim/cut.py") 488] }
noncomputable def o240 (P : Params) : Obj := { cls := .type "function", data := .func { name := Str.ofString "_law_rows", qualname := Str.ofString "_law_rows", params := sArgs F__law_rows, body := PySem.FuncBody.stmts (sBody F__law_rows), scope := sScope F__law_rows, globals := 3, closure := [], defaults := .none, kwdefaults := .none, pyModule := .str (Str.ofString "law_uf040023_08") 411, code := .ref 239 } }
noncomputable def o3v7 (P : Params) : Obj := { cls := .type "dict", data := .dict #[{ hash := PyData.keyHash P (Str.ofString "__name__"), key := .str (Str.ofString "__name__") 165, val := .str (Str.ofString "law_uf040023_08") 411 }, { hash := PyData.keyHash P (Str.ofString "__doc__"), key := .str (Str.ofString "__doc__") 166, val := .none }, { hash := PyData.keyHash P (Str.ofString "__package__"), key := .str (Str.ofString "__package__") 167, val := .none }, { hash := PyData.keyHash P (Str.ofString "__loader__"), key := .str (Str.ofString "__loader__") 168, val := .builtin "__main__.__loader__#opaque" }, { hash := PyData.keyHash P (Str.ofString "__spec__"), key := .str (Str.ofString "__spec__") 169, val := .none }, { hash := PyData.keyHash P (Str.ofString "__annotations__"), key := .str (Str.ofString "__annotations__") 170, val := .ref 6 }, { hash := PyData.keyHash P (Str.ofString "__builtins__"), key := .str (Str.ofString "__builtins__") 171, val := .ref 4 }, { hash := PyData.keyHash P (Str.ofString "__file__"), key := .str (Str.ofString "__file__") 173, val := .str (Str.ofString "/claim/cut.py") 172 }, { hash := PyData.keyHash P (Str.ofString "__cached__"), key := .str (Str.ofString "__cached__") 174, val := .none }, { hash := PyData.keyHash P (Str.ofString "_wall"), key := .str (Str.ofString "_wall") 193, val := .ref 21 }, { hash := PyData.keyHash P (Str.ofString "RoadError"), key := .str (Str.ofString "RoadError") 213, val := .ref 31 }, { hash := PyData.keyHash P (Str.ofString "NoBoard"), key := .str (Str.ofString "NoBoard") 229, val := .ref 44 }, { hash := PyData.keyHash P (Str.ofString "NoPlace"), key := .str (Str.ofString "NoPlace") 245, val := .ref 56 }, { hash := PyData.keyHash P (Str.ofString "NoWay"), key := .str (Str.ofString "NoWay") 261, val := .ref 68 }, { hash := PyData.keyHash P (Str.ofString "NoNote"), key := .str (Str.ofString "NoNote") 277, val := .ref 80 }, { hash := PyData.keyHash P (Str.ofString "MOST_PLACES"), key := .str (Str.ofString "MOST_PLACES") 281, val := .int 60 280 }, { hash := PyData.keyHash P (Str.ofString "MOST_MARK"), key := .str (Str.ofString "MOST_MARK") 283, val := .int 999 282 }, { hash := PyData.keyHash P (Str.ofString "is_whole"), key := .str (Str.ofString "is_whole") 291, val := .ref 89 }, { hash := PyData.keyHash P (Str.ofString "need_roads"), key := .str (Str.ofString "need_roads") 301, val := .ref 96 }, { hash := PyData.keyHash P (Str.ofString "need_board"), key := .str (Str.ofString "need_board") 313, val := .ref 103 }, { hash := PyData.keyHash P (Str.ofString "Board"), key := .str (Str.ofString "Board") 389, val := .ref 160 }, { hash := PyData.keyHash P (Str.ofString "number_of"), key := .str (Str.ofString "number_of") 398, val := .ref 171 }, { hash := PyData.keyHash P (Str.ofString "read_row"), key := .str (Str.ofString "read_row") 404, val := .ref 176 }, { hash := PyData.keyHash P (Str.ofString "read"), key := .str (Str.ofString "read") 410, val := .ref 181 }, { hash := PyData.keyHash P (Str.ofString "_law_cell_at"), key := .str (Str.ofString "_law_cell_at") 420, val := .ref 188 }, { hash := PyData.keyHash P (Str.ofString "_law_mixed"), key := .str (Str.ofString "_law_mixed") 429, val := .ref 195 }, { hash := PyData.keyHash P (Str.ofString "_law_odd_row"), key := .str (Str.ofString "_law_odd_row") 438, val := .ref 202 }, { hash := PyData.keyHash P (Str.ofString "_law_bent_row"), key := .str (Str.ofString "_law_bent_row") 449, val := .ref 209 }, { hash := PyData.keyHash P (Str.ofString "_law_number"), key := .str (Str.ofString "_law_number") 459, val := .ref 216 }, { hash := PyData.keyHash P (Str.ofString "_law_row_of"), key := .str (Str.ofString "_law_row_of") 465, val := .ref 221 }, { hash := PyData.keyHash P (Str.ofString "_law_due"), key := .str (Str.ofString "_law_due") 474, val := .ref 228 }, { hash := PyData.keyHash P (Str.ofString "_law_read"), key := .str (Str.ofString "_law_read") 483, val := .ref 235 }, { hash := PyData.keyHash P (Str.ofString "_law_rows"), key := .str (Str.ofString "_law_rows") 489, val := .ref 240 }, { hash := PyData.keyHash P (Str.ofString "_law_spoiled"), key := .str (Str.ofString "_law_spoiled") 500, val := .ref 247 }, { hash := PyData.keyHash P (Str.ofString "law"), key := .str (Str.ofString "law") 516, val := .ref 254 }] 35 }
noncomputable def o12v8 (P : Params) : Obj := { cls := .none, data := .fields #[.int 1 0, .int 0 0, .ref 20, .int 5 0, .int 0 0, .ref 27, .int 7 0, .int 0 0, .ref 40, .int 9 0, .int 0 0, .ref 52, .int 11 0, .int 0 0, .ref 64, .int 13 0, .int 0 0, .ref 76, .int 18 0, .int 0 0, .ref 88, .int 20 0, .int 0 0, .ref 95, .int 28 0, .int 0 0, .ref 102, .int 41 0, .int 0 0, .ref 109, .int 71 0, .int 0 0, .ref 170, .int 75 0, .int 0 0, .ref 175, .int 84 0, .int 0 0, .ref 180, .int 88 0, .int 0 0, .ref 187, .int 92 0, .int 0 0, .ref 194, .int 94 0, .int 0 0, .ref 201, .int 101 0, .int 0 0, .ref 208, .int 112 0, .int 0 0, .ref 215, .int 122 0, .int 0 0, .ref 220, .int 131 0, .int 0 0, .ref 227, .int 137 0, .int 0 0, .ref 234, .int 153 0, .int 0 0, .ref 239, .int 164 0, .int 0 0, .ref 246, .int 174 0, .int 0 0, .ref 253] }
noncomputable def o241 (P : Params) : Obj := { cls := .type "tuple", data := .seq #[] }
noncomputable def o242 (P : Params) : Obj := { cls := .none, data := .fields #[] }
noncomputable def o243 (P : Params) : Obj := { cls := .type "tuple", data := .seq #[.str (Str.ofString "_law_script") 493, .str (Str.ofString "_law_rows_here") 494, .str (Str.ofString "_law_at") 495, .str (Str.ofString "_law_size") 496, .str (Str.ofString "_law_cell") 497] }
noncomputable def o244 (P : Params) : Obj := { cls := .type "tuple", data := .seq #[] }
noncomputable def o245 (P : Params) : Obj := { cls := .none, data := .func { name := Str.ofString "_law_spoiled", qualname := Str.ofString "_law_spoiled", params := sArgs F__law_spoiled, body := PySem.FuncBody.stmts (sBody F__law_spoiled), scope := sScope F__law_spoiled, globals := 0, closure := [], defaults := .none, kwdefaults := .none } }
noncomputable def o246 (P : Params) : Obj := { cls := .type "code", data := .fields #[.str (Str.ofString "_law_spoiled") 490, .str (Str.ofString "_law_spoiled") 491, .str (Str.ofString "/claim/cut.py") 492, .int 164 0, .int 3 0, .int 0 0, .int 0 0, .int 3 0, .ref 241, .bool Bool.true, .int 181 0, .ref 242, .none, .ref 243, .ref 244, .ref 245, .int 498 0, .int 164 0, .str (Str.ofString "/claim/cut.py") 499] }
noncomputable def o247 (P : Params) : Obj := { cls := .type "function", data := .func { name := Str.ofString "_law_spoiled", qualname := Str.ofString "_law_spoiled", params := sArgs F__law_spoiled, body := PySem.FuncBody.stmts (sBody F__law_spoiled), scope := sScope F__law_spoiled, globals := 3, closure := [], defaults := .none, kwdefaults := .none, pyModule := .str (Str.ofString "law_uf040023_08") 411, code := .ref 246 } }
noncomputable def o248 (P : Params) : Obj := { cls := .type "tuple", data := .seq #[] }
noncomputable def o249 (P : Params) : Obj := { cls := .none, data := .fields #[] }
noncomputable def o250 (P : Params) : Obj := { cls := .type "tuple", data := .seq #[.str (Str.ofString "_law_script") 504, .str (Str.ofString "_law_cell") 505, .str (Str.ofString "_law_size") 506, .str (Str.ofString "_law_at") 507, .str (Str.ofString "_law_rows_here") 508, .str (Str.ofString "_law_bad") 509, .str (Str.ofString "_law_other") 510, .str (Str.ofString "_law_found") 511, .str (Str.ofString "_law_place") 512, .str (Str.ofString "_law_due_here") 513] }
noncomputable def o251 (P : Params) : Obj := { cls := .type "tuple", data := .seq #[] }
noncomputable def o252 (P : Params) : Obj := { cls := .none, data := .func { name := Str.ofString "law", qualname := Str.ofString "law", params := sArgs F_law, body := PySem.FuncBody.stmts (sBody F_law), scope := sScope F_law, globals := 0, closure := [], defaults := .none, kwdefaults := .none } }
noncomputable def o253 (P : Params) : Obj := { cls := .type "code", data := .fields #[.str (Str.ofString "law") 501, .str (Str.ofString "law") 502, .str (Str.ofString "/claim/cut.py") 503, .int 174 0, .int 1 0, .int 0 0, .int 0 0, .int 3 0, .ref 248, .bool Bool.true, .int 181 0, .ref 249, .none, .ref 250, .ref 251, .ref 252, .int 514 0, .int 174 0, .str (Str.ofString "/claim/cut.py") 515] }
noncomputable def o254 (P : Params) : Obj := { cls := .type "function", data := .func { name := Str.ofString "law", qualname := Str.ofString "law", params := sArgs F_law, body := PySem.FuncBody.stmts (sBody F_law), scope := sScope F_law, globals := 3, closure := [], defaults := .none, kwdefaults := .none, pyModule := .str (Str.ofString "law_uf040023_08") 411, code := .ref 253 } }
noncomputable def h0 (P : Params) : Heap := ⟨⟨[boot_o_0 P, boot_o_1 P, boot_o_2 P, boot_o_3 P, boot_o_4 P, boot_o_5 P, boot_o_6 P, boot_o_7 P, boot_o_8 P, boot_o_9 P, boot_o_10 P, o11 P, o12 P, o13 P, o14 P]⟩, { }⟩
noncomputable abbrev S0 (w : World) (os : OsState) : Shared := ⟨h0 w.params, #[], { }, 187, os⟩
noncomputable def t1 (P : Params) : BT := (.node (boot_o_0 P) (.node (boot_o_1 P) (.node (boot_o_3 P) (.node (boot_o_7 P) .nil .nil) (.node (o11 P) .nil .nil)) (.node (boot_o_5 P) (.node (boot_o_9 P) .nil .nil) (.node (o13 P) .nil .nil))) (.node (boot_o_2 P) (.node (boot_o_4 P) (.node (boot_o_8 P) .nil .nil) (.node (o12 P) .nil .nil)) (.node (boot_o_6 P) (.node (boot_o_10 P) .nil .nil) (.node (o14 P) .nil .nil))))
noncomputable abbrev T1 (w : World) (os : OsState) : SharedT := ⟨t1 w.params, 15, { }, #[], { }, 187, os⟩
noncomputable def t2 (P : Params) : BT := (.node (boot_o_0 P) (.node (boot_o_1 P) (.node (o3 P) (.node (boot_o_7 P) (.node (o15 P) (.node (o31 P) .nil .nil) .nil) (.node (o23 P) .nil .nil)) (.node (o11 P) (.node (o19 P) .nil .nil) (.node (o27 P) .nil .nil))) (.node (boot_o_5 P) (.node (boot_o_9 P) (.node (o17 P) (.node (o33 P) .nil .nil) .nil) (.node (o25 P) .nil .nil)) (.node (o13 P) (.node (o21 P) .nil .nil) (.node (o29 P) .nil .nil)))) (.node (boot_o_2 P) (.node (boot_o_4 P) (.node (boot_o_8 P) (.node (o16 P) (.node (o32 P) .nil .nil) .nil) (.node (o24 P) .nil .nil)) (.node (o12v1 P) (.node (o20 P) .nil .nil) (.node (o28 P) .nil .nil))) (.node (boot_o_6 P) (.node (boot_o_10 P) (.node (o18 P) (.node (o34 P) .nil .nil) .nil) (.node (o26 P) .nil .nil)) (.node (o14 P) (.node (o22 P) .nil .nil) (.node (o30 P) .nil .nil)))))
noncomputable abbrev T2 (w : World) (os : OsState) : SharedT := ⟨t2 w.params, 35, { }, #[], { }, 214, os⟩
noncomputable abbrev L2 : List Stmt := (pb.drop 0).take 3
noncomputable def t3 (P : Params) : BT := (.node (boot_o_0 P) (.node (boot_o_1 P) (.node (o3v1 P) (.node (boot_o_7 P) (.node (o15 P) (.node (o31v1 P) .nil .nil) .nil) (.node (o23 P) (.node (o39 P) .nil .nil) .nil)) (.node (o11 P) (.node (o19 P) (.node (o35 P) .nil .nil) .nil) (.node (o27 P) (.node (o43 P) .nil .nil) .nil))) (.node (boot_o_5 P) (.node (boot_o_9 P) (.node (o17 P) (.node (o33 P) .nil .nil) .nil) (.node (o25 P) (.node (o41 P) .nil .nil) .nil)) (.node (o13 P) (.node (o21 P) (.node (o37 P) .nil .nil) .nil) (.node (o29 P) (.node (o45 P) .nil .nil) .nil)))) (.node (boot_o_2 P) (.node (boot_o_4 P) (.node (boot_o_8 P) (.node (o16 P) (.node (o32 P) .nil .nil) .nil) (.node (o24 P) (.node (o40 P) .nil .nil) .nil)) (.node (o12v2 P) (.node (o20 P) (.node (o36 P) .nil .nil) .nil) (.node (o28 P) (.node (o44 P) .nil .nil) .nil))) (.node (boot_o_6 P) (.node (boot_o_10 P) (.node (o18 P) (.node (o34 P) .nil .nil) .nil) (.node (o26 P) (.node (o42 P) .nil .nil) .nil)) (.node (o14 P) (.node (o22 P) (.node (o38 P) .nil .nil) .nil) (.node (o30 P) (.node (o46 P) .nil .nil) .nil)))))
noncomputable abbrev T3 (w : World) (os : OsState) : SharedT := ⟨t3 w.params, 47, { }, #[], { }, 230, os⟩
noncomputable abbrev L3 : List Stmt := (pb.drop 3).take 1
noncomputable def t4 (P : Params) : BT := (.node (boot_o_0 P) (.node (boot_o_1 P) (.node (o3v2 P) (.node (boot_o_7 P) (.node (o15 P) (.node (o31v2 P) .nil .nil) (.node (o47 P) .nil .nil)) (.node (o23 P) (.node (o39 P) .nil .nil) (.node (o55 P) .nil .nil))) (.node (o11 P) (.node (o19 P) (.node (o35 P) .nil .nil) (.node (o51 P) .nil .nil)) (.node (o27 P) (.node (o43 P) .nil .nil) .nil))) (.node (boot_o_5 P) (.node (boot_o_9 P) (.node (o17 P) (.node (o33 P) .nil .nil) (.node (o49 P) .nil .nil)) (.node (o25 P) (.node (o41 P) .nil .nil) (.node (o57 P) .nil .nil))) (.node (o13 P) (.node (o21 P) (.node (o37 P) .nil .nil) (.node (o53 P) .nil .nil)) (.node (o29 P) (.node (o45 P) .nil .nil) .nil)))) (.node (boot_o_2 P) (.node (boot_o_4 P) (.node (boot_o_8 P) (.node (o16 P) (.node (o32 P) .nil .nil) (.node (o48 P) .nil .nil)) (.node (o24 P) (.node (o40 P) .nil .nil) (.node (o56 P) .nil .nil))) (.node (o12v3 P) (.node (o20 P) (.node (o36 P) .nil .nil) (.node (o52 P) .nil .nil)) (.node (o28 P) (.node (o44 P) .nil .nil) .nil))) (.node (boot_o_6 P) (.node (boot_o_10 P) (.node (o18 P) (.node (o34 P) .nil .nil) (.node (o50 P) .nil .nil)) (.node (o26 P) (.node (o42 P) .nil .nil) (.node (o58 P) .nil .nil))) (.node (o14 P) (.node (o22 P) (.node (o38 P) .nil .nil) (.node (o54 P) .nil .nil)) (.node (o30 P) (.node (o46 P) .nil .nil) .nil)))))
noncomputable abbrev T4 (w : World) (os : OsState) : SharedT := ⟨t4 w.params, 59, { }, #[], { }, 246, os⟩
noncomputable abbrev L4 : List Stmt := (pb.drop 4).take 1
noncomputable def t5 (P : Params) : BT := (.node (boot_o_0 P) (.node (boot_o_1 P) (.node (o3v3 P) (.node (boot_o_7 P) (.node (o15 P) (.node (o31v3 P) (.node (o63 P) .nil .nil) .nil) (.node (o47 P) .nil .nil)) (.node (o23 P) (.node (o39 P) .nil .nil) (.node (o55 P) .nil .nil))) (.node (o11 P) (.node (o19 P) (.node (o35 P) (.node (o67 P) .nil .nil) .nil) (.node (o51 P) .nil .nil)) (.node (o27 P) (.node (o43 P) .nil .nil) (.node (o59 P) .nil .nil)))) (.node (boot_o_5 P) (.node (boot_o_9 P) (.node (o17 P) (.node (o33 P) (.node (o65 P) .nil .nil) .nil) (.node (o49 P) .nil .nil)) (.node (o25 P) (.node (o41 P) .nil .nil) (.node (o57 P) .nil .nil))) (.node (o13 P) (.node (o21 P) (.node (o37 P) (.node (o69 P) .nil .nil) .nil) (.node (o53 P) .nil .nil)) (.node (o29 P) (.node (o45 P) .nil .nil) (.node (o61 P) .nil .nil))))) (.node (boot_o_2 P) (.node (boot_o_4 P) (.node (boot_o_8 P) (.node (o16 P) (.node (o32 P) (.node (o64 P) .nil .nil) .nil) (.node (o48 P) .nil .nil)) (.node (o24 P) (.node (o40 P) .nil .nil) (.node (o56 P) .nil .nil))) (.node (o12v4 P) (.node (o20 P) (.node (o36 P) (.node (o68 P) .nil .nil) .nil) (.node (o52 P) .nil .nil)) (.node (o28 P) (.node (o44 P) .nil .nil) (.node (o60 P) .nil .nil)))) (.node (boot_o_6 P) (.node (boot_o_10 P) (.node (o18 P) (.node (o34 P) (.node (o66 P) .nil .nil) .nil) (.node (o50 P) .nil .nil)) (.node (o26 P) (.node (o42 P) .nil .nil) (.node (o58 P) .nil .nil))) (.node (o14 P) (.node (o22 P) (.node (o38 P) (.node (o70 P) .nil .nil) .nil) (.node (o54 P) .nil .nil)) (.node (o30 P) (.node (o46 P) .nil .nil) (.node (o62 P) .nil .nil))))))
noncomputable abbrev T5 (w : World) (os : OsState) : SharedT := ⟨t5 w.params, 71, { }, #[], { }, 262, os⟩
noncomputable abbrev L5 : List Stmt := (pb.drop 5).take 1
noncomputable def t6 (P : Params) : BT := (.node (boot_o_0 P) (.node (boot_o_1 P) (.node (o3v4 P) (.node (boot_o_7 P) (.node (o15 P) (.node (o31v4 P) (.node (o63 P) .nil .nil) (.node (o95 P) .nil .nil)) (.node (o47 P) (.node (o79 P) .nil .nil) .nil)) (.node (o23 P) (.node (o39 P) (.node (o71 P) .nil .nil) (.node (o103 P) .nil .nil)) (.node (o55 P) (.node (o87 P) .nil .nil) .nil))) (.node (o11 P) (.node (o19 P) (.node (o35 P) (.node (o67 P) .nil .nil) (.node (o99 P) .nil .nil)) (.node (o51 P) (.node (o83 P) .nil .nil) .nil)) (.node (o27 P) (.node (o43 P) (.node (o75 P) .nil .nil) .nil) (.node (o59 P) (.node (o91 P) .nil .nil) .nil)))) (.node (boot_o_5 P) (.node (boot_o_9 P) (.node (o17 P) (.node (o33 P) (.node (o65 P) .nil .nil) (.node (o97 P) .nil .nil)) (.node (o49 P) (.node (o81 P) .nil .nil) .nil)) (.node (o25 P) (.node (o41 P) (.node (o73 P) .nil .nil) .nil) (.node (o57 P) (.node (o89 P) .nil .nil) .nil))) (.node (o13 P) (.node (o21 P) (.node (o37 P) (.node (o69 P) .nil .nil) (.node (o101 P) .nil .nil)) (.node (o53 P) (.node (o85 P) .nil .nil) .nil)) (.node (o29 P) (.node (o45 P) (.node (o77 P) .nil .nil) .nil) (.node (o61 P) (.node (o93 P) .nil .nil) .nil))))) (.node (boot_o_2 P) (.node (boot_o_4 P) (.node (boot_o_8 P) (.node (o16 P) (.node (o32 P) (.node (o64 P) .nil .nil) (.node (o96 P) .nil .nil)) (.node (o48 P) (.node (o80 P) .nil .nil) .nil)) (.node (o24 P) (.node (o40 P) (.node (o72 P) .nil .nil) .nil) (.node (o56 P) (.node (o88 P) .nil .nil) .nil))) (.node (o12v5 P) (.node (o20 P) (.node (o36 P) (.node (o68 P) .nil .nil) (.node (o100 P) .nil .nil)) (.node (o52 P) (.node (o84 P) .nil .nil) .nil)) (.node (o28 P) (.node (o44 P) (.node (o76 P) .nil .nil) .nil) (.node (o60 P) (.node (o92 P) .nil .nil) .nil)))) (.node (boot_o_6 P) (.node (boot_o_10 P) (.node (o18 P) (.node (o34 P) (.node (o66 P) .nil .nil) (.node (o98 P) .nil .nil)) (.node (o50 P) (.node (o82 P) .nil .nil) .nil)) (.node (o26 P) (.node (o42 P) (.node (o74 P) .nil .nil) .nil) (.node (o58 P) (.node (o90 P) .nil .nil) .nil))) (.node (o14 P) (.node (o22 P) (.node (o38 P) (.node (o70 P) .nil .nil) (.node (o102 P) .nil .nil)) (.node (o54 P) (.node (o86 P) .nil .nil) .nil)) (.node (o30 P) (.node (o46 P) (.node (o78 P) .nil .nil) .nil) (.node (o62 P) (.node (o94 P) .nil .nil) .nil))))))
noncomputable abbrev T6 (w : World) (os : OsState) : SharedT := ⟨t6 w.params, 104, { }, #[], { }, 314, os⟩
noncomputable abbrev L6 : List Stmt := (pb.drop 6).take 7
noncomputable def t7 (P : Params) : BT := (.node (boot_o_0 P) (.node (boot_o_1 P) (.node (o3v5 P) (.node (boot_o_7 P) (.node (o15 P) (.node (o31v4 P) (.node (o63 P) (.node (o127 P) .nil .nil) .nil) (.node (o95 P) (.node (o159 P) .nil .nil) .nil)) (.node (o47 P) (.node (o79 P) (.node (o143 P) .nil .nil) .nil) (.node (o111 P) .nil .nil))) (.node (o23 P) (.node (o39 P) (.node (o71 P) (.node (o135 P) .nil .nil) .nil) (.node (o103 P) .nil .nil)) (.node (o55 P) (.node (o87 P) (.node (o151 P) .nil .nil) .nil) (.node (o119 P) .nil .nil)))) (.node (o11 P) (.node (o19 P) (.node (o35 P) (.node (o67 P) (.node (o131 P) .nil .nil) .nil) (.node (o99 P) (.node (o163 P) .nil .nil) .nil)) (.node (o51 P) (.node (o83 P) (.node (o147 P) .nil .nil) .nil) (.node (o115 P) .nil .nil))) (.node (o27 P) (.node (o43 P) (.node (o75 P) (.node (o139 P) .nil .nil) .nil) (.node (o107 P) .nil .nil)) (.node (o59 P) (.node (o91 P) (.node (o155 P) .nil .nil) .nil) (.node (o123 P) .nil .nil))))) (.node (boot_o_5 P) (.node (boot_o_9 P) (.node (o17 P) (.node (o33 P) (.node (o65 P) (.node (o129 P) .nil .nil) .nil) (.node (o97 P) (.node (o161 P) .nil .nil) .nil)) (.node (o49 P) (.node (o81 P) (.node (o145 P) .nil .nil) .nil) (.node (o113 P) .nil .nil))) (.node (o25 P) (.node (o41 P) (.node (o73 P) (.node (o137 P) .nil .nil) .nil) (.node (o105 P) .nil .nil)) (.node (o57 P) (.node (o89 P) (.node (o153 P) .nil .nil) .nil) (.node (o121 P) .nil .nil)))) (.node (o13 P) (.node (o21 P) (.node (o37 P) (.node (o69 P) (.node (o133 P) .nil .nil) .nil) (.node (o101 P) .nil .nil)) (.node (o53 P) (.node (o85 P) (.node (o149 P) .nil .nil) .nil) (.node (o117 P) .nil .nil))) (.node (o29 P) (.node (o45 P) (.node (o77 P) (.node (o141 P) .nil .nil) .nil) (.node (o109 P) .nil .nil)) (.node (o61 P) (.node (o93 P) (.node (o157 P) .nil .nil) .nil) (.node (o125 P) .nil .nil)))))) (.node (boot_o_2 P) (.node (boot_o_4 P) (.node (boot_o_8 P) (.node (o16 P) (.node (o32 P) (.node (o64 P) (.node (o128 P) .nil .nil) .nil) (.node (o96 P) (.node (o160 P) .nil .nil) .nil)) (.node (o48 P) (.node (o80 P) (.node (o144 P) .nil .nil) .nil) (.node (o112 P) .nil .nil))) (.node (o24 P) (.node (o40 P) (.node (o72 P) (.node (o136 P) .nil .nil) .nil) (.node (o104 P) .nil .nil)) (.node (o56 P) (.node (o88 P) (.node (o152 P) .nil .nil) .nil) (.node (o120 P) .nil .nil)))) (.node (o12v6 P) (.node (o20 P) (.node (o36 P) (.node (o68 P) (.node (o132 P) .nil .nil) .nil) (.node (o100 P) (.node (o164 P) .nil .nil) .nil)) (.node (o52 P) (.node (o84 P) (.node (o148 P) .nil .nil) .nil) (.node (o116 P) .nil .nil))) (.node (o28 P) (.node (o44 P) (.node (o76 P) (.node (o140 P) .nil .nil) .nil) (.node (o108 P) .nil .nil)) (.node (o60 P) (.node (o92 P) (.node (o156 P) .nil .nil) .nil) (.node (o124 P) .nil .nil))))) (.node (boot_o_6 P) (.node (boot_o_10 P) (.node (o18 P) (.node (o34 P) (.node (o66 P) (.node (o130 P) .nil .nil) .nil) (.node (o98 P) (.node (o162 P) .nil .nil) .nil)) (.node (o50 P) (.node (o82 P) (.node (o146 P) .nil .nil) .nil) (.node (o114 P) .nil .nil))) (.node (o26 P) (.node (o42 P) (.node (o74 P) (.node (o138 P) .nil .nil) .nil) (.node (o106 P) .nil .nil)) (.node (o58 P) (.node (o90 P) (.node (o154 P) .nil .nil) .nil) (.node (o122 P) .nil .nil)))) (.node (o14 P) (.node (o22 P) (.node (o38 P) (.node (o70 P) (.node (o134 P) .nil .nil) .nil) (.node (o102 P) .nil .nil)) (.node (o54 P) (.node (o86 P) (.node (o150 P) .nil .nil) .nil) (.node (o118 P) .nil .nil))) (.node (o30 P) (.node (o46 P) (.node (o78 P) (.node (o142 P) .nil .nil) .nil) (.node (o110 P) .nil .nil)) (.node (o62 P) (.node (o94 P) (.node (o158 P) .nil .nil) .nil) (.node (o126 P) .nil .nil)))))))
noncomputable abbrev T7 (w : World) (os : OsState) : SharedT := ⟨t7 w.params, 165, { }, #[], { }, 390, os⟩
noncomputable abbrev L7 : List Stmt := (pb.drop 13).take 1
noncomputable def t8 (P : Params) : BT := (.node (boot_o_0 P) (.node (boot_o_1 P) (.node (o3v6 P) (.node (boot_o_7 P) (.node (o15 P) (.node (o31v4 P) (.node (o63 P) (.node (o127 P) .nil .nil) (.node (o191 P) .nil .nil)) (.node (o95 P) (.node (o159 P) .nil .nil) (.node (o223 P) .nil .nil))) (.node (o47 P) (.node (o79 P) (.node (o143 P) .nil .nil) (.node (o207 P) .nil .nil)) (.node (o111 P) (.node (o175 P) .nil .nil) (.node (o239 P) .nil .nil)))) (.node (o23 P) (.node (o39 P) (.node (o71 P) (.node (o135 P) .nil .nil) (.node (o199 P) .nil .nil)) (.node (o103 P) (.node (o167 P) .nil .nil) (.node (o231 P) .nil .nil))) (.node (o55 P) (.node (o87 P) (.node (o151 P) .nil .nil) (.node (o215 P) .nil .nil)) (.node (o119 P) (.node (o183 P) .nil .nil) .nil)))) (.node (o11 P) (.node (o19 P) (.node (o35 P) (.node (o67 P) (.node (o131 P) .nil .nil) (.node (o195 P) .nil .nil)) (.node (o99 P) (.node (o163 P) .nil .nil) (.node (o227 P) .nil .nil))) (.node (o51 P) (.node (o83 P) (.node (o147 P) .nil .nil) (.node (o211 P) .nil .nil)) (.node (o115 P) (.node (o179 P) .nil .nil) .nil))) (.node (o27 P) (.node (o43 P) (.node (o75 P) (.node (o139 P) .nil .nil) (.node (o203 P) .nil .nil)) (.node (o107 P) (.node (o171 P) .nil .nil) (.node (o235 P) .nil .nil))) (.node (o59 P) (.node (o91 P) (.node (o155 P) .nil .nil) (.node (o219 P) .nil .nil)) (.node (o123 P) (.node (o187 P) .nil .nil) .nil))))) (.node (boot_o_5 P) (.node (boot_o_9 P) (.node (o17 P) (.node (o33 P) (.node (o65 P) (.node (o129 P) .nil .nil) (.node (o193 P) .nil .nil)) (.node (o97 P) (.node (o161 P) .nil .nil) (.node (o225 P) .nil .nil))) (.node (o49 P) (.node (o81 P) (.node (o145 P) .nil .nil) (.node (o209 P) .nil .nil)) (.node (o113 P) (.node (o177 P) .nil .nil) .nil))) (.node (o25 P) (.node (o41 P) (.node (o73 P) (.node (o137 P) .nil .nil) (.node (o201 P) .nil .nil)) (.node (o105 P) (.node (o169 P) .nil .nil) (.node (o233 P) .nil .nil))) (.node (o57 P) (.node (o89 P) (.node (o153 P) .nil .nil) (.node (o217 P) .nil .nil)) (.node (o121 P) (.node (o185 P) .nil .nil) .nil)))) (.node (o13 P) (.node (o21 P) (.node (o37 P) (.node (o69 P) (.node (o133 P) .nil .nil) (.node (o197 P) .nil .nil)) (.node (o101 P) (.node (o165 P) .nil .nil) (.node (o229 P) .nil .nil))) (.node (o53 P) (.node (o85 P) (.node (o149 P) .nil .nil) (.node (o213 P) .nil .nil)) (.node (o117 P) (.node (o181 P) .nil .nil) .nil))) (.node (o29 P) (.node (o45 P) (.node (o77 P) (.node (o141 P) .nil .nil) (.node (o205 P) .nil .nil)) (.node (o109 P) (.node (o173 P) .nil .nil) (.node (o237 P) .nil .nil))) (.node (o61 P) (.node (o93 P) (.node (o157 P) .nil .nil) (.node (o221 P) .nil .nil)) (.node (o125 P) (.node (o189 P) .nil .nil) .nil)))))) (.node (boot_o_2 P) (.node (boot_o_4 P) (.node (boot_o_8 P) (.node (o16 P) (.node (o32 P) (.node (o64 P) (.node (o128 P) .nil .nil) (.node (o192 P) .nil .nil)) (.node (o96 P) (.node (o160 P) .nil .nil) (.node (o224 P) .nil .nil))) (.node (o48 P) (.node (o80 P) (.node (o144 P) .nil .nil) (.node (o208 P) .nil .nil)) (.node (o112 P) (.node (o176 P) .nil .nil) (.node (o240 P) .nil .nil)))) (.node (o24 P) (.node (o40 P) (.node (o72 P) (.node (o136 P) .nil .nil) (.node (o200 P) .nil .nil)) (.node (o104 P) (.node (o168 P) .nil .nil) (.node (o232 P) .nil .nil))) (.node (o56 P) (.node (o88 P) (.node (o152 P) .nil .nil) (.node (o216 P) .nil .nil)) (.node (o120 P) (.node (o184 P) .nil .nil) .nil)))) (.node (o12v7 P) (.node (o20 P) (.node (o36 P) (.node (o68 P) (.node (o132 P) .nil .nil) (.node (o196 P) .nil .nil)) (.node (o100 P) (.node (o164 P) .nil .nil) (.node (o228 P) .nil .nil))) (.node (o52 P) (.node (o84 P) (.node (o148 P) .nil .nil) (.node (o212 P) .nil .nil)) (.node (o116 P) (.node (o180 P) .nil .nil) .nil))) (.node (o28 P) (.node (o44 P) (.node (o76 P) (.node (o140 P) .nil .nil) (.node (o204 P) .nil .nil)) (.node (o108 P) (.node (o172 P) .nil .nil) (.node (o236 P) .nil .nil))) (.node (o60 P) (.node (o92 P) (.node (o156 P) .nil .nil) (.node (o220 P) .nil .nil)) (.node (o124 P) (.node (o188 P) .nil .nil) .nil))))) (.node (boot_o_6 P) (.node (boot_o_10 P) (.node (o18 P) (.node (o34 P) (.node (o66 P) (.node (o130 P) .nil .nil) (.node (o194 P) .nil .nil)) (.node (o98 P) (.node (o162 P) .nil .nil) (.node (o226 P) .nil .nil))) (.node (o50 P) (.node (o82 P) (.node (o146 P) .nil .nil) (.node (o210 P) .nil .nil)) (.node (o114 P) (.node (o178 P) .nil .nil) .nil))) (.node (o26 P) (.node (o42 P) (.node (o74 P) (.node (o138 P) .nil .nil) (.node (o202 P) .nil .nil)) (.node (o106 P) (.node (o170 P) .nil .nil) (.node (o234 P) .nil .nil))) (.node (o58 P) (.node (o90 P) (.node (o154 P) .nil .nil) (.node (o218 P) .nil .nil)) (.node (o122 P) (.node (o186 P) .nil .nil) .nil)))) (.node (o14 P) (.node (o22 P) (.node (o38 P) (.node (o70 P) (.node (o134 P) .nil .nil) (.node (o198 P) .nil .nil)) (.node (o102 P) (.node (o166 P) .nil .nil) (.node (o230 P) .nil .nil))) (.node (o54 P) (.node (o86 P) (.node (o150 P) .nil .nil) (.node (o214 P) .nil .nil)) (.node (o118 P) (.node (o182 P) .nil .nil) .nil))) (.node (o30 P) (.node (o46 P) (.node (o78 P) (.node (o142 P) .nil .nil) (.node (o206 P) .nil .nil)) (.node (o110 P) (.node (o174 P) .nil .nil) (.node (o238 P) .nil .nil))) (.node (o62 P) (.node (o94 P) (.node (o158 P) .nil .nil) (.node (o222 P) .nil .nil)) (.node (o126 P) (.node (o190 P) .nil .nil) .nil)))))))
noncomputable abbrev T8 (w : World) (os : OsState) : SharedT := ⟨t8 w.params, 241, { }, #[], { }, 490, os⟩
noncomputable abbrev L8 : List Stmt := (pb.drop 14).take 14
noncomputable def t9 (P : Params) : BT := (.node (boot_o_0 P) (.node (boot_o_1 P) (.node (o3v7 P) (.node (boot_o_7 P) (.node (o15 P) (.node (o31v4 P) (.node (o63 P) (.node (o127 P) .nil .nil) (.node (o191 P) .nil .nil)) (.node (o95 P) (.node (o159 P) .nil .nil) (.node (o223 P) .nil .nil))) (.node (o47 P) (.node (o79 P) (.node (o143 P) .nil .nil) (.node (o207 P) .nil .nil)) (.node (o111 P) (.node (o175 P) .nil .nil) (.node (o239 P) .nil .nil)))) (.node (o23 P) (.node (o39 P) (.node (o71 P) (.node (o135 P) .nil .nil) (.node (o199 P) .nil .nil)) (.node (o103 P) (.node (o167 P) .nil .nil) (.node (o231 P) .nil .nil))) (.node (o55 P) (.node (o87 P) (.node (o151 P) .nil .nil) (.node (o215 P) .nil .nil)) (.node (o119 P) (.node (o183 P) .nil .nil) (.node (o247 P) .nil .nil))))) (.node (o11 P) (.node (o19 P) (.node (o35 P) (.node (o67 P) (.node (o131 P) .nil .nil) (.node (o195 P) .nil .nil)) (.node (o99 P) (.node (o163 P) .nil .nil) (.node (o227 P) .nil .nil))) (.node (o51 P) (.node (o83 P) (.node (o147 P) .nil .nil) (.node (o211 P) .nil .nil)) (.node (o115 P) (.node (o179 P) .nil .nil) (.node (o243 P) .nil .nil)))) (.node (o27 P) (.node (o43 P) (.node (o75 P) (.node (o139 P) .nil .nil) (.node (o203 P) .nil .nil)) (.node (o107 P) (.node (o171 P) .nil .nil) (.node (o235 P) .nil .nil))) (.node (o59 P) (.node (o91 P) (.node (o155 P) .nil .nil) (.node (o219 P) .nil .nil)) (.node (o123 P) (.node (o187 P) .nil .nil) (.node (o251 P) .nil .nil)))))) (.node (boot_o_5 P) (.node (boot_o_9 P) (.node (o17 P) (.node (o33 P) (.node (o65 P) (.node (o129 P) .nil .nil) (.node (o193 P) .nil .nil)) (.node (o97 P) (.node (o161 P) .nil .nil) (.node (o225 P) .nil .nil))) (.node (o49 P) (.node (o81 P) (.node (o145 P) .nil .nil) (.node (o209 P) .nil .nil)) (.node (o113 P) (.node (o177 P) .nil .nil) (.node (o241 P) .nil .nil)))) (.node (o25 P) (.node (o41 P) (.node (o73 P) (.node (o137 P) .nil .nil) (.node (o201 P) .nil .nil)) (.node (o105 P) (.node (o169 P) .nil .nil) (.node (o233 P) .nil .nil))) (.node (o57 P) (.node (o89 P) (.node (o153 P) .nil .nil) (.node (o217 P) .nil .nil)) (.node (o121 P) (.node (o185 P) .nil .nil) (.node (o249 P) .nil .nil))))) (.node (o13 P) (.node (o21 P) (.node (o37 P) (.node (o69 P) (.node (o133 P) .nil .nil) (.node (o197 P) .nil .nil)) (.node (o101 P) (.node (o165 P) .nil .nil) (.node (o229 P) .nil .nil))) (.node (o53 P) (.node (o85 P) (.node (o149 P) .nil .nil) (.node (o213 P) .nil .nil)) (.node (o117 P) (.node (o181 P) .nil .nil) (.node (o245 P) .nil .nil)))) (.node (o29 P) (.node (o45 P) (.node (o77 P) (.node (o141 P) .nil .nil) (.node (o205 P) .nil .nil)) (.node (o109 P) (.node (o173 P) .nil .nil) (.node (o237 P) .nil .nil))) (.node (o61 P) (.node (o93 P) (.node (o157 P) .nil .nil) (.node (o221 P) .nil .nil)) (.node (o125 P) (.node (o189 P) .nil .nil) (.node (o253 P) .nil .nil))))))) (.node (boot_o_2 P) (.node (boot_o_4 P) (.node (boot_o_8 P) (.node (o16 P) (.node (o32 P) (.node (o64 P) (.node (o128 P) .nil .nil) (.node (o192 P) .nil .nil)) (.node (o96 P) (.node (o160 P) .nil .nil) (.node (o224 P) .nil .nil))) (.node (o48 P) (.node (o80 P) (.node (o144 P) .nil .nil) (.node (o208 P) .nil .nil)) (.node (o112 P) (.node (o176 P) .nil .nil) (.node (o240 P) .nil .nil)))) (.node (o24 P) (.node (o40 P) (.node (o72 P) (.node (o136 P) .nil .nil) (.node (o200 P) .nil .nil)) (.node (o104 P) (.node (o168 P) .nil .nil) (.node (o232 P) .nil .nil))) (.node (o56 P) (.node (o88 P) (.node (o152 P) .nil .nil) (.node (o216 P) .nil .nil)) (.node (o120 P) (.node (o184 P) .nil .nil) (.node (o248 P) .nil .nil))))) (.node (o12v8 P) (.node (o20 P) (.node (o36 P) (.node (o68 P) (.node (o132 P) .nil .nil) (.node (o196 P) .nil .nil)) (.node (o100 P) (.node (o164 P) .nil .nil) (.node (o228 P) .nil .nil))) (.node (o52 P) (.node (o84 P) (.node (o148 P) .nil .nil) (.node (o212 P) .nil .nil)) (.node (o116 P) (.node (o180 P) .nil .nil) (.node (o244 P) .nil .nil)))) (.node (o28 P) (.node (o44 P) (.node (o76 P) (.node (o140 P) .nil .nil) (.node (o204 P) .nil .nil)) (.node (o108 P) (.node (o172 P) .nil .nil) (.node (o236 P) .nil .nil))) (.node (o60 P) (.node (o92 P) (.node (o156 P) .nil .nil) (.node (o220 P) .nil .nil)) (.node (o124 P) (.node (o188 P) .nil .nil) (.node (o252 P) .nil .nil)))))) (.node (boot_o_6 P) (.node (boot_o_10 P) (.node (o18 P) (.node (o34 P) (.node (o66 P) (.node (o130 P) .nil .nil) (.node (o194 P) .nil .nil)) (.node (o98 P) (.node (o162 P) .nil .nil) (.node (o226 P) .nil .nil))) (.node (o50 P) (.node (o82 P) (.node (o146 P) .nil .nil) (.node (o210 P) .nil .nil)) (.node (o114 P) (.node (o178 P) .nil .nil) (.node (o242 P) .nil .nil)))) (.node (o26 P) (.node (o42 P) (.node (o74 P) (.node (o138 P) .nil .nil) (.node (o202 P) .nil .nil)) (.node (o106 P) (.node (o170 P) .nil .nil) (.node (o234 P) .nil .nil))) (.node (o58 P) (.node (o90 P) (.node (o154 P) .nil .nil) (.node (o218 P) .nil .nil)) (.node (o122 P) (.node (o186 P) .nil .nil) (.node (o250 P) .nil .nil))))) (.node (o14 P) (.node (o22 P) (.node (o38 P) (.node (o70 P) (.node (o134 P) .nil .nil) (.node (o198 P) .nil .nil)) (.node (o102 P) (.node (o166 P) .nil .nil) (.node (o230 P) .nil .nil))) (.node (o54 P) (.node (o86 P) (.node (o150 P) .nil .nil) (.node (o214 P) .nil .nil)) (.node (o118 P) (.node (o182 P) .nil .nil) (.node (o246 P) .nil .nil)))) (.node (o30 P) (.node (o46 P) (.node (o78 P) (.node (o142 P) .nil .nil) (.node (o206 P) .nil .nil)) (.node (o110 P) (.node (o174 P) .nil .nil) (.node (o238 P) .nil .nil))) (.node (o62 P) (.node (o94 P) (.node (o158 P) .nil .nil) (.node (o222 P) .nil .nil)) (.node (o126 P) (.node (o190 P) .nil .nil) (.node (o254 P) .nil .nil))))))))
noncomputable abbrev T9 (w : World) (os : OsState) : SharedT := ⟨t9 w.params, 255, { }, #[], { }, 517, os⟩
noncomputable abbrev L9 : List Stmt := (pb.drop 28).take 2
noncomputable def h10 (P : Params) : Heap := ⟨⟨[boot_o_0 P, boot_o_1 P, boot_o_2 P, o3v7 P, boot_o_4 P, boot_o_5 P, boot_o_6 P, boot_o_7 P, boot_o_8 P, boot_o_9 P, boot_o_10 P, o11 P, o12v8 P, o13 P, o14 P, o15 P, o16 P, o17 P, o18 P, o19 P, o20 P, o21 P, o22 P, o23 P, o24 P, o25 P, o26 P, o27 P, o28 P, o29 P, o30 P, o31v4 P, o32 P, o33 P, o34 P, o35 P, o36 P, o37 P, o38 P, o39 P, o40 P, o41 P, o42 P, o43 P, o44 P, o45 P, o46 P, o47 P, o48 P, o49 P, o50 P, o51 P, o52 P, o53 P, o54 P, o55 P, o56 P, o57 P, o58 P, o59 P, o60 P, o61 P, o62 P, o63 P, o64 P, o65 P, o66 P, o67 P, o68 P, o69 P, o70 P, o71 P, o72 P, o73 P, o74 P, o75 P, o76 P, o77 P, o78 P, o79 P, o80 P, o81 P, o82 P, o83 P, o84 P, o85 P, o86 P, o87 P, o88 P, o89 P, o90 P, o91 P, o92 P, o93 P, o94 P, o95 P, o96 P, o97 P, o98 P, o99 P, o100 P, o101 P, o102 P, o103 P, o104 P, o105 P, o106 P, o107 P, o108 P, o109 P, o110 P, o111 P, o112 P, o113 P, o114 P, o115 P, o116 P, o117 P, o118 P, o119 P, o120 P, o121 P, o122 P, o123 P, o124 P, o125 P, o126 P, o127 P, o128 P, o129 P, o130 P, o131 P, o132 P, o133 P, o134 P, o135 P, o136 P, o137 P, o138 P, o139 P, o140 P, o141 P, o142 P, o143 P, o144 P, o145 P, o146 P, o147 P, o148 P, o149 P, o150 P, o151 P, o152 P, o153 P, o154 P, o155 P, o156 P, o157 P, o158 P, o159 P, o160 P, o161 P, o162 P, o163 P, o164 P, o165 P, o166 P, o167 P, o168 P, o169 P, o170 P, o171 P, o172 P, o173 P, o174 P, o175 P, o176 P, o177 P, o178 P, o179 P, o180 P, o181 P, o182 P, o183 P, o184 P, o185 P, o186 P, o187 P, o188 P, o189 P, o190 P, o191 P, o192 P, o193 P, o194 P, o195 P, o196 P, o197 P, o198 P, o199 P, o200 P, o201 P, o202 P, o203 P, o204 P, o205 P, o206 P, o207 P, o208 P, o209 P, o210 P, o211 P, o212 P, o213 P, o214 P, o215 P, o216 P, o217 P, o218 P, o219 P, o220 P, o221 P, o222 P, o223 P, o224 P, o225 P, o226 P, o227 P, o228 P, o229 P, o230 P, o231 P, o232 P, o233 P, o234 P, o235 P, o236 P, o237 P, o238 P, o239 P, o240 P, o241 P, o242 P, o243 P, o244 P, o245 P, o246 P, o247 P, o248 P, o249 P, o250 P, o251 P, o252 P, o253 P, o254 P]⟩, { }⟩
noncomputable abbrev S10 (w : World) (os : OsState) : Shared := ⟨h10 w.params, #[], { }, 517, os⟩
noncomputable def K (P : Params) : Frag := [(2, boot_o_2 P), (3, o3v7 P), (15, o15 P), (17, o17 P), (18, o18 P), (20, o20 P), (21, o21 P), (22, o22 P), (29, o29 P), (30, o30 P), (31, o31v4 P), (32, o32 P), (35, o35 P), (42, o42 P), (43, o43 P), (44, o44 P), (47, o47 P), (54, o54 P), (55, o55 P), (56, o56 P), (59, o59 P), (66, o66 P), (67, o67 P), (68, o68 P), (71, o71 P), (78, o78 P), (79, o79 P), (80, o80 P), (83, o83 P), (85, o85 P), (86, o86 P), (88, o88 P), (89, o89 P), (90, o90 P), (92, o92 P), (93, o93 P), (95, o95 P), (96, o96 P), (97, o97 P), (99, o99 P), (100, o100 P), (102, o102 P), (103, o103 P), (111, o111 P), (114, o114 P), (115, o115 P), (116, o116 P), (118, o118 P), (119, o119 P), (121, o121 P), (122, o122 P), (123, o123 P), (125, o125 P), (126, o126 P), (128, o128 P), (129, o129 P), (130, o130 P), (132, o132 P), (133, o133 P), (135, o135 P), (136, o136 P), (137, o137 P), (139, o139 P), (140, o140 P), (142, o142 P), (143, o143 P), (144, o144 P), (146, o146 P), (147, o147 P), (149, o149 P), (150, o150 P), (151, o151 P), (153, o153 P), (154, o154 P), (156, o156 P), (157, o157 P), (158, o158 P), (159, o159 P), (160, o160 P), (161, o161 P), (162, o162 P), (165, o165 P), (167, o167 P), (168, o168 P), (170, o170 P), (171, o171 P), (172, o172 P), (175, o175 P), (176, o176 P), (177, o177 P), (180, o180 P), (181, o181 P), (182, o182 P), (184, o184 P), (185, o185 P), (187, o187 P), (188, o188 P), (189, o189 P), (191, o191 P), (192, o192 P), (194, o194 P), (195, o195 P), (196, o196 P), (198, o198 P), (199, o199 P), (201, o201 P), (202, o202 P), (203, o203 P), (205, o205 P), (206, o206 P), (208, o208 P), (209, o209 P), (210, o210 P), (212, o212 P), (213, o213 P), (215, o215 P), (216, o216 P), (217, o217 P), (220, o220 P), (221, o221 P), (222, o222 P), (224, o224 P), (225, o225 P), (227, o227 P), (228, o228 P), (229, o229 P), (231, o231 P), (232, o232 P), (234, o234 P), (235, o235 P), (236, o236 P), (239, o239 P), (240, o240 P), (241, o241 P), (243, o243 P), (244, o244 P), (246, o246 P), (247, o247 P), (248, o248 P), (250, o250 P), (251, o251 P), (253, o253 P), (254, o254 P)]
noncomputable abbrev SB (w : World) (os : OsState) : Shared := ⟨boot_heap w.params, #[], boot_drawn, boot_toks, os⟩
theorem r0 (w : World) (os : OsState) : topGo treeTable PySem.Challenge.pw_uf040023_08 w 11 ann 12 (SB w os) (topStub PySem.Challenge.pw_uf040023_08) = some (S0 w os, ⟨denote treeTable cE, cE, { line := 0, col := 0, endLine := 0, endCol := 0 }, BB⟩) := by kernel_rfl
theorem r1 (w : World) (os : OsState) : segRun treeTable PySem.Challenge.pw_uf040023_08 w 11 ann 1 1 (S0 w os) (blockOf (behindTheImports PySem.Challenge.pw_uf040023_08) env cE { line := 0, col := 0, endLine := 0, endCol := 0 } BB) = some (.next, (T1 w os).abs, cE, { line := 0, col := 0, endLine := 0, endCol := 0 }) := by kernel_rfl
theorem q2 (w : World) (os : OsState) : PySem.W.Fast.tw10110043849684766642 PySem.W.Fast.tw14364793385576792824 PySem.Challenge.pw_uf040023_08 w 11 ann 1 225 (T1 w os) (piecesOf L2 env cE { line := 0, col := 0, endLine := 0, endCol := 0 } BB) = some (.next, T2 w os, cE, { line := 5, col := 0, endLine := 6, endCol := 8 }) := by kernel_rfl
theorem r2 (w : World) (os : OsState) : segRun treeTable PySem.Challenge.pw_uf040023_08 w 11 ann 1 225 (T1 w os).abs (piecesOf L2 env cE { line := 0, col := 0, endLine := 0, endCol := 0 } BB) = some (.next, (T2 w os).abs, cE, { line := 5, col := 0, endLine := 6, endCol := 8 }) := segRun_of (quick (q2 w os))
theorem q3 (w : World) (os : OsState) : PySem.W.Fast.tw10110043849684766642 PySem.W.Fast.tw14364793385576792824 PySem.Challenge.pw_uf040023_08 w 11 ann 1 214 (T2 w os) (piecesOf L3 env cE { line := 5, col := 0, endLine := 6, endCol := 8 } BB) = some (.next, T3 w os, cE, { line := 7, col := 0, endLine := 8, endCol := 8 }) := by kernel_rfl
theorem r3 (w : World) (os : OsState) : segRun treeTable PySem.Challenge.pw_uf040023_08 w 11 ann 1 214 (T2 w os).abs (piecesOf L3 env cE { line := 5, col := 0, endLine := 6, endCol := 8 } BB) = some (.next, (T3 w os).abs, cE, { line := 7, col := 0, endLine := 8, endCol := 8 }) := segRun_of (quick (q3 w os))
theorem q4 (w : World) (os : OsState) : PySem.W.Fast.tw10110043849684766642 PySem.W.Fast.tw14364793385576792824 PySem.Challenge.pw_uf040023_08 w 11 ann 1 214 (T3 w os) (piecesOf L4 env cE { line := 7, col := 0, endLine := 8, endCol := 8 } BB) = some (.next, T4 w os, cE, { line := 9, col := 0, endLine := 10, endCol := 8 }) := by kernel_rfl
theorem r4 (w : World) (os : OsState) : segRun treeTable PySem.Challenge.pw_uf040023_08 w 11 ann 1 214 (T3 w os).abs (piecesOf L4 env cE { line := 7, col := 0, endLine := 8, endCol := 8 } BB) = some (.next, (T4 w os).abs, cE, { line := 9, col := 0, endLine := 10, endCol := 8 }) := segRun_of (quick (q4 w os))
theorem q5 (w : World) (os : OsState) : PySem.W.Fast.tw10110043849684766642 PySem.W.Fast.tw14364793385576792824 PySem.Challenge.pw_uf040023_08 w 11 ann 1 214 (T4 w os) (piecesOf L5 env cE { line := 9, col := 0, endLine := 10, endCol := 8 } BB) = some (.next, T5 w os, cE, { line := 11, col := 0, endLine := 12, endCol := 8 }) := by kernel_rfl
theorem r5 (w : World) (os : OsState) : segRun treeTable PySem.Challenge.pw_uf040023_08 w 11 ann 1 214 (T4 w os).abs (piecesOf L5 env cE { line := 9, col := 0, endLine := 10, endCol := 8 } BB) = some (.next, (T5 w os).abs, cE, { line := 11, col := 0, endLine := 12, endCol := 8 }) := segRun_of (quick (q5 w os))
theorem q6 (w : World) (os : OsState) : PySem.W.Fast.tw10110043849684766642 PySem.W.Fast.tw14364793385576792824 PySem.Challenge.pw_uf040023_08 w 11 ann 1 337 (T5 w os) (piecesOf L6 env cE { line := 11, col := 0, endLine := 12, endCol := 8 } BB) = some (.next, T6 w os, cE, { line := 28, col := 0, endLine := 40, endCol := 37 }) := by kernel_rfl
theorem r6 (w : World) (os : OsState) : segRun treeTable PySem.Challenge.pw_uf040023_08 w 11 ann 1 337 (T5 w os).abs (piecesOf L6 env cE { line := 11, col := 0, endLine := 12, endCol := 8 } BB) = some (.next, (T6 w os).abs, cE, { line := 28, col := 0, endLine := 40, endCol := 37 }) := segRun_of (quick (q6 w os))
theorem q7 (w : World) (os : OsState) : PySem.W.Fast.tw10110043849684766642 PySem.W.Fast.tw14364793385576792824 PySem.Challenge.pw_uf040023_08 w 11 ann 1 412 (T6 w os) (piecesOf L7 env cE { line := 28, col := 0, endLine := 40, endCol := 37 } BB) = some (.next, T7 w os, cE, { line := 41, col := 0, endLine := 69, endCol := 16 }) := by kernel_rfl
theorem r7 (w : World) (os : OsState) : segRun treeTable PySem.Challenge.pw_uf040023_08 w 11 ann 1 412 (T6 w os).abs (piecesOf L7 env cE { line := 28, col := 0, endLine := 40, endCol := 37 } BB) = some (.next, (T7 w os).abs, cE, { line := 41, col := 0, endLine := 69, endCol := 16 }) := segRun_of (quick (q7 w os))
theorem q8 (w : World) (os : OsState) : PySem.W.Fast.tw10110043849684766642 PySem.W.Fast.tw14364793385576792824 PySem.Challenge.pw_uf040023_08 w 11 ann 1 371 (T7 w os) (piecesOf L8 env cE { line := 41, col := 0, endLine := 69, endCol := 16 } BB) = some (.next, T8 w os, cE, { line := 153, col := 0, endLine := 163, endCol := 25 }) := by kernel_rfl
theorem r8 (w : World) (os : OsState) : segRun treeTable PySem.Challenge.pw_uf040023_08 w 11 ann 1 371 (T7 w os).abs (piecesOf L8 env cE { line := 41, col := 0, endLine := 69, endCol := 16 } BB) = some (.next, (T8 w os).abs, cE, { line := 153, col := 0, endLine := 163, endCol := 25 }) := segRun_of (quick (q8 w os))
theorem q9 (w : World) (os : OsState) : PySem.W.Fast.tw10110043849684766642 PySem.W.Fast.tw14364793385576792824 PySem.Challenge.pw_uf040023_08 w 11 ann 1 72 (T8 w os) (piecesOf L9 env cE { line := 153, col := 0, endLine := 163, endCol := 25 } BB) = some (.next, T9 w os, cE, { line := 174, col := 0, endLine := 196, endCol := 44 }) := by kernel_rfl
theorem r9 (w : World) (os : OsState) : segRun treeTable PySem.Challenge.pw_uf040023_08 w 11 ann 1 72 (T8 w os).abs (piecesOf L9 env cE { line := 153, col := 0, endLine := 163, endCol := 25 } BB) = some (.next, (T9 w os).abs, cE, { line := 174, col := 0, endLine := 196, endCol := 44 }) := segRun_of (quick (q9 w os))
theorem r10 (w : World) (os : OsState) : topRun treeTable PySem.Challenge.pw_uf040023_08 w 11 ann 2 (T9 w os).abs ⟨doneF .next, cE, { line := 174, col := 0, endLine := 196, endCol := 44 }, BB⟩ = some (S10 w os) := by kernel_rfl
theorem body : behindTheImports PySem.Challenge.pw_uf040023_08 = L2 ++ (L3 ++ (L4 ++ (L5 ++ (L6 ++ (L7 ++ (L8 ++ (L9 ++ []))))))) := by kernel_rfl
theorem rest (w : World) (os : OsState) : topRun treeTable PySem.Challenge.pw_uf040023_08 w 11 ann (225 + (214 + (214 + (214 + (337 + (412 + (371 + (72 + (2))))))))) (T1 w os).abs (restOf (behindTheImports PySem.Challenge.pw_uf040023_08) env cE { line := 0, col := 0, endLine := 0, endCol := 0 } BB) = some (S10 w os) := by rw [show restOf (behindTheImports PySem.Challenge.pw_uf040023_08) env cE { line := 0, col := 0, endLine := 0, endCol := 0 } BB = restOf (L2 ++ (L3 ++ (L4 ++ (L5 ++ (L6 ++ (L7 ++ (L8 ++ (L9 ++ [])))))))) env cE { line := 0, col := 0, endLine := 0, endCol := 0 } BB from congrArg (fun b => restOf b env cE { line := 0, col := 0, endLine := 0, endCol := 0 } BB) body]; exact piece_app (r2 w os) (piece_app (r3 w os) (piece_app (r4 w os) (piece_app (r5 w os) (piece_app (r6 w os) (piece_app (r7 w os) (piece_app (r8 w os) (piece_app (r9 w os) (piece_nil (r10 w os)))))))))
theorem run (w : World) (os : OsState) : topRun treeTable PySem.Challenge.pw_uf040023_08 w 11 ann (12 + (1 + (225 + (214 + (214 + (214 + (337 + (412 + (371 + (72 + (2))))))))))) (SB w os) (topStub PySem.Challenge.pw_uf040023_08) = some (S10 w os) := go_top (r0 w os) (piece_block (r1 w os) (rest w os))
noncomputable def q : Program := { PySem.Challenge.pw_uf040023_08 with main := { (Program.main PySem.Challenge.pw_uf040023_08) with body := [F_law] } }
abbrev loose : List Str := ["_wall", "RoadError", "NoBoard", "NoPlace", "NoWay", "NoNote", "MOST_PLACES", "MOST_MARK", "is_whole", "need_roads", "need_board", "Board", "number_of", "read_row", "read", "_law_cell_at", "_law_mixed", "_law_odd_row", "_law_bent_row", "_law_number", "_law_row_of", "_law_due", "_law_read", "_law_rows", "_law_spoiled"]
noncomputable abbrev Hk : Hook := kHook K [2, 3, 15, 17, 18, 20, 21, 22, 29, 30, 31, 32, 35, 42, 43, 44, 47, 54, 55, 56, 59, 66, 67, 68, 71, 78, 79, 80, 83, 85, 86, 88, 89, 90, 92, 93, 95, 96, 97, 99, 100, 102, 103, 111, 114, 115, 116, 118, 119, 121, 122, 123, 125, 126, 128, 129, 130, 132, 133, 135, 136, 137, 139, 140, 142, 143, 144, 146, 147, 149, 150, 151, 153, 154, 156, 157, 158, 159, 160, 161, 162, 165, 167, 168, 170, 171, 172, 175, 176, 177, 180, 181, 182, 184, 185, 187, 188, 189, 191, 192, 194, 195, 196, 198, 199, 201, 202, 203, 205, 206, 208, 209, 210, 212, 213, 215, 216, 217, 220, 221, 222, 224, 225, 227, 228, 229, 231, 232, 234, 235, 236, 239, 240, 241, 243, 244, 246, 247, 248, 250, 251, 253, 254] (fun _ => by kernel_rfl)
theorem boot (w : World) : (fencedOpening treeTable PySem.Challenge.pw_uf040023_08 w 4228).map (fun s => (s.heap, s.gens, s.drawn, s.toks)) = some (boot_heap w.params, #[], boot_drawn, boot_toks) := boot_open (by kernel_rfl) (by kernel_rfl) (fun s => by kernel_rfl) w
theorem size (w : World) : ((boot_heap w.params).isNs mainGlobals && (#[] : Array GenState).size == 0, (boot_heap w.params).objs.size, (boot_heap w.params).nsMap mainGlobals "__annotations__") = (true, 11, ann) := by kernel_rfl
theorem look1 (w : World) (os : OsState) : (staticsOk (importedModules PySem.Challenge.pw_uf040023_08.main.body) (boot_heap w.params) (h10 w.params) && namesBound PySem.Challenge.pw_uf040023_08 (h10 w.params) && gensDone (S10 w os) && laidKept (boot_heap w.params) (h10 w.params)) = true := by kernel_rfl
theorem look2 (w : World) (os : OsState) : openSeen q loose (importedModules PySem.Challenge.pw_uf040023_08.main.body) (fun _ => true) true (S10 w os) = openGood q loose := by kernel_rfl
theorem look3 (w : World) (os : OsState) : Hook.obs Hk (S10 w os) = Hook.val Hk w := by kernel_rfl
theorem left : LeftO PySem.Challenge.pw_uf040023_08 q loose (fun _ => true) (Hook.obs Hk) (Hook.val Hk) 4228 := LeftO.of_pieces boot size run (by kernel_rfl) fun w => funext fun os => looks_pair (look1 w os) (looks_pair (look2 w os) (look3 w os))
noncomputable abbrev dl : DefRec := ⟨"law", sArgs F_law, sBody F_law, sScope F_law, sPos F_law⟩
theorem said : PySem.Challenge.rw_uf040023_08.wellSaid = true := by kernel_rfl
theorem hd (walk : WalkO q loose (fun _ _ => True) (Hook.says Hk) PySem.Challenge.rw_uf040023_08.row.toRowW dl [] fun f vs => PySem.call f vs) : PySem.Challenge.rw_uf040023_08.Holds :=
  holds_law said fun k1 => holds_open (r := PySem.Challenge.rw_uf040023_08.row) left (Hook.of Hk) (Hook.keeps Hk) (fun _ _ => trivial) (fun _ _ _ _ _ => trivial) (by kernel_rfl) (by kernel_rfl) (by kernel_rfl) (fun _ _ => recFacts_of (R := []) rfl) (by kernel_rfl) k1 (by kernel_rfl) ⟨rfl, rfl, rfl, rfl, rfl, by decide +kernel⟩ ⟨[.list []], by decide +kernel, by decide +kernel⟩ walk
end Mine.H08

namespace Mine.B08
open PySem PySem.W PyProof.Rows PySem.Spec Mine
def tab : Tab where
  gl := (([("is_whole", .fn (.ref 89)), ("need_roads", .fn (.ref 96)), ("need_board", .fn (.ref 103)), ("number_of", .fn (.ref 171)), ("read_row", .fn (.ref 176)), ("read", .fn (.ref 181)), ("_law_cell_at", .fn (.ref 188)), ("_law_mixed", .fn (.ref 195)), ("_law_odd_row", .fn (.ref 202)), ("_law_bent_row", .fn (.ref 209)), ("_law_number", .fn (.ref 216)), ("_law_row_of", .fn (.ref 221)), ("_law_due", .fn (.ref 228)), ("_law_read", .fn (.ref 235)), ("_law_rows", .fn (.ref 240)), ("_law_spoiled", .fn (.ref 247)), ("Board", .fn (.ref 160)), ("RoadError", .fn (.ref 31)), ("NoBoard", .fn (.ref 44)), ("NoPlace", .fn (.ref 56))] : List (Str × D)) ++ ([("NoWay", .fn (.ref 68)), ("NoNote", .fn (.ref 80)), ("MOST_PLACES", .int 60), ("MOST_MARK", .int 999), ("isinstance", .fn (.builtin "isinstance")), ("len", .fn (.builtin "len")), ("max", .fn (.builtin "max")), ("list", .fn (.type "list")), ("range", .fn (.type "range")), ("int", .fn (.type "int")), ("bool", .fn (.type "bool")), ("str", .fn (.type "str")), ("ValueError", .fn (.type "ValueError")), ("set", .fn (.type "set"))] : List (Str × D)))
  C := 160
  ml := [("many", 122), ("need", 129), ("owner", 136), ("mark", 143), ("roads", 150), ("sources", 157)]
  al := ["hands", "numbers", "leading"]

noncomputable abbrev KK (w : World) : Frag := Mine.H08.K w.params
noncomputable def XG (w : World) (s : Shared) (Ex fz : Addr → Prop) (ct hn cm : Bool) : Cx := { tab.cx Challenge.rw_uf040023_08.row.prog w s (KK w) with Ex := Ex, fz := fz, ct := ct, hn := hn, cm := cm }
instance {w : World} {s : Shared} {Ex fz : Addr → Prop} {ct : Bool} : Hn (XG w s Ex fz ct true true) := ⟨rfl, rfl⟩
instance {w : World} {s : Shared} {Ex fz : Addr → Prop} {hn cm : Bool} : Nc (XG w s Ex fz false hn cm) := ⟨rfl⟩

theorem tab_ok (w : World) : (tab.gl.all (globB (KK w)) && tab.ml.all (methB (KK w) tab.C) && tab.al.all (attrB (KK w) tab.C)) = true := by kernel_rfl
theorem d89 (w : World) (s : Shared) {Ex fz : Addr → Prop} {ct hn cm : Bool} : DefOk (XG w s Ex fz ct hn cm) 89 := ⟨by kernel_rfl, bind2 (by kernel_rfl) (fun _ _ => by kernel_rfl)⟩
theorem d96 (w : World) (s : Shared) {Ex fz : Addr → Prop} {ct hn cm : Bool} : DefOk (XG w s Ex fz ct hn cm) 96 := ⟨by kernel_rfl, bind2 (by kernel_rfl) (fun _ _ => by kernel_rfl)⟩
theorem d103 (w : World) (s : Shared) {Ex fz : Addr → Prop} {ct hn cm : Bool} : DefOk (XG w s Ex fz ct hn cm) 103 := ⟨by kernel_rfl, bind3 (by kernel_rfl) (fun _ _ _ => by kernel_rfl)⟩
theorem d171 (w : World) (s : Shared) {Ex fz : Addr → Prop} {ct hn cm : Bool} : DefOk (XG w s Ex fz ct hn cm) 171 := ⟨by kernel_rfl, bind1 (by kernel_rfl) (fun _ => by kernel_rfl)⟩
theorem d176 (w : World) (s : Shared) {Ex fz : Addr → Prop} {ct hn cm : Bool} : DefOk (XG w s Ex fz ct hn cm) 176 := ⟨by kernel_rfl, bind1 (by kernel_rfl) (fun _ => by kernel_rfl)⟩
theorem d181 (w : World) (s : Shared) {Ex fz : Addr → Prop} {ct hn cm : Bool} : DefOk (XG w s Ex fz ct hn cm) 181 := ⟨by kernel_rfl, bind1 (by kernel_rfl) (fun _ => by kernel_rfl)⟩
theorem d188 (w : World) (s : Shared) {Ex fz : Addr → Prop} {ct hn cm : Bool} : DefOk (XG w s Ex fz ct hn cm) 188 := ⟨by kernel_rfl, bind2 (by kernel_rfl) (fun _ _ => by kernel_rfl)⟩
theorem d195 (w : World) (s : Shared) {Ex fz : Addr → Prop} {ct hn cm : Bool} : DefOk (XG w s Ex fz ct hn cm) 195 := ⟨by kernel_rfl, bind3 (by kernel_rfl) (fun _ _ _ => by kernel_rfl)⟩
theorem d202 (w : World) (s : Shared) {Ex fz : Addr → Prop} {ct hn cm : Bool} : DefOk (XG w s Ex fz ct hn cm) 202 := ⟨by kernel_rfl, bind2 (by kernel_rfl) (fun _ _ => by kernel_rfl)⟩
theorem d209 (w : World) (s : Shared) {Ex fz : Addr → Prop} {ct hn cm : Bool} : DefOk (XG w s Ex fz ct hn cm) 209 := ⟨by kernel_rfl, bind2 (by kernel_rfl) (fun _ _ => by kernel_rfl)⟩
theorem d216 (w : World) (s : Shared) {Ex fz : Addr → Prop} {ct hn cm : Bool} : DefOk (XG w s Ex fz ct hn cm) 216 := ⟨by kernel_rfl, bind1 (by kernel_rfl) (fun _ => by kernel_rfl)⟩
theorem d221 (w : World) (s : Shared) {Ex fz : Addr → Prop} {ct hn cm : Bool} : DefOk (XG w s Ex fz ct hn cm) 221 := ⟨by kernel_rfl, bind1 (by kernel_rfl) (fun _ => by kernel_rfl)⟩
theorem d228 (w : World) (s : Shared) {Ex fz : Addr → Prop} {ct hn cm : Bool} : DefOk (XG w s Ex fz ct hn cm) 228 := ⟨by kernel_rfl, bind3 (by kernel_rfl) (fun _ _ _ => by kernel_rfl)⟩
theorem d235 (w : World) (s : Shared) {Ex fz : Addr → Prop} {ct hn cm : Bool} : DefOk (XG w s Ex fz ct hn cm) 235 := ⟨by kernel_rfl, bind2 (by kernel_rfl) (fun _ _ => by kernel_rfl)⟩
theorem d240 (w : World) (s : Shared) {Ex fz : Addr → Prop} {ct hn cm : Bool} : DefOk (XG w s Ex fz ct hn cm) 240 := ⟨by kernel_rfl, bind2 (by kernel_rfl) (fun _ _ => by kernel_rfl)⟩
theorem d247 (w : World) (s : Shared) {Ex fz : Addr → Prop} {ct hn cm : Bool} : DefOk (XG w s Ex fz ct hn cm) 247 := ⟨by kernel_rfl, bind3 (by kernel_rfl) (fun _ _ _ => by kernel_rfl)⟩
theorem d254 (w : World) (s : Shared) {Ex fz : Addr → Prop} {ct hn cm : Bool} : DefOk (XG w s Ex fz ct hn cm) 254 := ⟨by kernel_rfl, bind1 (by kernel_rfl) (fun _ => by kernel_rfl)⟩
theorem d115 (w : World) (s : Shared) {Ex fz : Addr → Prop} {ct hn cm : Bool} : DefOk (XG w s Ex fz ct hn cm) 115 := ⟨by kernel_rfl, bind4 (by kernel_rfl) (fun _ _ _ _ => by kernel_rfl)⟩
theorem d122 (w : World) (s : Shared) {Ex fz : Addr → Prop} {ct hn cm : Bool} : DefOk (XG w s Ex fz ct hn cm) 122 := ⟨by kernel_rfl, bind1 (by kernel_rfl) (fun _ => by kernel_rfl)⟩
theorem d129 (w : World) (s : Shared) {Ex fz : Addr → Prop} {ct hn cm : Bool} : DefOk (XG w s Ex fz ct hn cm) 129 := ⟨by kernel_rfl, bind2 (by kernel_rfl) (fun _ _ => by kernel_rfl)⟩
theorem d136 (w : World) (s : Shared) {Ex fz : Addr → Prop} {ct hn cm : Bool} : DefOk (XG w s Ex fz ct hn cm) 136 := ⟨by kernel_rfl, bind2 (by kernel_rfl) (fun _ _ => by kernel_rfl)⟩
theorem d143 (w : World) (s : Shared) {Ex fz : Addr → Prop} {ct hn cm : Bool} : DefOk (XG w s Ex fz ct hn cm) 143 := ⟨by kernel_rfl, bind2 (by kernel_rfl) (fun _ _ => by kernel_rfl)⟩
theorem d150 (w : World) (s : Shared) {Ex fz : Addr → Prop} {ct hn cm : Bool} : DefOk (XG w s Ex fz ct hn cm) 150 := ⟨by kernel_rfl, bind2 (by kernel_rfl) (fun _ _ => by kernel_rfl)⟩
theorem dmake (w : World) : makesIn (KK w) 160 = true := by kernel_rfl
theorem dkeep (w : World) : keepIn (KK w) (.ref 160) = true := by kernel_rfl
theorem dinit (w : World) : findIn (KK w) (.ref 160) "__init__" = some (some (.ref 115)) := by kernel_rfl
theorem dinitf (w : World) : typeIn (KK w) (.ref 115) = some (.type "function") := by kernel_rfl
end Mine.B08

namespace Mine.B08
open PySem PySem.W PyProof.Rows PySem.Spec Mine
theorem g_is_whole (w : World) (s : Shared) {Ex fz : Addr → Prop} {ct hn cm : Bool} : (XG w s Ex fz ct hn cm).G "is_whole" = some (.fn (.ref 89)) := by kernel_rfl
theorem g_need_roads (w : World) (s : Shared) {Ex fz : Addr → Prop} {ct hn cm : Bool} : (XG w s Ex fz ct hn cm).G "need_roads" = some (.fn (.ref 96)) := by kernel_rfl
theorem g_need_board (w : World) (s : Shared) {Ex fz : Addr → Prop} {ct hn cm : Bool} : (XG w s Ex fz ct hn cm).G "need_board" = some (.fn (.ref 103)) := by kernel_rfl
theorem g_number_of (w : World) (s : Shared) {Ex fz : Addr → Prop} {ct hn cm : Bool} : (XG w s Ex fz ct hn cm).G "number_of" = some (.fn (.ref 171)) := by kernel_rfl
theorem g_read_row (w : World) (s : Shared) {Ex fz : Addr → Prop} {ct hn cm : Bool} : (XG w s Ex fz ct hn cm).G "read_row" = some (.fn (.ref 176)) := by kernel_rfl
theorem g_read (w : World) (s : Shared) {Ex fz : Addr → Prop} {ct hn cm : Bool} : (XG w s Ex fz ct hn cm).G "read" = some (.fn (.ref 181)) := by kernel_rfl
theorem g_law_cell_at (w : World) (s : Shared) {Ex fz : Addr → Prop} {ct hn cm : Bool} : (XG w s Ex fz ct hn cm).G "_law_cell_at" = some (.fn (.ref 188)) := by kernel_rfl
theorem g_law_mixed (w : World) (s : Shared) {Ex fz : Addr → Prop} {ct hn cm : Bool} : (XG w s Ex fz ct hn cm).G "_law_mixed" = some (.fn (.ref 195)) := by kernel_rfl
theorem g_law_odd_row (w : World) (s : Shared) {Ex fz : Addr → Prop} {ct hn cm : Bool} : (XG w s Ex fz ct hn cm).G "_law_odd_row" = some (.fn (.ref 202)) := by kernel_rfl
theorem g_law_bent_row (w : World) (s : Shared) {Ex fz : Addr → Prop} {ct hn cm : Bool} : (XG w s Ex fz ct hn cm).G "_law_bent_row" = some (.fn (.ref 209)) := by kernel_rfl
theorem g_law_number (w : World) (s : Shared) {Ex fz : Addr → Prop} {ct hn cm : Bool} : (XG w s Ex fz ct hn cm).G "_law_number" = some (.fn (.ref 216)) := by kernel_rfl
theorem g_law_row_of (w : World) (s : Shared) {Ex fz : Addr → Prop} {ct hn cm : Bool} : (XG w s Ex fz ct hn cm).G "_law_row_of" = some (.fn (.ref 221)) := by kernel_rfl
theorem g_law_due (w : World) (s : Shared) {Ex fz : Addr → Prop} {ct hn cm : Bool} : (XG w s Ex fz ct hn cm).G "_law_due" = some (.fn (.ref 228)) := by kernel_rfl
theorem g_law_read (w : World) (s : Shared) {Ex fz : Addr → Prop} {ct hn cm : Bool} : (XG w s Ex fz ct hn cm).G "_law_read" = some (.fn (.ref 235)) := by kernel_rfl
theorem g_law_rows (w : World) (s : Shared) {Ex fz : Addr → Prop} {ct hn cm : Bool} : (XG w s Ex fz ct hn cm).G "_law_rows" = some (.fn (.ref 240)) := by kernel_rfl
theorem g_law_spoiled (w : World) (s : Shared) {Ex fz : Addr → Prop} {ct hn cm : Bool} : (XG w s Ex fz ct hn cm).G "_law_spoiled" = some (.fn (.ref 247)) := by kernel_rfl
theorem g_Board (w : World) (s : Shared) {Ex fz : Addr → Prop} {ct hn cm : Bool} : (XG w s Ex fz ct hn cm).G "Board" = some (.fn (.ref 160)) := by kernel_rfl
theorem g_RoadError (w : World) (s : Shared) {Ex fz : Addr → Prop} {ct hn cm : Bool} : (XG w s Ex fz ct hn cm).G "RoadError" = some (.fn (.ref 31)) := by kernel_rfl
theorem g_NoBoard (w : World) (s : Shared) {Ex fz : Addr → Prop} {ct hn cm : Bool} : (XG w s Ex fz ct hn cm).G "NoBoard" = some (.fn (.ref 44)) := by kernel_rfl
theorem g_NoPlace (w : World) (s : Shared) {Ex fz : Addr → Prop} {ct hn cm : Bool} : (XG w s Ex fz ct hn cm).G "NoPlace" = some (.fn (.ref 56)) := by kernel_rfl
theorem g_NoWay (w : World) (s : Shared) {Ex fz : Addr → Prop} {ct hn cm : Bool} : (XG w s Ex fz ct hn cm).G "NoWay" = some (.fn (.ref 68)) := by kernel_rfl
theorem g_NoNote (w : World) (s : Shared) {Ex fz : Addr → Prop} {ct hn cm : Bool} : (XG w s Ex fz ct hn cm).G "NoNote" = some (.fn (.ref 80)) := by kernel_rfl
theorem g_MOST_PLACES (w : World) (s : Shared) {Ex fz : Addr → Prop} {ct hn cm : Bool} : (XG w s Ex fz ct hn cm).G "MOST_PLACES" = some (.int 60) := by kernel_rfl
theorem g_MOST_MARK (w : World) (s : Shared) {Ex fz : Addr → Prop} {ct hn cm : Bool} : (XG w s Ex fz ct hn cm).G "MOST_MARK" = some (.int 999) := by kernel_rfl
theorem g_isinstance (w : World) (s : Shared) {Ex fz : Addr → Prop} {ct hn cm : Bool} : (XG w s Ex fz ct hn cm).G "isinstance" = some (.fn (.builtin "isinstance")) := by kernel_rfl
theorem g_len (w : World) (s : Shared) {Ex fz : Addr → Prop} {ct hn cm : Bool} : (XG w s Ex fz ct hn cm).G "len" = some (.fn (.builtin "len")) := by kernel_rfl
theorem g_max (w : World) (s : Shared) {Ex fz : Addr → Prop} {ct hn cm : Bool} : (XG w s Ex fz ct hn cm).G "max" = some (.fn (.builtin "max")) := by kernel_rfl
theorem g_list (w : World) (s : Shared) {Ex fz : Addr → Prop} {ct hn cm : Bool} : (XG w s Ex fz ct hn cm).G "list" = some (.fn (.type "list")) := by kernel_rfl
theorem g_range (w : World) (s : Shared) {Ex fz : Addr → Prop} {ct hn cm : Bool} : (XG w s Ex fz ct hn cm).G "range" = some (.fn (.type "range")) := by kernel_rfl
theorem g_int (w : World) (s : Shared) {Ex fz : Addr → Prop} {ct hn cm : Bool} : (XG w s Ex fz ct hn cm).G "int" = some (.fn (.type "int")) := by kernel_rfl
theorem g_bool (w : World) (s : Shared) {Ex fz : Addr → Prop} {ct hn cm : Bool} : (XG w s Ex fz ct hn cm).G "bool" = some (.fn (.type "bool")) := by kernel_rfl
theorem g_str (w : World) (s : Shared) {Ex fz : Addr → Prop} {ct hn cm : Bool} : (XG w s Ex fz ct hn cm).G "str" = some (.fn (.type "str")) := by kernel_rfl
theorem g_ValueError (w : World) (s : Shared) {Ex fz : Addr → Prop} {ct hn cm : Bool} : (XG w s Ex fz ct hn cm).G "ValueError" = some (.fn (.type "ValueError")) := by kernel_rfl
theorem g_set (w : World) (s : Shared) {Ex fz : Addr → Prop} {ct hn cm : Bool} : (XG w s Ex fz ct hn cm).G "set" = some (.fn (.type "set")) := by kernel_rfl
theorem M_many (w : World) (s : Shared) {Ex fz : Addr → Prop} {ct hn cm : Bool} : (XG w s Ex fz ct hn cm).M 160 "many" = some 122 := by kernel_rfl
theorem M_need (w : World) (s : Shared) {Ex fz : Addr → Prop} {ct hn cm : Bool} : (XG w s Ex fz ct hn cm).M 160 "need" = some 129 := by kernel_rfl
theorem M_owner (w : World) (s : Shared) {Ex fz : Addr → Prop} {ct hn cm : Bool} : (XG w s Ex fz ct hn cm).M 160 "owner" = some 136 := by kernel_rfl
theorem M_mark (w : World) (s : Shared) {Ex fz : Addr → Prop} {ct hn cm : Bool} : (XG w s Ex fz ct hn cm).M 160 "mark" = some 143 := by kernel_rfl
theorem M_roads (w : World) (s : Shared) {Ex fz : Addr → Prop} {ct hn cm : Bool} : (XG w s Ex fz ct hn cm).M 160 "roads" = some 150 := by kernel_rfl
theorem x_RoadError (w : World) (s : Shared) {Ex fz : Addr → Prop} {ct hn cm : Bool} : excB (XG w s Ex fz ct hn cm).K 31 = true := by kernel_rfl
theorem x_NoBoard (w : World) (s : Shared) {Ex fz : Addr → Prop} {ct hn cm : Bool} : excB (XG w s Ex fz ct hn cm).K 44 = true := by kernel_rfl
theorem ve_NoBoard (w : World) (s : Shared) {Ex fz : Addr → Prop} {ct hn cm : Bool} : subIn (XG w s Ex fz ct hn cm).K (.ref 44) (.type "ValueError") = some true := by kernel_rfl
theorem m_NoBoard_RoadError (w : World) (s : Shared) {Ex fz : Addr → Prop} {ct hn cm : Bool} : (mroOfIn (XG w s Ex fz ct hn cm).K 44).contains (.ref 31) = true := by kernel_rfl
theorem m_NoBoard_NoBoard (w : World) (s : Shared) {Ex fz : Addr → Prop} {ct hn cm : Bool} : (mroOfIn (XG w s Ex fz ct hn cm).K 44).contains (.ref 44) = true := by kernel_rfl
theorem i_NoBoard_NoPlace (w : World) (s : Shared) {Ex fz : Addr → Prop} {ct hn cm : Bool} : isiNo (XG w s Ex fz ct hn cm).K 44 56 = true := by kernel_rfl
theorem i_NoBoard_NoWay (w : World) (s : Shared) {Ex fz : Addr → Prop} {ct hn cm : Bool} : isiNo (XG w s Ex fz ct hn cm).K 44 68 = true := by kernel_rfl
theorem m_NoBoard_NoNote (w : World) (s : Shared) {Ex fz : Addr → Prop} {ct hn cm : Bool} : (mroOfIn (XG w s Ex fz ct hn cm).K 44).contains (.ref 80) = false := by kernel_rfl
theorem i_NoBoard_NoNote (w : World) (s : Shared) {Ex fz : Addr → Prop} {ct hn cm : Bool} : isiNo (XG w s Ex fz ct hn cm).K 44 80 = true := by kernel_rfl
theorem x_NoNote (w : World) (s : Shared) {Ex fz : Addr → Prop} {ct hn cm : Bool} : excB (XG w s Ex fz ct hn cm).K 80 = true := by kernel_rfl
theorem ve_NoNote (w : World) (s : Shared) {Ex fz : Addr → Prop} {ct hn cm : Bool} : subIn (XG w s Ex fz ct hn cm).K (.ref 80) (.type "ValueError") = some true := by kernel_rfl
theorem m_NoNote_RoadError (w : World) (s : Shared) {Ex fz : Addr → Prop} {ct hn cm : Bool} : (mroOfIn (XG w s Ex fz ct hn cm).K 80).contains (.ref 31) = true := by kernel_rfl
theorem i_NoNote_NoBoard (w : World) (s : Shared) {Ex fz : Addr → Prop} {ct hn cm : Bool} : isiNo (XG w s Ex fz ct hn cm).K 80 44 = true := by kernel_rfl
theorem i_NoNote_NoPlace (w : World) (s : Shared) {Ex fz : Addr → Prop} {ct hn cm : Bool} : isiNo (XG w s Ex fz ct hn cm).K 80 56 = true := by kernel_rfl
theorem i_NoNote_NoWay (w : World) (s : Shared) {Ex fz : Addr → Prop} {ct hn cm : Bool} : isiNo (XG w s Ex fz ct hn cm).K 80 68 = true := by kernel_rfl
theorem m_NoNote_NoNote (w : World) (s : Shared) {Ex fz : Addr → Prop} {ct hn cm : Bool} : (mroOfIn (XG w s Ex fz ct hn cm).K 80).contains (.ref 80) = true := by kernel_rfl
theorem i_NoNote_NoNote (w : World) (s : Shared) {Ex fz : Addr → Prop} {ct hn cm : Bool} : isiYes (XG w s Ex fz ct hn cm).K 80 80 = true := by kernel_rfl
section
variable {w : World} {s : Shared} {Ex fz : Addr → Prop} {ct hn cm : Bool} {n : Nat} {K : Fl → St → Prop} {Q : D → St → Prop} {st : St} {loc : Str → Option D} {hp : Hp} {C C' : Addr}
theorem cv_tG {f : Addr} {ds : List D} (h : FS (XG w s Ex fz false hn (hn || cm)) n f ds hp (fun d hp => Q d ⟨loc, hp⟩)) : CV (XG w s Ex fz true hn cm) n (.fn (.ref f)) ds Q ⟨loc, hp⟩ := cv_t h
theorem ss_cmG {c : Stmt} {r : List Stmt} (h : wpS (XG w s Ex fz ct hn false) n c (seqK (XG w s Ex fz ct hn true) n r K) st) : wpSs (XG w s Ex fz ct hn true) n (c :: r) K st := ss_cm h
theorem cv_cG {f : Addr} {ds : List D} (h : ∀ L, FS (XG w s (fun _ => False) (fun b => b = L) true true true) n f ds hp (fun d hp => Q d ⟨loc, hp⟩)) : CV (XG w s (fun _ => False) (fun _ => False) true true false) n (.fn (.ref f)) ds Q ⟨loc, hp⟩ :=
  cv_c rfl rfl rfl (fun _ q => q) (fun _ q => q) h
theorem s_tryG {body : List Stmt} {h₀ : ExceptHandler} {hs : List ExceptHandler} {p : Pos} (Ex' : Addr → Prop) (hb : wpSs (XG w s Ex' fz true hn cm) n body K st) (hh : ∀ C, Ex' C → wpHs (XG w s Ex fz true hn cm) n (h₀ :: hs) C K (fun _ => none)) :
    wpS (XG w s Ex fz true hn cm) n (.Try body (h₀ :: hs) [] [] p) K st := s_try Ex' rfl hb hh
theorem h_takeG (ok : (XG w s (fun _ => False) fz ct hn cm).Ok) {x : Str} {np pos : Pos} {body : List Stmt} {rest : List ExceptHandler} (hg : (XG w s (fun _ => False) fz ct hn cm).G x = some (.fn (.ref C'))) (hx : excB (XG w s (fun _ => False) fz ct hn cm).K C = true) (hx' : excB (XG w s (fun _ => False) fz ct hn cm).K C' = true) (hm : (mroOfIn (XG w s (fun _ => False) fz ct hn cm).K C).contains (.ref C') = true)
    (h : wpSs (XG w s (fun _ => False) fz ct false cm) n body K ⟨loc, fun _ => none⟩) : wpHs (XG w s (fun _ => False) fz ct hn cm) n (.ExceptHandler (some (.Name x np)) none body pos :: rest) C K loc := h_take ok hg hx hx' hm (fun _ q => q) h
theorem h_takeAsG (ok : (XG w s (fun _ => False) fz ct hn cm).Ok) {x nme : Str} {np pos : Pos} {body : List Stmt} {rest : List ExceptHandler} (hg : (XG w s (fun _ => False) fz ct hn cm).G x = some (.fn (.ref C'))) (hx : excB (XG w s (fun _ => False) fz ct hn cm).K C = true) (hx' : excB (XG w s (fun _ => False) fz ct hn cm).K C' = true) (hm : (mroOfIn (XG w s (fun _ => False) fz ct hn cm).K C).contains (.ref C') = true)
    (h : wpSs (XG w s (fun _ => False) fz ct false false) n body (fun fl st => K fl ⟨fun _ => none, st.hp⟩) ⟨updL loc nme (.exc C), fun _ => none⟩) : wpHs (XG w s (fun _ => False) fz ct hn cm) n (.ExceptHandler (some (.Name x np)) (some nme) body pos :: rest) C K loc := h_takeAs ok hg hx hx' hm (fun _ q => q) h
end

local macro_rules | `(tactic| walk_at "xo") => do
  let mut t : Lean.TSyntax `tactic ← `(tactic| fail)
  for (n, k) in [(`Mine.lt_r, 1), (`Mine.lt_to, 2), (`Mine.to_z, 1), (`Mine.lt_z, 1), (`Mine.hi_i, 1), (`Mine.lo_i, 1), (`Mine.hi_nat, 1), (`Mine.le16, 1), (`Mine.len_z, 0), (`Int.natCast_nonneg, 3), (`Mine.lo_nat, 0), (`Mine.nn_z, 0), (`Int.zero_add, 3)] do
    let i := Lean.mkIdent n
    let a ← match k with | 0 => `(tactic| exact $i) | 1 => `(tactic| exact $i (by assumption)) | 2 => `(tactic| exact $i (by assumption) (by assumption)) | _ => `(tactic| exact $i _)
    t ← `(tactic| first | $a:tactic | $t:tactic)
  `(tactic| first | decide | (with_reducible first | assumption | $t:tactic) | omega)
local macro_rules | `(tactic| walk_at "xz") => do
  let mut t : Lean.TSyntax `tactic ← `(tactic| fail)
  for n in [`Mine.rng16, `Mine.zl16', `Mine.tb16, `Mine.bt16, `Mine.ot16, `Mine.zl16] do t ← `(tactic| first | exact $(Lean.mkIdent n) (by assumption) | $t:tactic)
  `(tactic| first | (with_reducible $t:tactic) | (simp [zs_length, ot_length, bt_length, tb_length]; walk_at "xo"))
local macro_rules | `(tactic| walk_at "xnm") => do
  let mut t : Lean.TSyntax `tactic ← `(tactic| (refine' $(Lean.mkIdent `Mine.atS) ?u ?v; (case u => kernel_rfl); (case v => walk_at "xnm")))
  for n in [`Mine.at5, `Mine.at4, `Mine.at3, `Mine.at2, `Mine.at1] do t ← `(tactic| first | (refine $(Lean.mkIdent n) ?_; kernel_rfl) | $t:tactic)
  `(tactic| with_reducible first | exact at0 | $t:tactic)
local macro_rules | `(tactic| walk_at "xlo") => `(tactic| with_reducible first | walk_at "xnm" | exact c0 | (refine' c1 ?u ?v; (case u => kernel_rfl); (case v => ((try dsimp only); walk_at "xnm"))))
local macro_rules | `(tactic| walk_at "xbv") => `(tactic| first | (with_reducible rfl) | (with_reducible assumption) | exact decide_eq_true (by walk_at "xo") | exact decide_eq_false (by walk_at "xo") | rfl | (refine nt_ ?_; walk_at "xbv") | (refine nf_ ?_; walk_at "xbv"))
local macro_rules | `(tactic| walk_at "xtv") => `(tactic| first | rfl | (simp only [truth, *]; first | done | rfl))
local macro_rules | `(tactic| walk_at "xhv") => `(tactic| first | rfl | assumption | (simp only [sq, lst, *]; first | done | rfl))
local macro_rules | `(tactic| walk_at "xnv") => `(tactic| first | exact zl16 (by assumption) | decide | (simp only [zs_length, List.length_map, List.length_nil, List.length_cons, List.length_append]; omega) | omega)
local macro_rules | `(tactic| walk_at "xle") => `(tactic| (refine le_of_all ?_; repeat (first | exact all_nil | (refine all_cons ?_ ?_; kernel_rfl))))
local macro_rules | `(tactic| walk_at "xr1") => do
  let mut t : Lean.TSyntax `tactic ← `(tactic| fail)
  for n in [`Mine.cv_f, `Mine.f_isi_tt, `Mine.f_isi_ib, `Mine.f_isi_ii, `Mine.q_isnot, `Mine.q_is, `Mine.q_ge, `Mine.q_gt, `Mine.q_ne, `Mine.q_eq, `Mine.q_le, `Mine.q_lt, `Mine.u_neg, `Mine.b_sub, `Mine.b_add, `Mine.ifs_one, `Mine.ifs_nil, `Mine.ts_nil, `Mine.ts_cons, `Mine.t_sub, `Mine.t_name, `Mine.t_call, `Mine.t_cmp, `Mine.t_bool, `Mine.t_not, `Mine.ct_two, `Mine.ct_one, `Mine.cv_two, `Mine.cv_one, `Mine.bv_one, `Mine.bv_cons, `Mine.es_nil, `Mine.es_cons, `Mine.o_some, `Mine.o_none, `Mine.e_comp, `Mine.e_tup, `Mine.e_list, `Mine.e_attr, `Mine.e_slice2, `Mine.e_un, `Mine.e_boolop, `Mine.e_cmp, `Mine.e_bin, `Mine.e_str, `Mine.e_bool, `Mine.e_none, `Mine.e_int, `Mine.unp_nil, `Mine.unp_env, `Mine.unp_, `Mine.st_, `Mine.s_asgc, `Mine.s_tup, `Mine.s_attr, `Mine.s_sub, `Mine.s_for, `Mine.s_continue, `Mine.s_ret0, `Mine.s_ret, `Mine.s_expr, `Mine.s_if, `Mine.callK_next, `Mine.callK_ret, `Mine.seq_cont, `Mine.seq_ret, `Mine.seq_next, `Mine.ss_nil] do t ← `(tactic| first | refine $(Lean.mkIdent n) ?_ | $t:tactic)
  `(tactic| with_reducible $t:tactic)
local macro_rules | `(tactic| walk_at "xr2") => do
  let g (ns : List Lean.Name) (k : Nat) : Lean.MacroM (Lean.TSyntax `tactic) := do
    let mut t : Lean.TSyntax `tactic ← `(tactic| fail)
    for n in ns do
      let i := Lean.mkIdent n
      let a ← match k with | 0 => `(tactic| refine $i ?_ ?_) | 1 => `(tactic| refine' $i ?a ?_) | 2 => `(tactic| refine' $i ?a ?b ?_) | _ => `(tactic| refine $i ?_ ?_ ?_)
      t ← `(tactic| first | $a:tactic | $t:tactic)
    `(tactic| with_reducible $t:tactic)
  let mut t : Lean.TSyntax `tactic ← `(tactic| fail)
  for (ns, k, c, d) in [([`Mine.f_len], 2, "xhv", "xnv"), ([`Mine.f_lenz], 2, "xhv", "xo"), ([`Mine.f_isi_ll, `Mine.f_list], 1, "xhv", "xhv"), ([`Mine.b_fdiv, `Mine.b_mul, `Mine.f_range1], 3, "xo", "xo"), ([`Mine.b_mod], 0, "xo", "xo"), ([`Mine.bv_af, `Mine.bv_of], 2, "xtv", "xbv"), ([`Mine.bv_at, `Mine.bv_ot], 2, "xtv", "xbv"), ([`Mine.ts_af, `Mine.ts_of, `Mine.if_f, `Mine.c2_f, `Mine.cb_f], 0, "xbv", "xbv"), ([`Mine.ts_at, `Mine.ts_ot, `Mine.if_t, `Mine.c2_t, `Mine.cb_t], 0, "xbv", "xbv"), ([`Mine.tK_, `Mine.u_not], 1, "xtv", "xtv"), ([`Mine.e_item, `Mine.s_asg], 0, "xrf", "xrf"), ([`Mine.m_], 1, "xmb", "xmb"), ([`Mine.e_callm], 0, "xas", "xas"), ([`Mine.e_glob, `Mine.e_calln], 2, "xas", "xgl"), ([`Mine.e_le], 2, "xas", "xnm"), ([`Mine.e_loc], 1, "xlo", "xlo")] do
    let h ← g ns k
    let c := Lean.Syntax.mkStrLit c
    let d := Lean.Syntax.mkStrLit d
    let a ← match k with
      | 0 => `(tactic| ($h:tactic; walk_at $c:str))
      | 1 => `(tactic| ($h:tactic; (case a => walk_at $c:str)))
      | 2 => `(tactic| ($h:tactic; (case a => walk_at $c:str); (case b => walk_at $d:str)))
      | _ => `(tactic| ($h:tactic; walk_at $c:str; walk_at $d:str))
    t ← `(tactic| first | $a:tactic | $t:tactic)
  `(tactic| first | walk_at "xab" | $t:tactic)
local macro_rules | `(tactic| walk_at "xrf") => `(tactic| rfl)
local macro_rules | `(tactic| walk_at "xas") => `(tactic| assumption)
local macro_rules | `(tactic| walk_at "xwk2") => `(tactic| first | walk_at "xr1" | walk_at "xr2")
local macro_rules | `(tactic| walk_at "xwk1") => `(tactic| first | with_reducible refine ss_cons ?_ | with_reducible refine Mine.B08.cv_tG ?_ | walk_at "xwk2")
local macro_rules | `(tactic| walk_at "xwk") => `(tactic| repeat walk_at "xwk1")
local macro_rules | `(tactic| walk_at "xwj") => `(tactic| repeat walk_at "xwk2")
local macro_rules | `(tactic| walk_at "xgl") => do
  let mut t : Lean.TSyntax `tactic ← `(tactic| fail)
  for n in [`Mine.B08.g_set, `Mine.B08.g_ValueError, `Mine.B08.g_str, `Mine.B08.g_bool, `Mine.B08.g_int, `Mine.B08.g_range, `Mine.B08.g_list, `Mine.B08.g_max, `Mine.B08.g_len, `Mine.B08.g_isinstance, `Mine.B08.g_MOST_MARK, `Mine.B08.g_MOST_PLACES, `Mine.B08.g_NoNote, `Mine.B08.g_NoWay, `Mine.B08.g_NoPlace, `Mine.B08.g_NoBoard, `Mine.B08.g_RoadError, `Mine.B08.g_Board, `Mine.B08.g_law_spoiled, `Mine.B08.g_law_rows, `Mine.B08.g_law_read, `Mine.B08.g_law_due, `Mine.B08.g_law_row_of, `Mine.B08.g_law_number, `Mine.B08.g_law_bent_row, `Mine.B08.g_law_odd_row, `Mine.B08.g_law_mixed, `Mine.B08.g_law_cell_at, `Mine.B08.g_read, `Mine.B08.g_read_row, `Mine.B08.g_number_of, `Mine.B08.g_need_board, `Mine.B08.g_need_roads, `Mine.B08.g_is_whole] do t ← `(tactic| first | exact $(Lean.mkIdent n) _ _ | $t:tactic)
  `(tactic| with_reducible $t:tactic)

section
variable {w : World} {s : Shared} {Ex fz : Addr → Prop} {hp : Hp}

theorem is_whole_ok (ok : (XG w s Ex fz false true true).Ok) {i m : Int} : FS (XG w s Ex fz false true true) 1 89 [.int i, .int m] hp (fun r hp' => r = .bool (decide (0 ≤ i ∧ i ≤ m)) ∧ hp' = hp) := by
  refine def_ok' ok (d89 w s) ["thing", "most"] rfl rfl ?_
  (conv => arg 3; whnf; skip); dsimp only [List.zip_cons_cons, List.zip_nil_right, List.zip_nil_left]
  walk_at "xwk"
  by_cases h : 0 ≤ i
  · walk_at "xwk"
    exact ⟨by simp [h], rfl⟩
  · walk_at "xwk"
    exact ⟨by simp [h], rfl⟩

def rws (r : List (List Int)) : List D := r.map fun l => D.list (zs l)
theorem rws_length {r : List (List Int)} : (rws r).length = r.length := by simp [rws]
theorem rws_at {r : List (List Int)} {i : Nat} {y : D} (h : (rws r)[i]? = some y) : ∃ l, y = .list (zs l) ∧ r[i]? = some l := by
  unfold rws at h
  rw [List.getElem?_map] at h
  obtain ⟨k, e, rfl⟩ := Option.map_eq_some_iff.mp h
  exact ⟨k, rfl, e⟩

def bd (o m : List Int) (r : List (List Int)) : D := .inst 160 [("hands", .list (zs o)), ("numbers", .list (zs m)), ("leading", .list (rws r))]

theorem ab_hands {ct hn cm : Bool} {n : Nat} {Q : D → St → Prop} {st : St} (ok : (XG w s Ex fz ct hn cm).Ok) {o m : List Int} {r : List (List Int)} (h : Q (.list (zs o)) st) : wpAttr (XG w s Ex fz ct hn cm) n (bd o m r) "hands" Q st := at_inst ok (by kernel_rfl) (d := .list (zs o)) (by kernel_rfl) rfl h
theorem ab_numbers {ct hn cm : Bool} {n : Nat} {Q : D → St → Prop} {st : St} (ok : (XG w s Ex fz ct hn cm).Ok) {o m : List Int} {r : List (List Int)} (h : Q (.list (zs m)) st) : wpAttr (XG w s Ex fz ct hn cm) n (bd o m r) "numbers" Q st := at_inst ok (by kernel_rfl) (d := .list (zs m)) (by kernel_rfl) rfl h
theorem ab_leading {ct hn cm : Bool} {n : Nat} {Q : D → St → Prop} {st : St} (ok : (XG w s Ex fz ct hn cm).Ok) {o m : List Int} {r : List (List Int)} (h : Q (.list (rws r)) st) : wpAttr (XG w s Ex fz ct hn cm) n (bd o m r) "leading" Q st := at_inst ok (by kernel_rfl) (d := .list (rws r)) (by kernel_rfl) rfl h
theorem mb_many {ct hn cm : Bool} {st : St} (ok : (XG w s Ex fz ct hn cm).Ok) {o m : List Int} {r : List (List Int)} : Meth (XG w s Ex fz ct hn cm) (bd o m r) "many" (.fn (.ref 122)) st := meth_inst ok (M_many w s) (by kernel_rfl)
theorem mb_need {ct hn cm : Bool} {st : St} (ok : (XG w s Ex fz ct hn cm).Ok) {o m : List Int} {r : List (List Int)} : Meth (XG w s Ex fz ct hn cm) (bd o m r) "need" (.fn (.ref 129)) st := meth_inst ok (M_need w s) (by kernel_rfl)
theorem mb_owner {ct hn cm : Bool} {st : St} (ok : (XG w s Ex fz ct hn cm).Ok) {o m : List Int} {r : List (List Int)} : Meth (XG w s Ex fz ct hn cm) (bd o m r) "owner" (.fn (.ref 136)) st := meth_inst ok (M_owner w s) (by kernel_rfl)
theorem mb_mark {ct hn cm : Bool} {st : St} (ok : (XG w s Ex fz ct hn cm).Ok) {o m : List Int} {r : List (List Int)} : Meth (XG w s Ex fz ct hn cm) (bd o m r) "mark" (.fn (.ref 143)) st := meth_inst ok (M_mark w s) (by kernel_rfl)
theorem mb_roads {ct hn cm : Bool} {st : St} (ok : (XG w s Ex fz ct hn cm).Ok) {o m : List Int} {r : List (List Int)} : Meth (XG w s Ex fz ct hn cm) (bd o m r) "roads" (.fn (.ref 150)) st := meth_inst ok (M_roads w s) (by kernel_rfl)
local macro_rules | `(tactic| walk_at "xab") => `(tactic| with_reducible first | refine ab_hands (by assumption) ?_ | refine ab_numbers (by assumption) ?_ | refine ab_leading (by assumption) ?_)
local macro_rules | `(tactic| walk_at "xmb") => `(tactic| with_reducible first | exact mb_many (by assumption) | exact mb_need (by assumption) | exact mb_owner (by assumption) | exact mb_mark (by assumption) | exact mb_roads (by assumption))

theorem many_ok (ok : (XG w s Ex fz false true true).Ok) {o m : List Int} {r : List (List Int)} (h : o.length ≤ 60) : FS (XG w s Ex fz false true true) 1 122 [bd o m r] hp (fun d hp' => d = .int o.length ∧ hp' = hp) := by
  refine def_ok' ok (d122 w s) ["self"] rfl rfl ?_
  (conv => arg 3; whnf; skip); dsimp only [List.zip_cons_cons, List.zip_nil_right, List.zip_nil_left]
  walk_at "xwk"
  exact ⟨by simp, rfl⟩

theorem need_ok (ok : (XG w s Ex fz false true true).Ok) {o m : List Int} {r : List (List Int)} {p : Int} (h : o.length ≤ 60) (h0 : 0 ≤ p) (h1 : p < o.length) : FS (XG w s Ex fz false true true) 2 129 [bd o m r, .int p] hp (fun d hp' => d = .none ∧ hp' = hp) := by
  refine def_ok' ok (d129 w s) ["self", "place"] rfl rfl ?_
  (conv => arg 3; whnf; skip); dsimp only [List.zip_cons_cons, List.zip_nil_right, List.zip_nil_left]
  walk_at "xwk"
  refine FS.mono (is_whole_ok ok) (by walk_at "xo") ?_
  rintro _ _ ⟨rfl, rfl⟩
  rw [decide_eq_true (by walk_at "xo")]
  walk_at "xwk"
  exact ⟨rfl, rfl⟩

theorem owner_ok (ok : (XG w s Ex fz false true true).Ok) {o m : List Int} {r : List (List Int)} {p k : Int} (h : o.length ≤ 60) (h0 : 0 ≤ p) (h1 : p < o.length) (hk : o[p.toNat]? = some k) : FS (XG w s Ex fz false true true) 3 136 [bd o m r, .int p] hp (fun d hp' => d = .int k ∧ hp' = hp) := by
  refine def_ok' ok (d136 w s) ["self", "place"] rfl rfl ?_
  (conv => arg 3; whnf; skip); dsimp only [List.zip_cons_cons, List.zip_nil_right, List.zip_nil_left]
  walk_at "xwk"
  refine FS.callv (need_ok ok h h0 h1) (by walk_at "xo") ?_
  walk_at "xwk"
  refine i_at (by walk_at "xhv") (by walk_at "xnv") h0 (zs_get hk) ?_
  walk_at "xwk"
  exact ⟨rfl, rfl⟩

theorem mark_ok (ok : (XG w s Ex fz false true true).Ok) {o m : List Int} {r : List (List Int)} {p k : Int} (h : o.length ≤ 60) (h0 : 0 ≤ p) (h1 : p < o.length) (hm : m.length = o.length) (hk : m[p.toNat]? = some k) : FS (XG w s Ex fz false true true) 3 143 [bd o m r, .int p] hp (fun d hp' => d = .int k ∧ hp' = hp) := by
  refine def_ok' ok (d143 w s) ["self", "place"] rfl rfl ?_
  (conv => arg 3; whnf; skip); dsimp only [List.zip_cons_cons, List.zip_nil_right, List.zip_nil_left]
  walk_at "xwk"
  refine FS.mono (need_ok ok h h0 h1) (by walk_at "xo") ?_
  rintro _ _ ⟨rfl, rfl⟩
  walk_at "xwk"
  refine i_at (by walk_at "xhv") (by walk_at "xnv") h0 (zs_get hk) ?_
  walk_at "xwk"
  exact ⟨rfl, rfl⟩

theorem roads_ok (ok : (XG w s Ex fz false true true).Ok) {o m : List Int} {r : List (List Int)} {p : Int} {row : List Int} (h : o.length ≤ 60) (h0 : 0 ≤ p) (h1 : p < o.length) (hm : r.length = o.length) (hk : r[p.toNat]? = some row) (hrow : row.length ≤ 60) :
    FS (XG w s Ex fz false true true) 3 150 [bd o m r, .int p] hp (fun d hp' => d = .list (zs row) ∧ hp' = hp) := by
  refine def_ok' ok (d150 w s) ["self", "place"] rfl rfl ?_
  (conv => arg 3; whnf; skip); dsimp only [List.zip_cons_cons, List.zip_nil_right, List.zip_nil_left]
  walk_at "xwk"
  refine FS.callv (need_ok ok h h0 h1) (by walk_at "xo") ?_
  walk_at "xwk"
  refine i_at (d := .list (zs row)) (xs := rws r) rfl (by first | exact rl16 (by assumption) | (rw [rws_length]; omega)) h0 (by simp [rws, hk]) ?_
  walk_at "xwk"
  refine new_frozen (by walk_at "xnv") ?_
  walk_at "xwk"
  exact ⟨rfl, rfl⟩

theorem need_roads_ok (ok : (XG w s Ex fz false true true).Ok) {row : List Int} {many : Int} (hm : many ≤ 60) (hl : row ≠ []) (hll : row.length ≤ 60) (hnd : row.Nodup) (hr : ∀ x ∈ row, 0 ≤ x ∧ x < many) :
    FS (XG w s Ex fz false true true) 2 96 [.list (zs row), .int many] hp (fun d hp' => d = .none ∧ hp' = hp) := by
  refine FS.forget ?_
  refine def_ok' ok (d96 w s) ["roads", "many"] rfl rfl ?_
  (conv => arg 3; whnf; skip); dsimp only [List.zip_cons_cons, List.zip_nil_right, List.zip_nil_left]
  walk_at "xwk"
  refine new_frozen (by walk_at "xnv") ?_
  refine q_eqnil (l := row) rfl ?_
  rw [show row.isEmpty = false from by cases row with | nil => exact absurd rfl hl | cons => rfl]
  walk_at "xwk"
  refine e_dict ok fun a ha => ?_
  walk_at "xwk"
  refine ⟨_, rfl, forG_ind (fun i st => Le (env [("roads", .list (zs row)), ("many", .int many), ("seen", .addr a)]) st.loc ∧ st.hp = updH hp a (some (.dict ((row.take i).map fun k => (k, .bool true))))) ⟨(by walk_at "xle"), rfl⟩ (fun i st _ h => rfl) ?_ ?_⟩
  · rintro i y ⟨loc, hp'⟩ hy ⟨hle, rfl⟩ K' hn hc hb hr'
    obtain ⟨k, rfl, hk⟩ := zs_at hy
    have hkr := hr k (List.mem_of_getElem? hk)
    have hnot : ((row.take i).map fun k => (k, D.bool true)).any (fun e => e.1 == k) = false := by
      rw [List.any_eq_false]
      intro e he
      obtain ⟨k', hk', rfl⟩ := List.mem_map.mp he
      simp only [beq_iff_eq]
      exact fun q => not_mem_take hnd hk (q ▸ hk')
    refine for_step hle ?_
    walk_at "xwk"
    refine FS.callv (is_whole_ok ok) (by walk_at "xo") ?_
    rw [decide_eq_true (by walk_at "xo")]
    walk_at "xwk"
    refine q_ind updH_same ?_
    rw [hnot]
    walk_at "xwk"
    refine set_dict updH_same (by simp; omega) ?_
    walk_at "xwk"
    refine hn _ ⟨by walk_at "xle", ?_⟩
    show updH (updH hp a _) a _ = _
    rw [updH_twice, take_one_more hk, List.map_append]
    rw [if_neg]
    · rfl
    · intro q
      rw [List.any_eq_false] at hnot
      obtain ⟨e, he, e'⟩ := List.any_eq_true.mp q
      exact hnot e he (by simpa using e')
  · rintro ⟨loc, hp'⟩ ⟨hle, rfl⟩
    walk_at "xwk"
    exact ⟨hp, fun b m e => updH_back ha e, rfl, rfl⟩

structure Good (o m : List Int) (r : List (List Int)) : Prop where
  o1 : 1 ≤ o.length
  o60 : o.length ≤ 60
  ml : m.length = o.length
  rl : r.length = o.length
  ov : ∀ x ∈ o, 0 ≤ x ∧ x ≤ 1
  mv : ∀ x ∈ m, 0 ≤ x ∧ x ≤ 999
  rv : ∀ row ∈ r, row ≠ [] ∧ row.length ≤ 60 ∧ row.Nodup ∧ ∀ x ∈ row, 0 ≤ x ∧ x < o.length

theorem need_board_ok (ok : (XG w s Ex fz false true true).Ok) {o m : List Int} {r : List (List Int)} (g : Good o m r) : FS (XG w s Ex fz false true true) 3 103 [.list (zs o), .list (zs m), .list (rws r)] hp (fun d hp' => d = .none ∧ hp' = hp) := by
  obtain ⟨o1, o60, hml, hrl, ov, mv, rv⟩ := g
  refine def_ok' ok (d103 w s) ["owners", "marks", "roads"] rfl rfl ?_
  (conv => arg 3; whnf; skip); dsimp only [List.zip_cons_cons, List.zip_nil_right, List.zip_nil_left]
  walk_at "xwk"
  refine f_len (xs := rws r) rfl (by first | exact rl16 (by assumption) | (rw [rws_length]; omega)) ?_
  rw [rws_length]
  walk_at "xwk"
  refine ⟨_, rfl, for_keep [("owners", .list (zs o)), ("marks", .list (zs m)), ("roads", .list (rws r))] (by walk_at "xle") rfl ?_ ?_⟩
  · intro i y hy loc hle K' hn hc hr
    obtain ⟨k, rfl, hk⟩ := zs_at hy
    have := ov k (List.mem_of_getElem? hk)
    refine for_step hle ?_
    walk_at "xwk"
    refine FS.callv (is_whole_ok ok) (by walk_at "xo") ?_
    rw [decide_eq_true (by walk_at "xo")]
    walk_at "xwk"
    exact hn _ (by walk_at "xle")
  intro loc hle
  refine seq_next (ss_here hle ?_)
  walk_at "xwk"
  refine ⟨_, rfl, for_keep [("owners", .list (zs o)), ("marks", .list (zs m)), ("roads", .list (rws r))] (by walk_at "xle") rfl ?_ ?_⟩
  · intro i y hy loc hle K' hn hc hr
    obtain ⟨k, rfl, hk⟩ := zs_at hy
    have := mv k (List.mem_of_getElem? hk)
    refine for_step hle ?_
    walk_at "xwk"
    refine FS.callv (is_whole_ok ok) (by walk_at "xo") ?_
    rw [decide_eq_true (by walk_at "xo")]
    walk_at "xwk"
    exact hn _ (by walk_at "xle")
  intro loc hle
  refine seq_next (ss_here hle ?_)
  walk_at "xwk"
  refine ⟨_, rfl, for_keep [("owners", .list (zs o)), ("marks", .list (zs m)), ("roads", .list (rws r))] (by walk_at "xle") rfl ?_ ?_⟩
  · intro i y hy loc hle K' hn hc hr
    obtain ⟨row, rfl, hk⟩ := rws_at hy
    obtain ⟨q1, q2, q3, q4⟩ := rv row (List.mem_of_getElem? hk)
    refine for_step hle ?_
    walk_at "xwk"
    refine FS.callv (need_roads_ok ok (by walk_at "xo") q1 q2 q3 q4) (by walk_at "xo") ?_
    walk_at "xwk"
    exact hn _ (by walk_at "xle")
  intro loc hle
  walk_at "xwk"
  exact ⟨rfl, rfl⟩

theorem init_ok (ok : (XG w s Ex fz false true true).Ok) {o m : List Int} {r : List (List Int)} (g : Good o m r) {x dx : Addr} (hx : hp x = some (.inst 160 dx)) (hd : hp dx = some (.ns [])) (hne : x ≠ dx) :
    FS (XG w s Ex fz false true true) 4 115 [.addr x, .list (zs o), .list (zs m), .list (rws r)] hp (fun d hp' => d = .none ∧ hp' = updH hp dx (some (.ns [("hands", .list (zs o)), ("numbers", .list (zs m)), ("leading", .list (rws r))]))) := by
  have g' := g
  obtain ⟨o1, o60, hml, hrl, ov, mv, rv⟩ := g
  refine def_ok' ok (d115 w s) ["self", "owners", "marks", "roads"] rfl rfl ?_
  (conv => arg 3; whnf; skip); dsimp only [List.zip_cons_cons, List.zip_nil_right, List.zip_nil_left]
  walk_at "xwk"
  refine FS.callv (need_board_ok ok g') (by walk_at "xo") ?_
  walk_at "xwk"
  refine new_frozen (by walk_at "xnv") ?_
  walk_at "xwk"
  refine set_attr ok hx hd (by simp) (by kernel_rfl) rfl ?_
  walk_at "xwk"
  refine new_frozen (by walk_at "xnv") ?_
  walk_at "xwk"
  refine set_attr ok (fs := [("hands", .list (zs o))]) (by rw [updH_other hne]; exact hx) updH_same (by simp) (by kernel_rfl) (by kernel_rfl) ?_
  walk_at "xwk"
  refine ⟨_, rfl, by rw [rws_length]; omega, compG_pure (f := some) rfl (fun y hy K' hK => ?_) fun loc' => ?_⟩
  · obtain ⟨i, hi⟩ := List.getElem?_of_mem hy
    obtain ⟨row, rfl, hk⟩ := rws_at hi
    have := (rv row (List.mem_of_getElem? hk)).2.1
    walk_at "xwk"
    refine new_frozen (by walk_at "xnv") ?_
    exact hK _
  · rw [List.filterMap_some]
    dsimp only
    refine new_frozen (by first | exact rl16 (by assumption) | (rw [rws_length]; omega)) ?_
    walk_at "xwk"
    refine set_attr ok (fs := [("hands", .list (zs o)), ("numbers", .list (zs m))]) (by rw [updH_other hne, updH_other hne]; exact hx) updH_same (by simp) (by kernel_rfl) (by kernel_rfl) ?_
    walk_at "xwk"
    refine ⟨rfl, ?_⟩
    rw [updH_twice, updH_twice]
    rfl

theorem board_ok (ok : (XG w s Ex fz false true true).Ok) {o m : List Int} {r : List (List Int)} (g : Good o m r) : FS (XG w s Ex fz false true true) 5 160 [.list (zs o), .list (zs m), .list (rws r)] hp (fun d hp' => d = bd o m r ∧ hp' = hp) := by
  refine FS.freeze (Q := fun d hp' => ∃ x dx, x ≠ dx ∧ hp x = none ∧ hp dx = none ∧ d = .addr x ∧ hp' = updH (updH (updH hp dx (some (.ns []))) x (some (.inst 160 dx))) dx (some (.ns [("hands", .list (zs o)), ("numbers", .list (zs m)), ("leading", .list (rws r))]))) ?_ ?_
  · refine make_ok (fI := 115) ok (dmake w) (dkeep w) (dinit w) (dinitf w) fun x dx hx hdx hne => ?_
    refine FS.mono (init_ok ok g (dx := dx) updH_same (by rw [updH_other (Ne.symm hne)]; exact updH_same) hne) (by walk_at "xo") ?_
    rintro d hp' ⟨rfl, rfl⟩
    exact ⟨rfl, x, dx, hne, hx, hdx, rfl, rfl⟩
  · rintro d hp' ⟨x, dx, hne, hx, hdx, rfl, rfl⟩
    refine ⟨fun b => b = x ∨ b = dx, bd o m r, hp, fun b m' e => ⟨?_, m', ?_, .rfl _⟩, ?_, rfl, rfl⟩
    · rintro (rfl | rfl)
      · rw [hx] at e; cases e
      · rw [hdx] at e; cases e
    · have h1 : b ≠ x := fun q => by rw [q, hx] at e; cases e
      have h2 : b ≠ dx := fun q => by rw [q, hdx] at e; cases e
      rw [updH_other h2, updH_other h1, updH_other h2]; exact e
    · refine Cv.inst (d := dx) (fs := [("hands", .list (zs o)), ("numbers", .list (zs m)), ("leading", .list (rws r))]) ?_ updH_same (.inl rfl) (.inr rfl) rfl fun i x y e1 e2 => ?_
      · rw [updH_other hne]; exact updH_same
      · have : x = y := by
          have e3 : ([("hands", D.list (zs o)), ("numbers", .list (zs m)), ("leading", .list (rws r))] : List (Str × D))[i]? = some y := e2
          rw [e1] at e3; cases e3; rfl
        rw [this]; exact .rfl _
end

local macro_rules | `(tactic| walk_at "xab") => `(tactic| with_reducible first | refine ab_hands (by assumption) ?_ | refine ab_numbers (by assumption) ?_ | refine ab_leading (by assumption) ?_)
local macro_rules | `(tactic| walk_at "xmb") => `(tactic| with_reducible first | exact mb_many (by assumption) | exact mb_need (by assumption) | exact mb_owner (by assumption) | exact mb_mark (by assumption) | exact mb_roads (by assumption))
section
variable {w : World} {s : Shared} {Ex fz : Addr → Prop} {hp : Hp}
def cellAt (ns : List Int) (k : Int) : Int := if k < ns.length then (ns[k.toNat]?).getD 0 else 0
theorem cell_at_ok (ok : (XG w s Ex fz false true true).Ok) {ns : List Int} (hn : ns.length ≤ 63) {k : Int} (hk : 0 ≤ k) : FS (XG w s Ex fz false true true) 1 188 [.scr ns, .int k] hp (fun r hp' => r = .int (cellAt ns k) ∧ hp' = hp) := by
  refine def_ok' ok (d188 w s) ["_law_script", "_law_k"] rfl rfl ?_
  (conv => arg 3; whnf; skip); dsimp only [List.zip_cons_cons, List.zip_nil_right, List.zip_nil_left]
  walk_at "xwk"
  refine f_len_scr (by walk_at "xo") ?_
  walk_at "xwk"
  by_cases h : k < ns.length
  · walk_at "xwk"
    have hlt : k.toNat < ns.length := by walk_at "xo"
    refine i_scr (by walk_at "xo") hk h (List.getElem?_eq_getElem hlt) ?_
    walk_at "xwk"
    exact ⟨by simp [cellAt, h, List.getElem?_eq_getElem hlt], rfl⟩
  · walk_at "xwk"
    exact ⟨by simp [cellAt, h], rfl⟩
def mixed (ns : List Int) (k salt : Int) : Int := (cellAt ns k * 48271 + salt * 5783) % 999983
theorem mixed_ok (ok : (XG w s Ex fz false true true).Ok) {ns : List Int} (hn : ns.length ≤ 63) {k salt : Int} (hk : 0 ≤ k) : FS (XG w s Ex fz false true true) 2 195 [.scr ns, .int k, .int salt] hp (fun r hp' => r = .int (mixed ns k salt) ∧ hp' = hp) := by
  refine def_ok' ok (d195 w s) ["_law_script", "_law_k", "_law_salt"] rfl rfl ?_
  (conv => arg 3; whnf; skip); dsimp only [List.zip_cons_cons, List.zip_nil_right, List.zip_nil_left]
  walk_at "xwk"
  refine FS.mono (cell_at_ok ok hn hk) (by walk_at "xo") ?_
  rintro _ _ ⟨rfl, rfl⟩
  walk_at "xwk"
  exact ⟨rfl, rfl⟩

theorem mixed_range (ns : List Int) (k salt : Int) : 0 ≤ mixed ns k salt ∧ mixed ns k salt < 999983 := by unfold mixed; omega
end

section
variable {w : World} {s : Shared} {Ex fz : Addr → Prop} {hp : Hp}
theorem whole_no (ok : (XG w s Ex fz false true true).Ok) {d : D} {m : Int} (hd : WayD d) (hi : ∀ i, d ≠ .int i) : FS (XG w s Ex fz false true true) 1 89 [d, .int m] hp (fun r hp' => r = .bool false ∧ hp' = hp) := by
  refine def_ok' ok (d89 w s) ["thing", "most"] rfl rfl ?_
  (conv => arg 3; whnf; skip); dsimp only [List.zip_cons_cons, List.zip_nil_right, List.zip_nil_left]
  cases hd with
  | int i => exact absurd rfl (hi i)
  | none => walk_at "xwk"; refine f_isi_ni ?_; walk_at "xwk"; exact ⟨rfl, rfl⟩
  | bool b => walk_at "xwk"; refine f_isi_bi ?_; walk_at "xwk"; refine f_isi_bb ?_; walk_at "xwk"; exact ⟨rfl, rfl⟩
  | str => walk_at "xwk"; refine f_isi_si ?_; walk_at "xwk"; exact ⟨rfl, rfl⟩
def whole (d : D) (m : Int) : Bool := match d with
  | .int i => decide (0 ≤ i ∧ i ≤ m)
  | _ => false
theorem whole_ok (ok : (XG w s Ex fz false true true).Ok) {d : D} {m : Int} (hd : WayD d) : FS (XG w s Ex fz false true true) 1 89 [d, .int m] hp (fun r hp' => r = .bool (whole d m) ∧ hp' = hp) := by
  cases hd with
  | int i => exact is_whole_ok ok
  | none => exact whole_no ok .none (fun i q => by cases q)
  | bool b => exact whole_no ok (.bool b) (fun i q => by cases q)
  | str => exact whole_no ok .str (fun i q => by cases q)
theorem whole_int {d : D} {m : Int} (hd : WayD d) (h : whole d m = true) : ∃ i, d = .int i ∧ 0 ≤ i ∧ i ≤ m := by
  cases hd with
  | int i => exact ⟨i, rfl, of_decide_eq_true h⟩
  | none => cases h
  | bool b => cases h
  | str => cases h
inductive RowD : D → Prop
  | list {ds : List D} (h : ∀ x ∈ ds, WayD x) (hl : ds.length ≤ 62) : RowD (.list ds)
  | tup (ds : List D) : RowD (.tup ds)
  | none : RowD .none

theorem need_roads_gen (ok : (XG w s Ex fz false true true).Ok) (hE : Ex 44) {d : D} (hd : RowD d) {many : Int} :
    FS (XG w s Ex fz false true true) 2 96 [d, .int many] hp (fun r hp' => r = .none ∧ hp' = hp ∧ ∃ row, d = .list (zs row) ∧ row ≠ [] ∧ row.Nodup ∧ ∀ x ∈ row, 0 ≤ x ∧ x < many) := by
  refine FS.forget ?_
  refine def_ok' ok (d96 w s) ["roads", "many"] rfl rfl ?_
  (conv => arg 3; whnf; skip); dsimp only [List.zip_cons_cons, List.zip_nil_right, List.zip_nil_left]
  cases hd with
  | none =>
    walk_at "xwk"
    refine f_isi_nl ?_
    walk_at "xwk"
    exact s_raise ok (g_NoBoard w s) (x_NoBoard w s) hE
  | tup ds =>
    walk_at "xwk"
    refine f_isi_tl ?_
    walk_at "xwk"
    exact s_raise ok (g_NoBoard w s) (x_NoBoard w s) hE
  | @list ds hw hl =>
    walk_at "xwk"
    refine new_frozen (by simp) ?_
    refine q_eqnilD (ds := ds) rfl hw ?_
    cases hds : ds.isEmpty with
    | true =>
      walk_at "xwk"
      exact s_raise ok (g_NoBoard w s) (x_NoBoard w s) hE
    | false =>
      have hne : ds ≠ [] := fun q => by rw [q] at hds; cases hds
      walk_at "xwk"
      refine e_dict ok fun a ha => ?_
      walk_at "xwk"
      refine ⟨_, rfl, forG_ind (fun i st => ∃ row, ds.take i = zs row ∧ row.Nodup ∧ (∀ x ∈ row, 0 ≤ x ∧ x < many) ∧ Le (env [("roads", .list ds), ("many", .int many), ("seen", .addr a)]) st.loc ∧ st.hp = updH hp a (some (.dict (row.map fun k => (k, .bool true)))))
        ⟨[], rfl, List.nodup_nil, by simp, by walk_at "xle", rfl⟩ (fun i st _ h => rfl) ?_ ?_⟩
      · rintro i y ⟨loc, hp'⟩ hy ⟨row, htk, hnd, hr, hle, rfl⟩ K' hn hc hb hr'
        have hyw := hw y (List.mem_of_getElem? hy)
        have hrl : row.length ≤ 62 := by
          have : (ds.take i).length ≤ 62 := Nat.le_trans (List.length_take_le' _ _) hl
          rw [htk, zs_length] at this; exact this
        refine for_step hle ?_
        walk_at "xwk"
        refine FS.callv (whole_ok ok hyw) (by walk_at "xo") ?_
        cases hb : whole y (many - 1) with
        | false =>
          walk_at "xwk"
          exact s_raise ok (g_NoBoard w s) (x_NoBoard w s) hE
        | true =>
          obtain ⟨k, rfl, hk0, hk1⟩ := whole_int hyw hb
          walk_at "xwk"
          refine q_ind updH_same ?_
          cases hin : ((row.map fun k => (k, D.bool true)).any (fun e => e.1 == k)) with
          | true =>
            walk_at "xwk"
            exact s_raise ok (g_NoBoard w s) (x_NoBoard w s) hE
          | false =>
            have hnk : k ∉ row := fun q => by
              rw [List.any_eq_false] at hin
              exact hin (k, .bool true) (List.mem_map.mpr ⟨k, q, rfl⟩) (by simp)
            walk_at "xwk"
            refine set_dict updH_same (by simp; omega) ?_
            walk_at "xwk"
            refine hn _ ⟨row ++ [k], ?_, nodup_snoc hnd hnk, all_snoc (P := fun x => 0 ≤ x ∧ x < many) hr ⟨hk0, by walk_at "xo"⟩, by walk_at "xle", ?_⟩
            · rw [take_one_more hy, htk, zs_append]; rfl
            · show updH (updH hp a _) a _ = _
              rw [updH_twice, List.map_append, if_neg]
              · rfl
              · intro q
                rw [List.any_eq_false] at hin
                obtain ⟨e, he, e'⟩ := List.any_eq_true.mp q
                exact hin e he (by simpa using e')
      · rintro ⟨loc, hp'⟩ ⟨row, htk, hnd, hr, hle, rfl⟩
        rw [List.take_length] at htk
        walk_at "xwk"
        refine ⟨hp, fun b m e => updH_back ha e, rfl, rfl, row, by rw [htk], fun q => hne ?_, hnd, hr⟩
        rw [htk, q]; rfl

inductive TopD (P : D → Prop) : D → Prop
  | list {ds : List D} (h : ∀ x ∈ ds, P x) (hl : ds.length ≤ 62) : TopD P (.list ds)
  | tup (ds : List D) : TopD P (.tup ds)
  | none : TopD P .none
def WF (d0 d1 d2 : D) : Prop := ∃ o m r, d0 = .list (zs o) ∧ d1 = .list (zs m) ∧ d2 = .list (rws r) ∧ Good o m r

theorem need_board_gen (ok : (XG w s Ex fz false true true).Ok) (hE : Ex 44) {d0 d1 d2 : D} (h0 : TopD WayD d0) (h1 : TopD WayD d1) (h2 : TopD RowD d2) :
    FS (XG w s Ex fz false true true) 3 103 [d0, d1, d2] hp (fun r hp' => r = .none ∧ hp' = hp ∧ WF d0 d1 d2) := by
  refine def_ok' ok (d103 w s) ["owners", "marks", "roads"] rfl rfl ?_
  (conv => arg 3; whnf; skip); dsimp only [List.zip_cons_cons, List.zip_nil_right, List.zip_nil_left]
  cases h0 with
  | none => walk_at "xwk"; refine f_isi_nl ?_; walk_at "xwk"; exact s_raise ok (g_NoBoard w s) (x_NoBoard w s) hE
  | tup ds => walk_at "xwk"; refine f_isi_tl ?_; walk_at "xwk"; exact s_raise ok (g_NoBoard w s) (x_NoBoard w s) hE
  | @list xs hx lx =>
  cases h1 with
  | none => walk_at "xwk"; refine f_isi_nl ?_; walk_at "xwk"; exact s_raise ok (g_NoBoard w s) (x_NoBoard w s) hE
  | tup ds => walk_at "xwk"; refine f_isi_tl ?_; walk_at "xwk"; exact s_raise ok (g_NoBoard w s) (x_NoBoard w s) hE
  | @list ys hy ly =>
  cases h2 with
  | none => walk_at "xwk"; refine f_isi_nl ?_; walk_at "xwk"; exact s_raise ok (g_NoBoard w s) (x_NoBoard w s) hE
  | tup ds => walk_at "xwk"; refine f_isi_tl ?_; walk_at "xwk"; exact s_raise ok (g_NoBoard w s) (x_NoBoard w s) hE
  | @list zz hz lz =>
  by_cases e1 : xs.length = ys.length
  · by_cases e2 : xs.length = zz.length
    · by_cases e3 : 1 ≤ xs.length
      · by_cases e4 : xs.length ≤ 60
        · walk_at "xwk"
          refine ⟨_, rfl, forG_ind (fun i st => (∃ o, xs.take i = zs o ∧ ∀ x ∈ o, 0 ≤ x ∧ x ≤ 1) ∧ Le (env [("owners", .list xs), ("marks", .list ys), ("roads", .list zz)]) st.loc ∧ st.hp = hp)
            ⟨⟨[], rfl, by simp⟩, by walk_at "xle", rfl⟩ (fun i st _ _ => rfl) ?_ ?_⟩
          · rintro i y ⟨loc, hp'⟩ hyi ⟨⟨o, htk, ho⟩, hle, hpe⟩ K' hn hc hb hr'
            obtain rfl : hp = hp' := hpe.symm
            have hyw := hx y (List.mem_of_getElem? hyi)
            refine for_step hle ?_
            walk_at "xwk"
            refine FS.callv (whole_ok ok hyw) (by walk_at "xo") ?_
            cases hb : whole y 1 with
            | false => walk_at "xwk"; exact s_raise ok (g_NoBoard w s) (x_NoBoard w s) hE
            | true =>
              obtain ⟨k, rfl, hk0, hk1⟩ := whole_int hyw hb
              walk_at "xwk"
              exact hn _ ⟨⟨o ++ [k], by rw [take_one_more hyi, htk, zs_append]; rfl, all_snoc (P := fun x => 0 ≤ x ∧ x ≤ 1) ho ⟨hk0, hk1⟩⟩, by walk_at "xle", rfl⟩
          · rintro ⟨loc, hp'⟩ ⟨⟨o, hto, ho⟩, hle, hpe⟩
            obtain rfl : hp = hp' := hpe.symm
            rw [List.take_length] at hto
            refine seq_next (ss_here hle ?_)
            walk_at "xwk"
            refine ⟨_, rfl, forG_ind (fun i st => (∃ m, ys.take i = zs m ∧ ∀ x ∈ m, 0 ≤ x ∧ x ≤ 999) ∧ Le (env [("owners", .list xs), ("marks", .list ys), ("roads", .list zz)]) st.loc ∧ st.hp = hp)
              ⟨⟨[], rfl, by simp⟩, by walk_at "xle", rfl⟩ (fun i st _ _ => rfl) ?_ ?_⟩
            · rintro i y ⟨loc, hp'⟩ hyi ⟨⟨m, htk, hm⟩, hle, hpe⟩ K' hn hc hb hr'
              obtain rfl : hp = hp' := hpe.symm
              have hyw := hy y (List.mem_of_getElem? hyi)
              refine for_step hle ?_
              walk_at "xwk"
              refine FS.callv (whole_ok ok hyw) (by walk_at "xo") ?_
              cases hb : whole y 999 with
              | false => walk_at "xwk"; exact s_raise ok (g_NoBoard w s) (x_NoBoard w s) hE
              | true =>
                obtain ⟨k, rfl, hk0, hk1⟩ := whole_int hyw hb
                walk_at "xwk"
                exact hn _ ⟨⟨m ++ [k], by rw [take_one_more hyi, htk, zs_append]; rfl, all_snoc (P := fun x => 0 ≤ x ∧ x ≤ 999) hm ⟨hk0, hk1⟩⟩, by walk_at "xle", rfl⟩
            · rintro ⟨loc, hp'⟩ ⟨⟨m, htm, hm⟩, hle, hpe⟩
              obtain rfl : hp = hp' := hpe.symm
              rw [List.take_length] at htm
              refine seq_next (ss_here hle ?_)
              walk_at "xwk"
              refine ⟨_, rfl, forG_ind (fun i st => (∃ r, zz.take i = rws r ∧ ∀ row ∈ r, row ≠ [] ∧ row.Nodup ∧ ∀ x ∈ row, 0 ≤ x ∧ x < (xs.length : Int)) ∧ Le (env [("owners", .list xs), ("marks", .list ys), ("roads", .list zz)]) st.loc ∧ st.hp = hp)
                ⟨⟨[], rfl, by simp⟩, by walk_at "xle", rfl⟩ (fun i st _ _ => rfl) ?_ ?_⟩
              · rintro i y ⟨loc, hp'⟩ hyi ⟨⟨r, htk, hr⟩, hle, hpe⟩ K' hn hc hb hr'
                obtain rfl : hp = hp' := hpe.symm
                have hyw := hz y (List.mem_of_getElem? hyi)
                refine for_step hle ?_
                walk_at "xwk"
                refine FS.call (need_roads_gen ok hE hyw) (by walk_at "xo") ?_
                rintro _ _ ⟨rfl, rfl, row, rfl, q1, q2, q3⟩
                walk_at "xwk"
                refine hn _ ⟨⟨r ++ [row], ?_, all_snoc (P := fun row => row ≠ [] ∧ row.Nodup ∧ ∀ x ∈ row, 0 ≤ x ∧ x < (xs.length : Int)) hr ⟨q1, q2, q3⟩⟩, by walk_at "xle", rfl⟩
                rw [take_one_more hyi, htk]; simp [rws]
              · rintro ⟨loc, hp'⟩ ⟨⟨r, htr, hr⟩, hle, hpe⟩
                obtain rfl : hp = hp' := hpe.symm
                rw [List.take_length] at htr
                walk_at "xwk"
                have lo : o.length = xs.length := by rw [hto, zs_length]
                have lm : m.length = ys.length := by rw [htm, zs_length]
                have lr : r.length = zz.length := by rw [htr, rws_length]
                refine ⟨rfl, rfl, o, m, r, by rw [hto], by rw [htm], by rw [htr], by walk_at "xo", by walk_at "xo", by walk_at "xo", by walk_at "xo", ho, hm, fun row hrow => ?_⟩
                obtain ⟨q1, q2, q3⟩ := hr row hrow
                have := short_of_nodup (n := xs.length) q2 (fun x hx => by have := q3 x hx; omega)
                exact ⟨q1, by walk_at "xo", q2, fun x hx => by have := q3 x hx; omega⟩
        · walk_at "xwk"; exact s_raise ok (g_NoBoard w s) (x_NoBoard w s) hE
      · walk_at "xwk"; exact s_raise ok (g_NoBoard w s) (x_NoBoard w s) hE
    · walk_at "xwk"; exact s_raise ok (g_NoBoard w s) (x_NoBoard w s) hE
  · walk_at "xwk"; exact s_raise ok (g_NoBoard w s) (x_NoBoard w s) hE

theorem init_bad (ok : (XG w s Ex fz false true true).Ok) (hE : Ex 44) {d0 d1 d2 : D} (h0 : TopD WayD d0) (h1 : TopD WayD d1) (h2 : TopD RowD d2) (hb : ¬ WF d0 d1 d2) {x : Addr} :
    FS (XG w s Ex fz false true true) 4 115 [.addr x, d0, d1, d2] hp (fun _ _ => False) := by
  refine def_ok' ok (d115 w s) ["self", "owners", "marks", "roads"] rfl rfl ?_
  (conv => arg 3; whnf; skip); dsimp only [List.zip_cons_cons, List.zip_nil_right, List.zip_nil_left]
  walk_at "xwk"
  refine FS.call (need_board_gen ok hE h0 h1 h2) (by walk_at "xo") ?_
  rintro _ _ ⟨rfl, rfl, q⟩
  exact absurd q hb
theorem board_bad (ok : (XG w s Ex fz false true true).Ok) (hE : Ex 44) {d0 d1 d2 : D} (h0 : TopD WayD d0) (h1 : TopD WayD d1) (h2 : TopD RowD d2) (hb : ¬ WF d0 d1 d2) :
    FS (XG w s Ex fz false true true) 5 160 [d0, d1, d2] hp (fun _ _ => False) := by
  refine make_ok (fI := 115) ok (dmake w) (dkeep w) (dinit w) (dinitf w) fun x dx hx hdx hne => ?_
  refine FS.mono (init_bad ok hE h0 h1 h2 hb) (by walk_at "xo") ?_
  rintro d hp' q
  exact q.elim
end

section
variable {w : World} {s : Shared} {Ex fz : Addr → Prop} {hp : Hp}

theorem number_of_ok (ok : (XG w s Ex fz false true true).Ok) {a : Int} (h0 : 0 ≤ a) (h1 : a ≤ 999) : FS (XG w s Ex fz false true true) 1 171 [.str (dg a)] hp (fun d hp' => d = .int a ∧ hp' = hp) := by
  obtain ⟨l1, l3, cs, dig, lead⟩ := dg_is h0 h1
  refine def_ok' ok (d171 w s) ["word"] rfl rfl ?_
  (conv => arg 3; whnf; skip); dsimp only [List.zip_cons_cons, List.zip_nil_right, List.zip_nil_left]
  walk_at "xwk"
  refine m_ meth_isdigit ?_
  walk_at "xwk"
  refine f_isdigit ?_
  rw [dig]
  walk_at "xwk"
  refine f_lens (by walk_at "xo") ?_
  walk_at "xwk"
  refine f_lens (by walk_at "xo") ?_
  walk_at "xwk"
  by_cases hl : ((dg a).length : Int) > 1
  · walk_at "xwk"
    obtain ⟨c, hc⟩ : ∃ c, (dg a).cps[0]? = some c := ⟨(dg a).cps[0]'(by show 0 < (dg a).length; omega), Array.getElem?_eq_getElem _⟩
    refine i_str (c := c) (by walk_at "xo") (by walk_at "xo") (by simpa using hc) ?_
    walk_at "xwk"
    refine q_eqs ?_
    have hne : ((⟨#[c]⟩ : Str) == Str.ofString "0") = false := by
      rw [zero_is]
      refine decide_eq_false fun z => ?_
      rcases lead with q | q
      · omega
      · rw [hc, z] at q; exact q rfl
    rw [hne]
    walk_at "xwk"
    refine f_intn h0 h1 ?_
    walk_at "xwk"
    exact ⟨rfl, rfl⟩
  · walk_at "xwk"
    refine f_intn h0 h1 ?_
    walk_at "xwk"
    exact ⟨rfl, rfl⟩

theorem number_of_no (ok : (XG w s Ex fz false true true).Ok) (hE : Ex 80) {x : Str} (ha : Asc x) (hx : x.length ≤ 1000) (hn : numB x = false) : FS (XG w s Ex fz false true true) 1 171 [.str x] hp (fun _ _ => False) := by
  have nn : ¬ numB x = true := by rw [hn]; decide
  refine def_ok' ok (d171 w s) ["word"] rfl rfl ?_
  (conv => arg 3; whnf; skip); dsimp only [List.zip_cons_cons, List.zip_nil_right, List.zip_nil_left]
  walk_at "xwk"
  refine m_ meth_isdigit ?_
  walk_at "xwk"
  refine f_isdigit ?_
  cases hd : Txt.isdigit x with
  | false =>
    walk_at "xwk"
    exact s_raise ok (g_NoNote w s) (x_NoNote w s) hE
  | true =>
    walk_at "xwk"
    refine f_lens (by walk_at "xo") ?_
    walk_at "xwk"
    by_cases h3 : (x.length : Int) > 3
    · walk_at "xwk"
      exact s_raise ok (g_NoNote w s) (x_NoNote w s) hE
    · walk_at "xwk"
      refine f_lens (by walk_at "xo") ?_
      walk_at "xwk"
      by_cases hl : (x.length : Int) > 1
      · walk_at "xwk"
        obtain ⟨c, hc⟩ : ∃ c, x.cps[0]? = some c := ⟨x.cps[0]'(by show 0 < x.length; omega), Array.getElem?_eq_getElem _⟩
        refine i_str (c := c) (by walk_at "xo") (by walk_at "xo") (by simpa using hc) ?_
        walk_at "xwk"
        refine q_eqs ?_
        rw [zero_is]
        by_cases hz : c = 48
        · rw [decide_eq_true hz]
          walk_at "xwk"
          exact s_raise ok (g_NoNote w s) (x_NoNote w s) hE
        · exact absurd (numB_of ha hd (by walk_at "xo") (.inr (by rw [hc]; intro q; exact hz (Option.some.inj q)))) nn
      · exact absurd (numB_of ha hd (by walk_at "xo") (.inl (by walk_at "xo"))) nn

theorem read_row_ok (ok : (XG w s Ex fz false true true).Ok) {t : T3} (ht : TOk t) : FS (XG w s Ex fz false true true) 2 176 [.str (rowOf t)] hp (fun d hp' => d = rowD t ∧ hp' = hp) := by
  have hrl := rowOf_len ht
  obtain ⟨o, m, rs⟩ := t
  obtain ⟨ho, h0, h1, hr, hl⟩ := ht
  simp only at ho h0 h1 hr hl
  replace hrl : (rowT o m rs).length ≤ 9 + 4 * rs.length := hrl
  have hhl := hdT_len (o := o) h0 h1
  have htl := rowF_len (a := Str.empty) hr
  have he0 : Str.empty.length = 0 := rfl
  show FS (XG w s Ex fz false true true) 2 176 [.str (rowT o m rs)] hp (fun d hp' => d = .tup [.int o, .int m, .list (zs rs)] ∧ hp' = hp)
  refine def_ok' ok (d176 w s) ["row"] rfl rfl ?_
  (conv => arg 3; whnf; skip); dsimp only [List.zip_cons_cons, List.zip_nil_right, List.zip_nil_left]
  walk_at "xwk"
  refine m_ meth_split ?_
  walk_at "xwk"
  refine f_split (by decide +kernel) (by walk_at "xo") ?_
  rw [split_row h0 h1 hr]
  refine new_frozen (by simp) ?_
  walk_at "xwk"
  refine i_at (d := .str (hdT o m)) rfl (by simp) (by walk_at "xo") rfl ?_
  refine m_ meth_split ?_
  walk_at "xwk"
  refine f_split (by decide +kernel) (by walk_at "xo") ?_
  rw [split_head h0 h1]
  refine new_frozen (by simp) ?_
  walk_at "xwk"
  refine i_at (d := .str (rowF Str.empty rs)) rfl (by simp) (by walk_at "xo") rfl ?_
  refine m_ meth_split ?_
  walk_at "xwk"
  refine f_split (by decide +kernel) (by walk_at "xo") ?_
  rw [split_tail hr]
  refine new_frozen (by simp; omega) ?_
  walk_at "xwk"
  refine i_at (d := .str (w0 o)) rfl (by simp) (by walk_at "xo") rfl ?_
  walk_at "xwk"
  refine ⟨by simp, ?_⟩
  refine q_notin2 asc_w0 (asc_of (by decide +kernel)) (asc_of (by decide +kernel)) ?_
  rw [w0_in ho]
  walk_at "xwk"
  refine i_at (d := .str Str.empty) rfl (by simp; omega) (by walk_at "xo") rfl ?_
  walk_at "xwk"
  refine q_nes ?_
  rw [show (Str.empty != Str.ofString "") = false from by decide +kernel]
  walk_at "xwk"
  refine i_at (d := .str (w0 o)) rfl (by simp) (by walk_at "xo") rfl ?_
  walk_at "xwk"
  refine q_eqs ?_
  walk_at "xwk"
  refine f_intb ?_
  rw [w0_odd ho]
  walk_at "xwk"
  refine i_at (d := .str (dg m)) rfl (by simp) (by walk_at "xo") rfl ?_
  walk_at "xwk"
  refine FS.callv (number_of_ok ok h0 h1) (by walk_at "xo") ?_
  walk_at "xwk"
  refine sl_l (bound_nat (k := 1) (by walk_at "xo")) rfl rfl (by simp; omega) ?_
  rw [show ((Str.empty :: rs.map dg).map D.str) = .str Str.empty :: (rs.map dg).map D.str from rfl, show cut (some ((1 : Nat) : Int)) none (D.str Str.empty :: (rs.map dg).map D.str) = (rs.map dg).map D.str from cut_tail]
  refine new_frozen (by simp; omega) ?_
  refine ⟨_, rfl, by simp; omega, compG_ind (fun i acc st => acc = zs (rs.take i) ∧ st.hp = hp) ⟨rfl, rfl⟩ (fun _ _ _ _ _ => rfl) ?_ ?_⟩
  · rintro i y acc ⟨loc, hp'⟩ hy ⟨rfl, rfl⟩ K' hK
    obtain ⟨x, hx, rfl⟩ : ∃ x, rs[i]? = some x ∧ y = .str (dg x) := by
      rw [List.getElem?_map, List.getElem?_map] at hy
      obtain ⟨z, hz, rfl⟩ := Option.map_eq_some_iff.mp hy
      obtain ⟨x, hx, rfl⟩ := Option.map_eq_some_iff.mp hz
      exact ⟨x, hx, rfl⟩
    obtain ⟨q0, q1⟩ := hr x (List.mem_of_getElem? hx)
    change wpIfs _ _ _ _ _
    walk_at "xwk"
    refine FS.callv (number_of_ok ok q0 q1) (by walk_at "xo") ?_
    exact hK (some (.int x)) _ ⟨by rw [take_one_more hx, zs_append]; rfl, rfl⟩
  · rintro acc ⟨loc, hp'⟩ ⟨rfl, rfl⟩
    rw [List.length_map, List.length_map, List.take_length]
    dsimp only
    refine new_frozen (by walk_at "xz") ?_
    walk_at "xwk"
    refine ⟨by simp, ?_⟩
    walk_at "xwk"
    exact ⟨rfl, rfl⟩

theorem read_row_no (ok : (XG w s Ex fz false true true).Ok) (hE : Ex 80) {row : Str} (ha : Asc row) (hx : row.length ≤ 60) (hn : ¬ IsRow row) : FS (XG w s Ex fz false true true) 2 176 [.str row] hp (fun _ _ => False) := by
  refine def_ok' ok (d176 w s) ["row"] rfl rfl ?_
  (conv => arg 3; whnf; skip); dsimp only [List.zip_cons_cons, List.zip_nil_right, List.zip_nil_left]
  walk_at "xwk"
  refine m_ meth_split ?_
  walk_at "xwk"
  refine f_split (by decide +kernel) (by walk_at "xo") ?_
  rw [show Txt.split row (Str.ofString ":") = Txt.split row ⟨#[58]⟩ from by rw [co_is]]
  have hj := StrLaws.join_split row ⟨#[58]⟩
  have hw : ∀ p ∈ Txt.split row ⟨#[58]⟩, Asc p ∧ p.length ≤ row.length := fun p hp => ⟨split_asc ha hp, split_wlen hp⟩
  have hm := split_many (x := row) (c := 58)
  generalize Txt.split row ⟨#[58]⟩ = ps at hj hw hm ⊢
  refine new_frozen (by rw [List.length_map]; omega) ?_
  by_cases h2 : ps.length = 2
  · obtain ⟨p, q, rfl⟩ := two_of h2
    obtain ⟨hp1, hp2⟩ := hw p (by simp)
    obtain ⟨hq1, hq2⟩ := hw q (by simp)
    walk_at "xwk"
    refine i_at (d := .str p) rfl (by simp) (by walk_at "xo") rfl ?_
    refine m_ meth_split ?_
    walk_at "xwk"
    refine f_split (by decide +kernel) (by walk_at "xo") ?_
    rw [show Txt.split p (Str.ofString " ") = Txt.split p ⟨#[32]⟩ from by rw [sp_is]]
    have hj2 := StrLaws.join_split p ⟨#[32]⟩
    have hw2 : ∀ x ∈ Txt.split p ⟨#[32]⟩, Asc x ∧ x.length ≤ p.length := fun x hx => ⟨split_asc hp1 hx, split_wlen hx⟩
    have hm2 := split_many (x := p) (c := 32)
    generalize Txt.split p ⟨#[32]⟩ = hs at hj2 hw2 hm2 ⊢
    refine new_frozen (by rw [List.length_map]; omega) ?_
    walk_at "xwk"
    refine i_at (d := .str q) rfl (by simp) (by walk_at "xo") rfl ?_
    refine m_ meth_split ?_
    walk_at "xwk"
    refine f_split (by decide +kernel) (by walk_at "xo") ?_
    rw [show Txt.split q (Str.ofString " ") = Txt.split q ⟨#[32]⟩ from by rw [sp_is]]
    have hj3 := StrLaws.join_split q ⟨#[32]⟩
    have hw3 : ∀ x ∈ Txt.split q ⟨#[32]⟩, Asc x ∧ x.length ≤ q.length := fun x hx => ⟨split_asc hq1 hx, split_wlen hx⟩
    have hm3 := split_many (x := q) (c := 32)
    have hn3 := split_ne q 32
    generalize Txt.split q ⟨#[32]⟩ = tl at hj3 hw3 hm3 hn3 ⊢
    refine new_frozen (by rw [List.length_map]; omega) ?_
    obtain ⟨t0, ws, rfl⟩ := cons_of hn3
    by_cases h3 : hs.length = 2
    · obtain ⟨a, v, rfl⟩ := two_of h3
      obtain ⟨ha1, ha2⟩ := hw2 a (by simp)
      obtain ⟨hv1, hv2⟩ := hw2 v (by simp)
      walk_at "xwk"
      refine i_at (d := .str a) rfl (by simp) (by walk_at "xo") rfl ?_
      walk_at "xwk"
      refine ⟨by simp, ?_⟩
      refine q_notin2 ha1 (asc_of (by decide +kernel)) (asc_of (by decide +kernel)) ?_
      cases hin : (Str.ofString "even" == a || Str.ofString "odd" == a) with
      | false =>
        walk_at "xwk"
        exact s_raise ok (g_NoNote w s) (x_NoNote w s) hE
      | true =>
        obtain ⟨o, ho, rfl⟩ := w0_of hin
        walk_at "xwk"
        refine i_at (d := .str t0) rfl (by rw [List.length_map]; omega) (by walk_at "xo") rfl ?_
        walk_at "xwk"
        refine q_nes ?_
        cases hne : (t0 != Str.ofString "") with
        | true =>
          walk_at "xwk"
          exact s_raise ok (g_NoNote w s) (x_NoNote w s) hE
        | false =>
          obtain rfl : t0 = Str.empty := by
            have : t0 = Str.ofString "" := by simpa using hne
            rw [this]; decide +kernel
          walk_at "xwk"
          refine i_at (d := .str (w0 o)) rfl (by simp) (by walk_at "xo") rfl ?_
          walk_at "xwk"
          refine q_eqs ?_
          walk_at "xwk"
          refine f_intb ?_
          rw [w0_odd ho]
          walk_at "xwk"
          refine i_at (d := .str v) rfl (by simp) (by walk_at "xo") rfl ?_
          walk_at "xwk"
          cases hnv : numB v with
          | false =>
            refine FS.call (number_of_no ok hE hv1 (by walk_at "xo") hnv) (by walk_at "xo") ?_
            intro _ _ z
            exact z.elim
          | true =>
            obtain ⟨ev, hm0, hm1⟩ := num_dg hnv
            generalize vl v = m at ev hm0 hm1
            subst ev
            refine FS.callv (number_of_ok ok hm0 hm1) (by walk_at "xo") ?_
            walk_at "xwk"
            refine sl_l (bound_nat (k := 1) (by walk_at "xo")) rfl rfl (by rw [List.length_map]; omega) ?_
            rw [show ((Str.empty :: ws).map D.str) = .str Str.empty :: ws.map D.str from rfl, show cut (some ((1 : Nat) : Int)) none (D.str Str.empty :: ws.map D.str) = ws.map D.str from cut_tail]
            have hwl : ws.length ≤ 61 := by simp only [List.length_cons] at hm3; omega
            refine new_frozen (by rw [List.length_map]; omega) ?_
            refine ⟨_, rfl, by rw [List.length_map]; omega, compG_ind (fun i acc st => (∃ rs, acc = zs rs ∧ ws.take i = rs.map dg ∧ ∀ x ∈ rs, 0 ≤ x ∧ x ≤ 999) ∧ st.hp = hp) ⟨⟨[], rfl, rfl, by simp⟩, rfl⟩ (fun _ _ _ _ _ => rfl) ?_ ?_⟩
            · rintro i y acc ⟨loc, hp'⟩ hy ⟨⟨rs, rfl, hrs, hr⟩, rfl⟩ K' hK
              obtain ⟨x, hx, rfl⟩ := str_get hy
              obtain ⟨hx1, hx2⟩ := hw3 x (List.mem_cons_of_mem _ (List.mem_of_getElem? hx))
              change wpIfs _ _ _ _ _
              walk_at "xwk"
              cases hnx : numB x with
              | false =>
                refine FS.call (number_of_no ok hE hx1 (by walk_at "xo") hnx) (by walk_at "xo") ?_
                intro _ _ z
                exact z.elim
              | true =>
                obtain ⟨ex, hx0, hx9⟩ := num_dg hnx
                generalize vl x = k at ex hx0 hx9
                subst ex
                refine FS.callv (number_of_ok ok hx0 hx9) (by walk_at "xo") ?_
                exact hK (some (.int k)) _ ⟨⟨rs ++ [k], by rw [zs_append]; rfl, by rw [take_one_more hx, hrs, List.map_append]; rfl, all_snoc (P := fun x => 0 ≤ x ∧ x ≤ 999) hr ⟨hx0, hx9⟩⟩, rfl⟩
            · rintro acc ⟨loc, hp'⟩ ⟨⟨rs, rfl, hrs, hr⟩, rfl⟩
              rw [List.length_map, List.take_length] at hrs
              refine absurd (tok_of (rs := rs) ho hm0 hm1 hr hx ?_) hn
              rw [← hj, rowT_join]
              have e1 : p = hdT o m := by rw [← hj2]; unfold hdT; rw [sp_is]; rfl
              have e2 : q = rowF Str.empty rs := by rw [← hj3, rowF_join, hrs]
              rw [e1, e2]
    · have h3' : ((hs.map D.str).length : Int) ≠ 2 := by rw [List.length_map]; omega
      walk_at "xwk"
      exact s_raise ok (g_NoNote w s) (x_NoNote w s) hE
  · have h2' : ((ps.map D.str).length : Int) ≠ 2 := by rw [List.length_map]; omega
    walk_at "xwk"
    exact s_raise ok (g_NoNote w s) (x_NoNote w s) hE

end

section
variable {w : World} {s : Shared} {Ex fz : Addr → Prop} {hp : Hp}

theorem read_note (ok : (XG w s Ex fz false true true).Ok) (hE : Ex 80) {ys : List Str} (hne : ys ≠ []) (hl : ys.length ≤ 61) (ha : ∀ y ∈ ys, Asc y) (hx : ∀ y ∈ ys, y.length ≤ 60) (hb : ∃ y ∈ ys, ¬ IsRow y) :
    FS (XG w s Ex fz false true true) 6 181 [.str (Str.join (Str.ofString "\n") ys)] hp (fun _ _ => False) := by
  refine def_ok' ok (d181 w s) ["text"] rfl rfl ?_
  (conv => arg 3; whnf; skip); dsimp only [List.zip_cons_cons, List.zip_nil_right, List.zip_nil_left]
  walk_at "xwk"
  refine m_ meth_split ?_
  walk_at "xwk"
  refine f_split (by decide +kernel) (lines_len hl hx) ?_
  rw [lines_split hne ha]
  refine new_frozen (by rw [List.length_map]; omega) ?_
  refine ⟨_, rfl, by rw [List.length_map]; omega, compG_ind (fun i acc st => (∀ y ∈ ys.take i, IsRow y) ∧ st.hp = hp) ⟨by simp, rfl⟩ (fun _ _ _ _ _ => rfl) ?_ ?_⟩
  · rintro i y acc ⟨loc, hp'⟩ hy ⟨hr, rfl⟩ K' hK
    obtain ⟨x, hx', rfl⟩ := str_get hy
    have hm := List.mem_of_getElem? hx'
    change wpIfs _ _ _ _ _
    walk_at "xwk"
    by_cases hi : IsRow x
    · have hr' : ∀ y ∈ ys.take (i + 1), IsRow y := by rw [take_one_more hx']; exact all_snoc (P := IsRow) hr hi
      obtain ⟨t, ht, rfl⟩ := hi
      refine FS.callv (read_row_ok ok ht) (by walk_at "xo") ?_
      exact hK (some (rowD t)) _ ⟨hr', rfl⟩
    · refine FS.call (read_row_no ok hE (ha x hm) (hx x hm) hi) (by walk_at "xo") ?_
      intro _ _ z
      exact z.elim
  · rintro acc ⟨loc, hp'⟩ ⟨hr, rfl⟩
    rw [List.length_map, List.take_length] at hr
    obtain ⟨y, h1, h2⟩ := hb
    exact absurd (hr y h1) h2

def fst3 : D → Option D | .tup [a, _, _] => some a | _ => none
def snd3 : D → Option D | .tup [_, b, _] => some b | _ => none
def trd3 : D → Option D | .tup [_, _, c] => some c | _ => none
theorem fm1 : ∀ {ts : List T3}, (ts.map rowD).filterMap fst3 = zs (ts.map (·.1))
  | [] => rfl
  | t :: ts => by
    show .int t.1 :: (ts.map rowD).filterMap fst3 = .int t.1 :: zs (ts.map (·.1))
    rw [fm1]
theorem fm2 : ∀ {ts : List T3}, (ts.map rowD).filterMap snd3 = zs (ts.map (·.2.1))
  | [] => rfl
  | t :: ts => by
    show .int t.2.1 :: (ts.map rowD).filterMap snd3 = .int t.2.1 :: zs (ts.map (·.2.1))
    rw [fm2]
theorem fm3 : ∀ {ts : List T3}, (ts.map rowD).filterMap trd3 = rws (ts.map (·.2.2))
  | [] => rfl
  | t :: ts => by
    show .list (zs t.2.2) :: (ts.map rowD).filterMap trd3 = .list (zs t.2.2) :: rws (ts.map (·.2.2))
    rw [fm3]

theorem read_all (ok : (XG w s Ex fz false true true).Ok) {ts : List T3} {Q : D → Hp → Prop} (hne : ts ≠ []) (hl : ts.length ≤ 61) (ht : ∀ t ∈ ts, TOk t) (hx : ∀ t ∈ ts, (rowOf t).length ≤ 60)
    (hB : FS (XG w s Ex fz false true true) 5 160 [.list (zs (ts.map (·.1))), .list (zs (ts.map (·.2.1))), .list (rws (ts.map (·.2.2)))] hp Q) :
    FS (XG w s Ex fz false true true) 6 181 [.str (Str.join (Str.ofString "\n") (ts.map rowOf))] hp Q := by
  have lm : ∀ f : T3 → D, (ts.map f).length ≤ 16000000 := fun f => by rw [List.length_map]; omega
  refine def_ok' ok (d181 w s) ["text"] rfl rfl ?_
  (conv => arg 3; whnf; skip); dsimp only [List.zip_cons_cons, List.zip_nil_right, List.zip_nil_left]
  walk_at "xwk"
  refine m_ meth_split ?_
  walk_at "xwk"
  refine f_split (by decide +kernel) (lines_len (by rw [List.length_map]; exact hl) (fun y hy => by obtain ⟨t, h1, rfl⟩ := List.mem_map.mp hy; exact hx t h1)) ?_
  rw [lines_split (by simpa using hne) (fun y hy => by obtain ⟨t, h1, rfl⟩ := List.mem_map.mp hy; exact rowOf_asc (ht t h1))]
  refine new_frozen (by rw [List.length_map, List.length_map]; omega) ?_
  refine ⟨_, rfl, by rw [List.length_map, List.length_map]; omega, compG_ind (fun i acc st => acc = (ts.take i).map rowD ∧ st.hp = hp) ⟨rfl, rfl⟩ (fun _ _ _ _ _ => rfl) ?_ ?_⟩
  · rintro i y acc ⟨loc, hp'⟩ hy ⟨rfl, rfl⟩ K' hK
    obtain ⟨x, hx', rfl⟩ := str_get hy
    rw [List.getElem?_map] at hx'
    obtain ⟨t, hti, rfl⟩ := Option.map_eq_some_iff.mp hx'
    change wpIfs _ _ _ _ _
    walk_at "xwk"
    refine FS.callv (read_row_ok ok (ht t (List.mem_of_getElem? hti))) (by walk_at "xo") ?_
    exact hK (some (rowD t)) _ ⟨by rw [take_one_more hti, List.map_append]; rfl, rfl⟩
  rintro acc ⟨loc, hp'⟩ ⟨rfl, rfl⟩
  rw [List.length_map, List.length_map, List.take_length]
  dsimp only
  refine new_frozen (lm _) ?_
  walk_at "xwk"
  refine ⟨_, rfl, lm _, compG_pure (f := fst3) rfl (fun y hy K' hK => ?_) fun loc' => ?_⟩
  · obtain ⟨t, _, rfl⟩ := List.mem_map.mp hy
    walk_at "xwk"
    refine i_at (xs := [.int t.1, .int t.2.1, .list (zs t.2.2)]) rfl (by simp) (by walk_at "xo") rfl ?_
    exact hK _
  rw [fm1]
  dsimp only
  refine new_frozen (by walk_at "xz") ?_
  walk_at "xwk"
  refine ⟨_, rfl, lm _, compG_pure (f := snd3) rfl (fun y hy K' hK => ?_) fun loc' => ?_⟩
  · obtain ⟨t, _, rfl⟩ := List.mem_map.mp hy
    walk_at "xwk"
    refine i_at (xs := [.int t.1, .int t.2.1, .list (zs t.2.2)]) rfl (by simp) (by walk_at "xo") rfl ?_
    exact hK _
  rw [fm2]
  dsimp only
  refine new_frozen (by walk_at "xz") ?_
  walk_at "xwk"
  refine ⟨_, rfl, lm _, compG_pure (f := trd3) rfl (fun y hy K' hK => ?_) fun loc' => ?_⟩
  · obtain ⟨t, _, rfl⟩ := List.mem_map.mp hy
    walk_at "xwk"
    refine i_at (xs := [.int t.1, .int t.2.1, .list (zs t.2.2)]) rfl (by simp) (by walk_at "xo") rfl ?_
    exact hK _
  rw [fm3]
  dsimp only
  refine new_frozen (by rw [rws_length, List.length_map]; omega) ?_
  walk_at "xwk"
  refine FS.call hB (by walk_at "xo") ?_
  intro d hp' hq
  walk_at "xwk"
  exact hq
end

section
variable {w : World} {s : Shared} {Ex fz : Addr → Prop} {hp : Hp}

theorem lnum_ok (ok : (XG w s Ex fz false true true).Ok) {x : Str} (ha : Asc x) (hx : x.length ≤ 1000) : FS (XG w s Ex fz false true true) 1 216 [.str x] hp (fun d hp' => d = .int (nv x) ∧ hp' = hp) := by
  have key : 1 ≤ x.length → x.length ≤ 3 → (x.length ≤ 1 ∨ x.cps[0]? ≠ some 48) → ∀ loc, Le (env [("_law_word", .str x)]) loc → wpSs (XG w s Ex fz false true true) 0 ((bodyOf (XG w s Ex fz false true true).K 216).drop 1) (callK fun d hp' => d = .int (nv x) ∧ hp' = hp) ⟨loc, hp⟩ := by
    intro l1 l3 lead loc hle
    (conv => arg 3; whnf; skip)
    refine ss_here hle ?_
    walk_at "xwk1"
    walk_at "xwj"
    refine ss_cons (s_forS ?_)
    walk_at "xwk"
    refine ⟨_, rfl, forG_ind (fun i st => Le (env [("_law_word", .str x), ("_law_found", .int (vlL (x.cps.toList.take i)))]) st.loc ∧ st.hp = hp ∧ ∀ c ∈ x.cps.toList.take i, digB c = true) ⟨by walk_at "xle", rfl, by simp⟩ (fun _ _ _ _ => rfl) ?_ ?_⟩
    · rintro i y ⟨loc, hp'⟩ hy ⟨hle, rfl, hdig⟩ K' hn hc hb hr'
      obtain ⟨c, hi, rfl⟩ : ∃ c, x.cps.toList[i]? = some c ∧ y = .str ⟨#[c]⟩ := by
        unfold chs at hy
        rw [List.getElem?_map] at hy
        obtain ⟨c, h1, rfl⟩ := Option.map_eq_some_iff.mp hy
        exact ⟨c, h1, rfl⟩
      have hcm := List.mem_of_getElem? hi
      have hc127 := (ha c hcm).2
      refine for_step hle ?_
      walk_at "xwk"
      refine m_ meth_find ?_
      walk_at "xwk"
      refine f_find ?_
      cases hd : digB c with
      | false =>
        rw [find_no hc127 hd]
        walk_at "xwk"
        refine hr' _ _ ?_
        walk_at "xwk"
        refine ⟨?_, rfl⟩
        rw [not_numB fun ⟨_, _, q, _⟩ => by rw [q c hcm] at hd; cases hd]
      | true =>
        rw [find_dig hc127 hd]
        have h48 : 48 ≤ c := by
          simp only [digB, Bool.and_eq_true, decide_eq_true_eq] at hd; exact hd.1
        walk_at "xwk"
        refine hn _ ⟨?_, rfl, ?_⟩
        · rw [take_one_more hi, vlL_snoc]
          walk_at "xle"
        · rw [take_one_more hi]
          exact all_snoc (P := fun c => digB c = true) hdig hd
    · rintro ⟨loc, hp'⟩ ⟨hle, rfl, hdig⟩
      rw [show (chs x).length = x.cps.toList.length from by simp [chs], List.take_length] at hle hdig
      refine seq_next (ss_here hle ?_)
      walk_at "xwk"
      refine ⟨?_, rfl⟩
      unfold nv
      rw [if_pos (numB_of' hdig l1 l3 lead)]; rfl
  refine def_ok' ok (d216 w s) ["_law_word"] rfl rfl ?_
  (conv => arg 3; whnf; skip); dsimp only [List.zip_cons_cons, List.zip_nil_right, List.zip_nil_left]
  walk_at "xwk1"
  walk_at "xwj"
  refine f_lens (by walk_at "xo") ?_
  walk_at "xwj"
  by_cases h1 : 1 ≤ (x.length : Int)
  · by_cases h3 : (x.length : Int) ≤ 3
    · walk_at "xwj"
      obtain ⟨c, hc⟩ : ∃ c, x.cps[0]? = some c := ⟨x.cps[0]'(by show 0 < x.length; omega), Array.getElem?_eq_getElem _⟩
      refine i_str (c := c) (by walk_at "xo") (by walk_at "xo") (by simpa using hc) ?_
      walk_at "xwj"
      refine q_eqs ?_
      rw [zero_is]
      by_cases hz : c = 48
      · rw [decide_eq_true hz]
        walk_at "xwj"
        refine f_lens (by walk_at "xo") ?_
        walk_at "xwj"
        by_cases hl : (x.length : Int) > 1
        · walk_at "xwk"
          refine ⟨?_, rfl⟩
          rw [not_numB fun ⟨_, _, _, q⟩ => by rw [hc, hz] at q; rcases q with q | q; omega; exact q rfl]
        · walk_at "xwj"
          refine key (by walk_at "xo") (by walk_at "xo") (.inl (by walk_at "xo")) _ ?_
          walk_at "xle"
      · rw [decide_eq_false hz]
        walk_at "xwj"
        refine key (by walk_at "xo") (by walk_at "xo") (.inr (by rw [hc]; intro q; exact hz (Option.some.inj q))) _ ?_
        walk_at "xle"
    · walk_at "xwk"
      refine ⟨?_, rfl⟩
      rw [not_numB fun ⟨_, q, _, _⟩ => by walk_at "xo"]
  · walk_at "xwk"
    refine ⟨?_, rfl⟩
    rw [not_numB fun ⟨q, _, _, _⟩ => by walk_at "xo"]

theorem row_of_ok (ok : (XG w s Ex fz false true true).Ok) {t : T3} (ht : TOk t) : FS (XG w s Ex fz false true true) 2 221 [.str (rowOf t)] hp (fun d hp' => d = rowD t ∧ hp' = hp) := by
  have hrl := rowOf_len ht
  obtain ⟨o, m, rs⟩ := t
  obtain ⟨ho, h0, h1, hr, hl⟩ := ht
  simp only at ho h0 h1 hr hl
  replace hrl : (rowT o m rs).length ≤ 9 + 4 * rs.length := hrl
  have hd3 := (dg_is h0 h1).l3
  have lc : (dg m ++ Str.ofString ":").length ≤ 4 := by rw [len_app, l_co]; omega
  show FS (XG w s Ex fz false true true) 2 221 [.str (rowT o m rs)] hp (fun d hp' => d = .tup [.int o, .int m, .list (zs rs)] ∧ hp' = hp)
  refine def_ok' ok (d221 w s) ["_law_row"] rfl rfl ?_
  (conv => arg 3; whnf; skip); dsimp only [List.zip_cons_cons, List.zip_nil_right, List.zip_nil_left]
  walk_at "xwk"
  refine m_ meth_split ?_
  walk_at "xwk"
  refine f_split (by decide +kernel) (by walk_at "xo") ?_
  rw [split_L h0 h1 hr]
  have ln : ((w0 o :: (dg m ++ Str.ofString ":") :: rs.map dg).map D.str).length = rs.length + 2 := by simp
  refine new_frozen (by rw [ln]; omega) ?_
  walk_at "xwk"
  refine i_at (d := .str (w0 o)) rfl (by rw [ln]; omega) (by walk_at "xo") rfl ?_
  walk_at "xwk"
  refine ⟨by simp, ?_⟩
  refine q_notin2 asc_w0 (asc_of (by decide +kernel)) (asc_of (by decide +kernel)) ?_
  rw [w0_in ho]
  walk_at "xwk"
  refine i_at (d := .str (dg m ++ Str.ofString ":")) rfl (by rw [ln]; omega) (by walk_at "xo") rfl ?_
  walk_at "xwk"
  refine sl_s (lo' := some (-1)) rfl rfl (by walk_at "xo") ?_
  rw [colon_slices.1]
  walk_at "xwk"
  refine q_nes ?_
  rw [show (Str.ofString ":" != Str.ofString ":") = false from by decide +kernel]
  walk_at "xwk"
  refine i_at (d := .str (dg m ++ Str.ofString ":")) rfl (by rw [ln]; omega) (by walk_at "xo") rfl ?_
  walk_at "xwk"
  refine sl_s (hi' := some (-1)) rfl rfl (by walk_at "xo") ?_
  rw [colon_slices.2]
  walk_at "xwk"
  refine FS.callv (lnum_ok ok (asc_dg h0 h1) (by walk_at "xo")) (by walk_at "xo") ?_
  rw [nv_dg h0 h1]
  walk_at "xwk"
  refine sl_l (bound_nat (k := 2) (by walk_at "xo")) rfl rfl (by rw [ln]; omega) ?_
  rw [show ((w0 o :: (dg m ++ Str.ofString ":") :: rs.map dg).map D.str) = .str (w0 o) :: .str (dg m ++ Str.ofString ":") :: (rs.map dg).map D.str from rfl, show cut (some ((2 : Nat) : Int)) none (D.str (w0 o) :: .str (dg m ++ Str.ofString ":") :: (rs.map dg).map D.str) = (rs.map dg).map D.str from cut_tail2]
  refine new_frozen (by simp; omega) ?_
  refine ⟨_, rfl, by simp; omega, compG_ind (fun i acc st => acc = zs (rs.take i) ∧ st.hp = hp) ⟨rfl, rfl⟩ (fun _ _ _ _ _ => rfl) ?_ ?_⟩
  · rintro i y acc ⟨loc, hp'⟩ hy ⟨rfl, rfl⟩ K' hK
    obtain ⟨z, hz, rfl⟩ := str_get hy
    rw [List.getElem?_map] at hz
    obtain ⟨x, hx, rfl⟩ := Option.map_eq_some_iff.mp hz
    obtain ⟨q0, q1⟩ := hr x (List.mem_of_getElem? hx)
    have q3 := (dg_is q0 q1).l3
    change wpIfs _ _ _ _ _
    walk_at "xwk"
    refine FS.callv (lnum_ok ok (asc_dg q0 q1) (by walk_at "xo")) (by walk_at "xo") ?_
    rw [nv_dg q0 q1]
    exact hK (some (.int x)) _ ⟨by rw [take_one_more hx, zs_append]; rfl, rfl⟩
  · rintro acc ⟨loc, hp'⟩ ⟨rfl, rfl⟩
    rw [List.length_map, List.length_map, List.take_length]
    dsimp only
    refine new_frozen (by walk_at "xz") ?_
    walk_at "xwk"
    refine q_in (l := rs) rfl ?_
    rw [decide_eq_false (fun q => by have := hr _ q; omega)]
    walk_at "xwk"
    refine i_at (d := .str (w0 o)) rfl (by simp; omega) (by walk_at "xo") rfl ?_
    walk_at "xwk"
    refine q_eqs ?_
    walk_at "xwk"
    refine f_intb ?_
    rw [w0_odd ho]
    walk_at "xwk"
    refine ⟨by simp, ?_⟩
    walk_at "xwk"
    exact ⟨rfl, rfl⟩

theorem row_of_no (ok : (XG w s Ex fz false true true).Ok) {row : Str} (ha : Asc row) (hx : row.length ≤ 60) (hn : ¬ IsRow row) : FS (XG w s Ex fz false true true) 2 221 [.str row] hp (fun d hp' => d = .none ∧ hp' = hp) := by
  refine def_ok' ok (d221 w s) ["_law_row"] rfl rfl ?_
  (conv => arg 3; whnf; skip); dsimp only [List.zip_cons_cons, List.zip_nil_right, List.zip_nil_left]
  walk_at "xwk"
  refine m_ meth_split ?_
  walk_at "xwk"
  refine f_split (by decide +kernel) (by walk_at "xo") ?_
  rw [show Txt.split row (Str.ofString " ") = Txt.split row ⟨#[32]⟩ from by rw [sp_is]]
  have hj := StrLaws.join_split row ⟨#[32]⟩
  have hw : ∀ p ∈ Txt.split row ⟨#[32]⟩, Asc p ∧ p.length ≤ row.length := fun p hp => ⟨split_asc ha hp, split_wlen hp⟩
  have hm := split_many (x := row) (c := 32)
  generalize Txt.split row ⟨#[32]⟩ = ps at hj hw hm ⊢
  refine new_frozen (by rw [List.length_map]; omega) ?_
  by_cases h2 : ps.length < 2
  · have h2' : ((ps.map D.str).length : Int) < 2 := by rw [List.length_map]; omega
    walk_at "xwk"
    exact ⟨rfl, rfl⟩
  · obtain ⟨a, b, ws, rfl⟩ : ∃ a b ws, ps = a :: b :: ws := by
      match ps, h2 with
      | [], h => exact absurd (by simp) h
      | [_], h => exact absurd (by simp) h
      | a :: b :: ws, _ => exact ⟨a, b, ws, rfl⟩
    obtain ⟨ha1, ha2⟩ := hw a (by simp)
    obtain ⟨hb1, hb2⟩ := hw b (by simp)
    have hwl : ws.length ≤ 61 := by simp only [List.length_cons] at hm; omega
    have ln : ((a :: b :: ws).map D.str).length = ws.length + 2 := by simp
    walk_at "xwk"
    refine i_at (d := .str a) rfl (by rw [ln]; omega) (by walk_at "xo") rfl ?_
    walk_at "xwk"
    refine ⟨by simp, ?_⟩
    refine q_notin2 ha1 (asc_of (by decide +kernel)) (asc_of (by decide +kernel)) ?_
    cases hin : (Str.ofString "even" == a || Str.ofString "odd" == a) with
    | false =>
      walk_at "xwk"
      exact ⟨rfl, rfl⟩
    | true =>
      obtain ⟨o, ho, rfl⟩ := w0_of hin
      walk_at "xwk"
      refine i_at (d := .str b) rfl (by rw [ln]; omega) (by walk_at "xo") rfl ?_
      walk_at "xwk"
      refine sl_s (lo' := some (-1)) rfl rfl (by walk_at "xo") ?_
      walk_at "xwk"
      refine q_nes ?_
      cases hne : (Txt.slice b (some (-1)) none != Str.ofString ":") with
      | true =>
        walk_at "xwk"
        exact ⟨rfl, rfl⟩
      | false =>
        have hcol : b = Txt.slice b none (some (-1)) ++ Str.ofString ":" := slice_colon (by simpa using hne)
        have hsl := Txt.slice_le b none (some (-1))
        have hsa := hb1.slice (l := none) (u := some (-1))
        walk_at "xwk"
        refine i_at (d := .str b) rfl (by rw [ln]; omega) (by walk_at "xo") rfl ?_
        walk_at "xwk"
        refine sl_s (hi' := some (-1)) rfl rfl (by walk_at "xo") ?_
        walk_at "xwk"
        generalize Txt.slice b none (some (-1)) = v at hcol hsl hsa ⊢
        refine FS.callv (lnum_ok ok hsa (by walk_at "xo")) (by walk_at "xo") ?_
        walk_at "xwk"
        refine sl_l (bound_nat (k := 2) (by walk_at "xo")) rfl rfl (by rw [ln]; omega) ?_
        rw [show ((w0 o :: b :: ws).map D.str) = .str (w0 o) :: .str b :: ws.map D.str from rfl, show cut (some ((2 : Nat) : Int)) none (D.str (w0 o) :: .str b :: ws.map D.str) = ws.map D.str from cut_tail2]
        refine new_frozen (by rw [List.length_map]; omega) ?_
        refine ⟨_, rfl, by rw [List.length_map]; omega, compG_ind (fun i acc st => acc = zs ((ws.take i).map nv) ∧ st.hp = hp) ⟨rfl, rfl⟩ (fun _ _ _ _ _ => rfl) ?_ ?_⟩
        · rintro i y acc ⟨loc, hp'⟩ hy ⟨rfl, rfl⟩ K' hK
          obtain ⟨x, hi, rfl⟩ := str_get hy
          obtain ⟨hx1, hx2⟩ := hw x (List.mem_cons_of_mem _ (List.mem_cons_of_mem _ (List.mem_of_getElem? hi)))
          change wpIfs _ _ _ _ _
          walk_at "xwk"
          refine FS.callv (lnum_ok ok hx1 (by walk_at "xo")) (by walk_at "xo") ?_
          exact hK (some (.int (nv x))) _ ⟨by rw [take_one_more hi, List.map_append, zs_append]; rfl, rfl⟩
        · rintro acc ⟨loc, hp'⟩ ⟨rfl, rfl⟩
          rw [List.length_map, List.take_length]
          dsimp only
          refine new_frozen (by walk_at "xz") ?_
          walk_at "xwk"
          by_cases hmk : nv v < 0
          · walk_at "xwk"
            exact ⟨rfl, rfl⟩
          · walk_at "xwk"
            refine q_in (l := ws.map nv) rfl ?_
            by_cases hin1 : (-1 : Int) ∈ ws.map nv
            · rw [decide_eq_true hin1]
              walk_at "xwk"
              exact ⟨rfl, rfl⟩
            · refine absurd ?_ hn
              have hv : v = dg (nv v) ∧ 0 ≤ nv v ∧ nv v ≤ 999 := by
                rcases nv_cases v with q | q
                · omega
                · exact q.2
              have hws : ∀ x ∈ ws, x = dg (nv x) ∧ 0 ≤ nv x ∧ nv x ≤ 999 := fun x hx => by
                rcases nv_cases x with q | q
                · exact absurd (List.mem_map.mpr ⟨x, hx, q.2⟩) hin1
                · exact q.2
              refine tok_of (rs := ws.map nv) ho hv.2.1 hv.2.2 (fun k hk => ?_) hx ?_
              · obtain ⟨x, hx', rfl⟩ := List.mem_map.mp hk
                exact (hws x hx').2
              · have e1 : (ws.map nv).map dg = ws := by
                  rw [List.map_map]
                  have : ∀ l : List Str, (∀ x ∈ l, x = dg (nv x)) → l.map (dg ∘ nv) = l := by
                    intro l
                    induction l with
                    | nil => intro _; rfl
                    | cons x l ih =>
                      intro h
                      rw [List.map_cons, ih fun y hy => h y (List.mem_cons_of_mem _ hy)]
                      exact congrArg (· :: l) (h x List.mem_cons_self).symm
                  exact this ws fun x hx' => (hws x hx').1
                rw [rowT_words, e1, ← hv.1, ← hcol, hj]

end
section
variable {w : World} {s : Shared} {Ex fz : Addr → Prop} {hp : Hp}
local macro_rules | `(tactic| walk_at "xls") => `(tactic| (with_reducible refine' Mine.e_lenset ?a ?b ?c ?_; (case a => assumption); (case b => exact Mine.B08.g_len _ _); (case c => exact Mine.B08.g_set _ _)))
local macro_rules | `(tactic| walk_at "xwk2") => `(tactic| first | walk_at "xls" | walk_at "xr1" | walk_at "xr2")
theorem due_none (ok : (XG w s Ex fz false true true).Ok) {size : Int} {bad : Bool} : FS (XG w s Ex fz false true true) 1 228 [.none, .int size, .bool bad] hp (fun d hp' => d = .str (Str.ofString "note") ∧ hp' = hp) := by
  refine def_ok' ok (d228 w s) ["_law_row", "_law_size", "_law_bad"] rfl rfl ?_
  (conv => arg 3; whnf; skip); dsimp only [List.zip_cons_cons, List.zip_nil_right, List.zip_nil_left]
  walk_at "xwk"
  exact ⟨rfl, rfl⟩

theorem due_row (ok : (XG w s Ex fz false true true).Ok) {t : T3} (ht : TOk t) {size : Int} (hs : size ≤ 60) {bad : Bool} : FS (XG w s Ex fz false true true) 1 228 [rowD t, .int size, .bool bad] hp (fun d hp' => hp' = hp ∧ (((bad = true ∨ ¬ RowOk size t.2.2) ∧ d = .str (Str.ofString "board")) ∨ (bad = false ∧ RowOk size t.2.2 ∧ d = .str (Str.ofString "")))) := by
  obtain ⟨o, m, rs⟩ := t
  obtain ⟨ho, h0, h1, hr, hl⟩ := ht
  simp only at ho h0 h1 hr hl
  have hsq : ∀ hp, sq hp (.tup [.int o, .int m, .list (zs rs)]) = some [.int o, .int m, .list (zs rs)] := fun _ => rfl
  show FS (XG w s Ex fz false true true) 1 228 [.tup [.int o, .int m, .list (zs rs)], .int size, .bool bad] hp _
  refine def_ok' ok (d228 w s) ["_law_row", "_law_size", "_law_bad"] rfl rfl ?_
  (conv => arg 3; whnf; skip); dsimp only [List.zip_cons_cons, List.zip_nil_right, List.zip_nil_left]
  cases bad with
  | true =>
    walk_at "xwk"
    exact ⟨rfl, .inl ⟨.inl rfl, rfl⟩⟩
  | false =>
    walk_at "xwk"
    refine i_at (hsq _) (by simp) (by walk_at "xo") rfl ?_
    walk_at "xwk"
    refine new_frozen (by simp) ?_
    refine q_eqnil (l := rs) rfl ?_
    cases he : rs.isEmpty with
    | true =>
      walk_at "xwk"
      exact ⟨rfl, .inl ⟨.inr fun q => q.1 (List.isEmpty_iff.mp he), rfl⟩⟩
    | false =>
      have hne : rs ≠ [] := fun q => by rw [q] at he; cases he
      walk_at "xwk"
      refine i_at (hsq _) (by simp) (by walk_at "xo") rfl ?_
      walk_at "xwk"
      refine f_max (l := rs) rfl hne (by walk_at "xo") fun M hM hmax => ?_
      walk_at "xwk"
      by_cases hMs : M ≥ size
      · walk_at "xwk"
        exact ⟨rfl, .inl ⟨.inr fun q => by have := q.2.2.2 M hM; omega, rfl⟩⟩
      · walk_at "xwk"
        refine i_at (hsq _) (by simp) (by walk_at "xo") rfl ?_
        obtain ⟨l1, l2⟩ := met_len (l := rs)
        refine ⟨rs, rfl, by walk_at "xo", ?_⟩
        walk_at "xwk"
        refine i_at (hsq _) (by simp) (by walk_at "xo") rfl ?_
        walk_at "xwk"
        by_cases hlt : ((firstMet (fun i => rs.getD i 0) rs.length).length : Int) < (rs.length : Int)
        · walk_at "xwk"
          exact ⟨rfl, .inl ⟨.inr fun q => by have := l2.mpr q.2.2.1; omega, rfl⟩⟩
        · walk_at "xwk"
          have hnd := l2.mp (by walk_at "xo")
          have hin : ∀ x ∈ rs, 0 ≤ x ∧ x < size := fun x hx => by have := hr x hx; have := hmax x hx; omega
          have := short_of_nodup (n := size.toNat) hnd (fun x hx => by have := hin x hx; omega)
          exact ⟨rfl, .inr ⟨rfl, ⟨hne, by walk_at "xo", hnd, hin⟩, rfl⟩⟩
end

section
variable {w : World} {s : Shared} {Ex fz : Addr → Prop} {hp : Hp}

theorem odd_row_ok (ok : (XG w s Ex fz false true true).Ok) {kind size : Int} (h0 : 0 ≤ size) (h1 : size ≤ 999) : FS (XG w s Ex fz false true true) 1 202 [.int kind, .int size] hp (fun d hp' => (∃ x, d = .str x ∧ Asc x ∧ x.length ≤ 30) ∧ hp' = hp) := by
  have hd3 := (dg_is h0 h1).l3
  have hda := asc_dg h0 h1
  have k1 : (Str.ofString "odd 3: ").length = 7 := by decide +kernel
  have k2 : (Str.ofString "even 7: 0 ").length = 10 := by decide +kernel
  refine def_ok' ok (d202 w s) ["_law_kind", "_law_size"] rfl rfl ?_
  (conv => arg 3; whnf; skip); dsimp only [List.zip_cons_cons, List.zip_nil_right, List.zip_nil_left]
  walk_at "xwk"
  refine new_frozen (by simp) ?_
  walk_at "xwk"
  refine new_frozen (by simp) ?_
  walk_at "xwk"
  refine b_addl ?_
  refine new_frozen (by simp) ?_
  walk_at "xwk"
  refine new_frozen (by simp) ?_
  walk_at "xwk"
  refine b_addl ?_
  refine new_frozen (by simp) ?_
  walk_at "xwk"
  refine f_stri h0 h1 ?_
  walk_at "xwk"
  refine b_adds (by walk_at "xo") ?_
  walk_at "xwk"
  refine new_frozen (by simp) ?_
  walk_at "xwk"
  refine b_addl ?_
  refine new_frozen (by simp) ?_
  walk_at "xwk"
  refine f_stri h0 h1 ?_
  walk_at "xwk"
  refine b_adds (by walk_at "xo") ?_
  walk_at "xwk"
  refine new_frozen (by simp) ?_
  walk_at "xwk"
  refine b_addl ?_
  refine new_frozen (by simp) ?_
  walk_at "xwk"
  refine i_gs rfl ?_ (by simp) (by walk_at "xo") (by simp; omega) fun y hy1 hy2 => ?_
  · have a1 : Asc (Str.ofString "odd 3: " ++ dg size) := (asc_of (by decide +kernel)).app hda
    have a2 : Asc (Str.ofString "even 7: 0 " ++ dg size) := (asc_of (by decide +kernel)).app hda
    have a3 : (Str.ofString "odd 3: " ++ dg size).length ≤ 30 := by rw [len_app]; omega
    have a4 : (Str.ofString "even 7: 0 " ++ dg size).length ≤ 30 := by rw [len_app]; omega
    refine gs_app (gs_app (gs_app (gs_app ?_ ?_) ?_) ?_) ?_
    all_goals repeat (first | exact gs_nil | refine gs_cons' a1 a3 ?_ | refine gs_cons' a2 a4 ?_ | refine gs_cons (by decide +kernel) ?_)
  · walk_at "xwk"
    exact ⟨⟨y, rfl, hy1, hy2⟩, rfl⟩

theorem bent_row_ok (ok : (XG w s Ex fz false true true).Ok) {row : Str} {cell : Int} (ha : Asc row) (hr0 : 1 ≤ row.length) (hr1 : row.length ≤ 25) : FS (XG w s Ex fz false true true) 1 209 [.str row, .int cell] hp (fun d hp' => (∃ x, d = .str x ∧ Asc x ∧ x.length ≤ 60) ∧ hp' = hp) := by
  have k4 : (Str.ofString " 0").length = 2 := by decide +kernel
  have hp0 : (0 : Int) < (row.length : Int) := by walk_at "xo"
  refine def_ok' ok (d209 w s) ["_law_row", "_law_cell"] rfl rfl ?_
  (conv => arg 3; whnf; skip); dsimp only [List.zip_cons_cons, List.zip_nil_right, List.zip_nil_left]
  walk_at "xwk"
  refine f_lens (by walk_at "xo") ?_
  walk_at "xwk"
  have hx0 := Int.emod_nonneg (cell / 4) (b := (row.length : Int)) (by walk_at "xo")
  have hx1 := Int.emod_lt_of_pos (cell / 4) hp0
  generalize cell / 4 % (row.length : Int) = p at hx0 hx1 ⊢
  refine i_strA (m := 94) (asc_of (by decide +kernel)) (by decide +kernel) (by walk_at "xo") (by walk_at "xo") (by walk_at "xo") fun c hc1 hc2 => ?_
  walk_at "xwk"
  have s1 := Txt.slice_le row none (some p)
  have s2 := Txt.slice_le row (some p) none
  have s3 := Txt.slice_le row (some (p + 1)) none
  have t1 := ha.slice (l := none) (u := some p)
  have t2 := ha.slice (l := some p) (u := none)
  have t3 := ha.slice (l := some (p + 1)) (u := none)
  by_cases c0 : cell % 4 = 0
  · walk_at "xwk"
    refine sl_s rfl (bound_i (by walk_at "xo") (by walk_at "xo")) (by walk_at "xo") ?_
    walk_at "xwk"
    refine b_adds (by walk_at "xo") ?_
    walk_at "xwk"
    refine sl_s (bound_i (by walk_at "xo") (by walk_at "xo")) rfl (by walk_at "xo") ?_
    refine b_adds (by rw [len_app]; omega) ?_
    walk_at "xwk"
    exact ⟨⟨_, rfl, (t1.app hc1).app t2, by rw [len_app, len_app]; omega⟩, rfl⟩
  · walk_at "xwk"
    by_cases c1 : cell % 4 = 1
    · walk_at "xwk"
      refine sl_s rfl (bound_i (by walk_at "xo") (by walk_at "xo")) (by walk_at "xo") ?_
      walk_at "xwk"
      refine b_adds (by walk_at "xo") ?_
      walk_at "xwk"
      refine sl_s (bound_i (by walk_at "xo") (by walk_at "xo")) rfl (by walk_at "xo") ?_
      refine b_adds (by rw [len_app]; omega) ?_
      walk_at "xwk"
      exact ⟨⟨_, rfl, (t1.app hc1).app t3, by rw [len_app, len_app]; omega⟩, rfl⟩
    · walk_at "xwk"
      by_cases c2 : cell % 4 = 2
      · walk_at "xwk"
        refine sl_s rfl (bound_i (by walk_at "xo") (by walk_at "xo")) (by walk_at "xo") ?_
        walk_at "xwk"
        refine sl_s (bound_i (by walk_at "xo") (by walk_at "xo")) rfl (by walk_at "xo") ?_
        refine b_adds (by walk_at "xo") ?_
        walk_at "xwk"
        exact ⟨⟨_, rfl, t1.app t3, by rw [len_app]; omega⟩, rfl⟩
      · walk_at "xwk"
        refine b_adds (by rw [l_sp]; omega) ?_
        walk_at "xwk"
        refine new_frozen (by simp) ?_
        walk_at "xwk"
        refine i_gs rfl ?_ (by simp) (by walk_at "xo") (by simp; omega) fun y hy1 hy2 => ?_
        · repeat (first | exact gs_nil | refine gs_cons (by decide +kernel) ?_)
        · walk_at "xwk"
          refine b_adds (by rw [len_app, l_sp]; omega) ?_
          walk_at "xwk"
          refine b_adds (by rw [len_app, len_app, l_sp]; omega) ?_
          walk_at "xwk"
          exact ⟨⟨_, rfl, ((ha.app asc_sp).app hy1).app (asc_of (by decide +kernel)), by rw [len_app, len_app, len_app, l_sp]; omega⟩, rfl⟩

structure RT (size : Int) (t : T3) : Prop where
  tk : TOk t
  rk : RowOk size t.2.2
  l3 : t.2.2.length ≤ 3
theorem fdg : ∀ {l : List Int}, (zs l).filterMap (fun y => match y with | .int k => some (.str (dg k)) | _ => none) = (l.map dg).map D.str
  | [] => rfl
  | k :: l => by
    have := fdg (l := l)
    show .str (dg k) :: (zs l).filterMap _ = .str (dg k) :: (l.map dg).map D.str
    rw [this]

theorem rows_ok (ok : (XG w s Ex fz false true true).Ok) {ns : List Int} (hns : ns.length ≤ 63) {size : Int} (h0 : 0 < size) (h60 : size ≤ 60) :
    FS (XG w s Ex fz false true true) 3 240 [.scr ns, .int size] hp (fun d hp' => ∃ (a : Addr) (ts : List T3), d = .addr a ∧ hp a = none ∧ hp' = hq hp [(a, (ts.map rowOf).map D.str)] ∧ (ts.length : Int) = size ∧ ∀ t ∈ ts, RT size t) := by
  refine def_ok' ok (d240 w s) ["_law_script", "_law_size"] rfl rfl ?_
  (conv => arg 3; whnf; skip); dsimp only [List.zip_cons_cons, List.zip_nil_right, List.zip_nil_left]
  walk_at "xwk"
  refine new_hq0 (by simp) fun a ha => ?_
  walk_at "xwk"
  have ND : [a].Nodup := by simp
  refine ⟨_, rng_items (by walk_at "xo") (by walk_at "xo") (by walk_at "xo") (by walk_at "xo"), forG_ind (fun i st => ∃ ts : List T3, ts.length = i ∧ (∀ t ∈ ts, RT size t) ∧ Le (env [("_law_script", .scr ns), ("_law_size", .int size), ("_law_rows_here", .addr a)]) st.loc ∧ st.hp = hq hp [(a, (ts.map rowOf).map D.str)])
    ⟨[], rfl, by simp, by walk_at "xle", rfl⟩ (fun i st _ _ => rng_items (by walk_at "xo") (by walk_at "xo") (by walk_at "xo") (by walk_at "xo")) ?_ ?_⟩
  · rintro i y ⟨loc, hp'⟩ hy ⟨ts, htl, hts, hle, rfl⟩ K' hn hc hb hr'
    obtain ⟨rfl, hlt⟩ := rng_get hy
    refine for_step hle ?_
    walk_at "xwk"
    refine FS.callv (mixed_ok ok hns (by walk_at "xo")) (by walk_at "xo") ?_
    obtain ⟨hn0, hn1⟩ := mixed_range ns (3 + (0 + (i : Int)) % 30) (0 + (i : Int))
    generalize mixed ns (3 + (0 + (i : Int)) % 30) (0 + (i : Int)) = num at hn0 hn1 ⊢
    walk_at "xwk"
    have hx0 := Int.emod_nonneg (num / 2000) (b := size) (by walk_at "xo")
    have hx1 := Int.emod_lt_of_pos (num / 2000) (b := size) h0
    generalize num / 2000 % size = x at hx0 hx1 ⊢
    refine new_hq (by simp) ND fun b ND2 hb0 => ?_
    walk_at "xwk"
    refine ⟨_, rng_items (by walk_at "xo") (by walk_at "xo") (by walk_at "xo") (by walk_at "xo"), forG_ind (fun j st => ∃ row, RowOk size row ∧ row.length ≤ 1 + j ∧ Le (env [("_law_script", .scr ns), ("_law_size", .int size), ("_law_rows_here", .addr a), ("_law_number_here", .int num), ("_law_roads", .addr b)]) st.loc ∧ st.hp = hq hp [(b, zs row), (a, (ts.map rowOf).map D.str)])
      ⟨[x], ⟨by simp, by simp, by simp, fun z hz => (show z = x by simpa using hz) ▸ ⟨hx0, hx1⟩⟩, by simp, by walk_at "xle", rfl⟩ (fun i st _ _ => rng_items (by walk_at "xo") (by walk_at "xo") (by walk_at "xo") (by walk_at "xo")) ?_ ?_⟩
    · rintro j y ⟨loc, hp'⟩ hy ⟨row, hrow, hrl, hle, rfl⟩ K' hn hc hb hr'
      obtain ⟨rfl, hlt⟩ := rng_get hy
      obtain ⟨r1, r2, r3, r4⟩ := id hrow
      obtain ⟨z, row', rfl⟩ := List.exists_cons_of_ne_nil r1
      refine for_step hle ?_
      walk_at "xwk"
      refine i_at (xs := zs (z :: row')) (d := .int z) (lst_sq (lst_q 0 ND2 rfl)) (by walk_at "xz") (by walk_at "xo") rfl ?_
      walk_at "xwk"
      have hy0 := Int.emod_nonneg (z + 1 + (0 + (j : Int))) (b := size) (by walk_at "xo")
      have hy1 := Int.emod_lt_of_pos (z + 1 + (0 + (j : Int))) (b := size) h0
      refine q_notin (lst_sq (lst_q 0 ND2 rfl)) ?_
      by_cases hy' : (z + 1 + (0 + (j : Int))) % size ∈ z :: row'
      · rw [decide_eq_true hy']
        walk_at "xwk"
        exact hn _ ⟨_, hrow, by walk_at "xo", by walk_at "xle", rfl⟩
      · rw [decide_eq_false hy']
        walk_at "xwk"
        refine meth_app 0 ND2 rfl ?_
        walk_at "xwk"
        refine i_at (xs := zs (z :: row')) (d := .int z) (lst_sq (lst_q 0 ND2 rfl)) (by walk_at "xz") (by walk_at "xo") rfl ?_
        walk_at "xwk"
        generalize (z + 1 + (0 + (j : Int))) % size = y at hy0 hy1 hy' ⊢
        refine f_appq 0 ND2 rfl (by walk_at "xz") ?_
        walk_at "xwk"
        have hnd := nodup_snoc r3 hy'
        have hr' := all_snoc (P := fun x => 0 ≤ x ∧ x < size) r4 ⟨hy0, hy1⟩
        refine hn _ ⟨(z :: row') ++ [y], ⟨by simp, ?_, hnd, hr'⟩, by rw [List.length_append, List.length_singleton]; omega, by walk_at "xle", by rw [zs_append]; rfl⟩
        have := short_of_nodup (n := size.toNat) hnd (fun x hx => by have := hr' x hx; omega)
        omega
    · rintro ⟨loc, hp'⟩ ⟨row, hrow, hrl, hle, rfl⟩
      have hrl : row.length ≤ 3 := by simp only [List.length_map, List.length_range] at hrl; omega
      obtain ⟨r1, r2, r3, r4⟩ := id hrow
      have r9 : ∀ x ∈ row, 0 ≤ x ∧ x ≤ 999 := fun x hx => by have := r4 x hx; omega
      refine seq_next (ss_here hle ?_)
      refine ss_sh (st' := ⟨env [("_law_script", .scr ns), ("_law_size", .int size), ("_law_rows_here", .addr a), ("_law_number_here", .int num), ("_law_roads", .list (zs row))], hq hp [(a, (ts.map rowOf).map D.str)]⟩)
        (shift_hq1 ND2 hb0 ⟨rfl, .rfl _, rfl, .rfl _, rfl, .rfl _, rfl, .rfl _, rfl, .one rfl, trivial⟩) ?_
      walk_at "xwk"
      refine m_ meth_join ?_
      walk_at "xwk"
      refine ⟨_, rfl, by rw [zs_length]; omega, compG_pure (f := fun y => match y with | .int k => some (.str (dg k)) | _ => none) rfl (fun y hy K' hK => ?_) fun loc' => ?_⟩
      · obtain ⟨j, hj⟩ := List.getElem?_of_mem hy
        obtain ⟨k, rfl, hk⟩ := zs_at hj
        obtain ⟨q0, q1⟩ := r9 k (List.mem_of_getElem? hk)
        walk_at "xwk"
        refine f_stri q0 q1 ?_
        exact hK _
      rw [fdg]
      dsimp only
      refine new_frozen (by rw [List.length_map, List.length_map]; omega) ?_
      walk_at "xwk"
      have hsum := sum_le (ys := row.map dg) (b := 3) fun y hy => by
        obtain ⟨k, hk, rfl⟩ := List.mem_map.mp hy
        exact (dg_is (r9 k hk).1 (r9 k hk).2).l3
      rw [List.length_map] at hsum
      have hjl : (Str.join (Str.ofString " ") (row.map dg)).length ≤ 12 := by
        rw [← StrLaws.glued_eq_join, size_glued, l_sp, List.length_map]; omega
      refine f_join rfl (by decide +kernel) (by rw [List.length_map]; omega) ?_
      walk_at "xwk"
      have hm0 : 0 ≤ num / 2 % 1000 := by walk_at "xo"
      have hm1 : num / 2 % 1000 ≤ 999 := by walk_at "xo"
      have hd3 := (dg_is hm0 hm1).l3
      refine meth_app 0 ND rfl ?_
      walk_at "xwk"
      refine new_frozen (by simp) ?_
      walk_at "xwk"
      have ho : num % 2 = 0 ∨ num % 2 = 1 := by walk_at "xo"
      refine i_at (d := .str (w0 (num % 2) ++ Str.ofString " ")) rfl (by simp) (by walk_at "xo") (by rcases ho with e | e <;> rw [e] <;> first | rfl | decide +kernel) ?_
      have lw := l_w0 (o := num % 2)
      have lcs : (Str.ofString ": ").length = 2 := by decide +kernel
      walk_at "xwk"
      refine f_stri hm0 hm1 ?_
      walk_at "xwk"
      refine b_adds (by rw [len_app, l_sp]; omega) ?_
      walk_at "xwk"
      refine b_adds (by rw [len_app, len_app, l_sp]; omega) ?_
      walk_at "xwk"
      refine b_adds (by rw [len_app, len_app, len_app, l_sp]; omega) ?_
      rw [rowT_law r1]
      walk_at "xwk"
      refine f_appq 0 ND rfl (by rw [List.length_map, List.length_map]; omega) ?_
      walk_at "xwk"
      refine hn _ ⟨ts ++ [(num % 2, num / 2 % 1000, row)], by simp [htl], all_snoc (P := RT size) hts ⟨⟨ho, hm0, hm1, r9, by show row.length ≤ 62; omega⟩, hrow, hrl⟩, by walk_at "xle", ?_⟩
      rw [List.map_append, List.map_append]; rfl
  · rintro ⟨loc, hp'⟩ ⟨ts, htl, hts, hle, rfl⟩
    refine seq_next (ss_here hle ?_)
    walk_at "xwk"
    refine ⟨a, ts, rfl, ha, rfl, ?_, hts⟩
    simp only [List.length_map, List.length_range] at htl
    omega

theorem odd3_is : Str.ofString "odd 3: 0" = rowOf (1, 3, [0]) := by decide +kernel
theorem odd5_is : Str.ofString "odd 5: 0 0" = rowOf (1, 5, [0, 0]) := by decide +kernel
def Spd (ts : List T3) (p : Nat) (ys : List Str) : Prop := (∃ y, Asc y ∧ y.length ≤ 60 ∧ ys = (ts.map rowOf).set p y) ∨ ys = (ts ++ List.replicate (61 - ts.length) (1, 3, [0])).map rowOf
theorem RT.len {size : Int} {t : T3} (h : RT size t) : (rowOf t).length ≤ 25 := by have := rowOf_len h.tk; have := h.l3; omega
theorem rowOf_pos {t : T3} : 1 ≤ (rowOf t).length := by
  unfold rowOf
  rw [rowT_join]
  show 1 ≤ (hdT t.1 t.2.1 ++ ⟨#[58]⟩ ++ rowF Str.empty t.2.2).length
  rw [len_app, len_app]
  show 1 ≤ _ + 1 + _
  omega

theorem spoiled_ok (ok : (XG w s Ex fz false true true).Ok) {ns : List Int} (hns : ns.length ≤ 63) {a : Addr} {ts : List T3} {p : Nat} (ht1 : ts.length ≤ 60) (hp1 : p < ts.length) (hts : ∀ t ∈ ts, RT ts.length t) :
    FS (XG w s Ex fz false true true) 2 247 [.scr ns, .addr a, .int p] (hq (fun _ => none) [(a, (ts.map rowOf).map D.str)]) (fun d hp' => ∃ (b : Addr) (ys : List Str), d = .addr b ∧ hp' = hq (fun _ => none) [(b, ys.map D.str)] ∧ Spd ts p ys) := by
  have ND : [a].Nodup := by simp
  have ln : ((ts.map rowOf).map D.str).length = ts.length := by simp
  refine FS.forget ?_
  refine def_ok' ok (d247 w s) ["_law_script", "_law_rows_here", "_law_at"] rfl rfl ?_
  (conv => arg 3; whnf; skip); dsimp only [List.zip_cons_cons, List.zip_nil_right, List.zip_nil_left]
  walk_at "xwk"
  refine f_len (lst_sq (lst_q 0 ND rfl)) (by rw [ln]; omega) ?_
  rw [ln]
  walk_at "xwk"
  refine FS.callv (cell_at_ok ok hns (by walk_at "xo")) (by walk_at "xo") ?_
  generalize cellAt ns 1 = c
  walk_at "xwk"
  by_cases h3 : c % 7 < 3
  · walk_at "xwk"
    refine FS.call (odd_row_ok ok (by walk_at "xo") (by walk_at "xo")) (by walk_at "xo") ?_
    rintro _ _ ⟨⟨y, rfl, hy1, hy2⟩, rfl⟩
    walk_at "xwk"
    refine set_q 0 ND rfl (by rw [ln]; omega) (by walk_at "xo") (by rw [ln]; omega) ?_
    walk_at "xwk"
    refine ⟨_, fun _ _ e => e, a, (ts.map rowOf).set p y, rfl, ?_, .inl ⟨y, hy1, by walk_at "xo", rfl⟩⟩
    rw [List.map_set]; rfl
  · walk_at "xwk"
    by_cases h6 : c % 7 < 6
    · walk_at "xwk"
      refine i_at (xs := (ts.map rowOf).map D.str) (d := .str (rowOf ts[p])) (lst_sq (lst_q 0 ND rfl)) (by rw [ln]; omega) (by walk_at "xo") (by simp [hp1]) ?_
      walk_at "xwk"
      have ht := hts ts[p] (List.getElem_mem hp1)
      refine FS.call (bent_row_ok ok (rowOf_asc ht.tk) rowOf_pos ht.len) (by walk_at "xo") ?_
      rintro _ _ ⟨⟨y, rfl, hy1, hy2⟩, rfl⟩
      walk_at "xwk"
      refine set_q 0 ND rfl (by rw [ln]; omega) (by walk_at "xo") (by rw [ln]; omega) ?_
      walk_at "xwk"
      refine ⟨_, fun _ _ e => e, a, (ts.map rowOf).set p y, rfl, ?_, .inl ⟨y, hy1, by walk_at "xo", rfl⟩⟩
      rw [List.map_set]; rfl
    · walk_at "xwk"
      by_cases h1 : c / 7 % 4 = 1
      · walk_at "xwk"
        refine new_frozen (by simp) ?_
        walk_at "xwk"
        refine b_mulq rfl (by walk_at "xo") (by walk_at "xo") (by simp; omega) ?_
        have e : (List.replicate ((61 : Int) - (ts.length : Int)).toNat [D.str (Str.ofString "odd 3: 0")]).flatten = ((List.replicate (61 - ts.length) ((1, 3, [0]) : T3)).map rowOf).map D.str := by
          rw [show ((61 : Int) - (ts.length : Int)).toNat = 61 - ts.length by walk_at "xo", odd3_is, List.map_replicate, List.map_replicate]
          generalize 61 - ts.length = k
          induction k with
          | zero => rfl
          | succ k ih => rw [List.replicate_succ, List.flatten_cons, ih, List.replicate_succ]; rfl
        rw [e]
        refine new_frozen (by simp; omega) ?_
        refine b_addq (lst_q 0 ND rfl) rfl ?_
        rw [← List.map_append, ← List.map_append]
        refine new_hq (by simp; omega) ND fun b ND2 hb => ?_
        walk_at "xwk"
        refine ⟨hq (fun _ => none) [(b, ((ts ++ List.replicate (61 - ts.length) ((1, 3, [0]) : T3)).map rowOf).map D.str)], fun x m e => ?_, b, _, rfl, rfl, .inr rfl⟩
        simp only [hq] at e ⊢
        split at e
        · rename_i q; rw [if_pos q]; exact e
        · cases e
      · walk_at "xwk"
        have ht := hts ts[p] (List.getElem_mem hp1)
        have hself : ts.map rowOf = (ts.map rowOf).set p (rowOf ts[p]) := by
          rw [show rowOf ts[p] = (ts.map rowOf)[p]'(by simpa using hp1) from by simp, List.set_getElem_self]
        exact ⟨_, fun _ _ e => e, a, ts.map rowOf, rfl, rfl, .inl ⟨rowOf ts[p], rowOf_asc ht.tk, by have := ht.len; omega, hself⟩⟩
end

section
variable {w : World} {s : Shared} {Ex fz : Addr → Prop} {hp : Hp}

theorem lread_note (ok : (XG w s (fun _ => False) fz true true true).Ok) {x : Str} {way : Int} (h : FS (XG w s (fun C => C = 80) fz false true true) 6 181 [.str x] (fun _ => none) (fun _ _ => False)) :
    FS (XG w s (fun _ => False) fz true true true) 7 235 [.str x, .int way] (fun _ => none) (fun d hp' => d = .tup [.str (Str.ofString "note"), .none] ∧ hp' = fun _ => none) := by
  refine def_ok' ok (d235 w s) ["_law_text", "_law_way"] rfl rfl ?_
  (conv => arg 3; whnf; skip); dsimp only [List.zip_cons_cons, List.zip_nil_right, List.zip_nil_left]
  by_cases hw : way = 0
  · walk_at "xwk"
    refine s_tryG (fun C => C = 80) ?_ ?_
    · walk_at "xwk"
      refine FS.call h (by walk_at "xo") ?_
      rintro _ _ q
      exact q.elim
    · rintro C rfl
      refine h_takeG ok (g_NoNote w s) (x_NoNote w s) (x_NoNote w s) (m_NoNote_NoNote w s) ?_
      walk_at "xwk"
      refine ⟨by simp, ?_⟩
      walk_at "xwk"
      exact ⟨rfl, rfl⟩
  · walk_at "xwk"
    refine s_tryG (fun C => C = 80) ?_ ?_
    · walk_at "xwk"
      refine FS.call h (by walk_at "xo") ?_
      rintro _ _ q
      exact q.elim
    · rintro C rfl
      refine h_takeAsG ok (g_RoadError w s) (x_NoNote w s) (x_RoadError w s) (m_NoNote_RoadError w s) ?_
      refine ss_here (l := [("error", .exc 80)]) (by walk_at "xle") ?_
      have ok2 : (XG w s (fun _ => False) fz true false false).Ok := ok
      walk_at "xwk"
      refine f_isi_ve ok2 (ve_NoNote w s) ?_
      walk_at "xwk"
      refine f_isi_no ok2 (i_NoNote_NoPlace w s) ?_
      walk_at "xwk"
      refine f_isi_no ok2 (i_NoNote_NoWay w s) ?_
      walk_at "xwk"
      refine f_isi_yes ok2 (i_NoNote_NoNote w s) ?_
      walk_at "xwk"
      refine f_isi_no ok2 (i_NoNote_NoBoard w s) ?_
      walk_at "xwk"
      refine new_frozen (by simp) ?_
      walk_at "xwk"
      refine f_isi_yes ok2 (i_NoNote_NoNote w s) ?_
      walk_at "xwk"
      refine f_intb ?_
      rw [if_pos rfl]
      refine i_at (d := .str (Str.ofString "note")) rfl (by simp) (by walk_at "xo") rfl ?_
      walk_at "xwk"
      refine ⟨by simp, ?_⟩
      walk_at "xwk"
      exact ⟨rfl, rfl⟩

theorem lread_board (ok : (XG w s (fun _ => False) fz true true true).Ok) {x : Str} {way : Int} (h : FS (XG w s (fun C => C = 44) fz false true true) 6 181 [.str x] (fun _ => none) (fun _ _ => False)) :
    FS (XG w s (fun _ => False) fz true true true) 7 235 [.str x, .int way] (fun _ => none) (fun d hp' => d = .tup [.str (Str.ofString "board"), .none] ∧ hp' = fun _ => none) := by
  refine def_ok' ok (d235 w s) ["_law_text", "_law_way"] rfl rfl ?_
  (conv => arg 3; whnf; skip); dsimp only [List.zip_cons_cons, List.zip_nil_right, List.zip_nil_left]
  by_cases hw : way = 0
  · walk_at "xwk"
    refine s_tryG (fun C => C = 44) ?_ ?_
    · walk_at "xwk"
      refine FS.call h (by walk_at "xo") ?_
      rintro _ _ q
      exact q.elim
    · rintro C rfl
      refine h_skip ok (g_NoNote w s) (x_NoBoard w s) (x_NoNote w s) (m_NoBoard_NoNote w s) ?_
      refine h_takeG ok (g_NoBoard w s) (x_NoBoard w s) (x_NoBoard w s) (m_NoBoard_NoBoard w s) ?_
      walk_at "xwk"
      refine ⟨by simp, ?_⟩
      walk_at "xwk"
      exact ⟨rfl, rfl⟩
  · walk_at "xwk"
    refine s_tryG (fun C => C = 44) ?_ ?_
    · walk_at "xwk"
      refine FS.call h (by walk_at "xo") ?_
      rintro _ _ q
      exact q.elim
    · rintro C rfl
      refine h_takeAsG ok (g_RoadError w s) (x_NoBoard w s) (x_RoadError w s) (m_NoBoard_RoadError w s) ?_
      refine ss_here (l := [("error", .exc 44)]) (by walk_at "xle") ?_
      have ok2 : (XG w s (fun _ => False) fz true false false).Ok := ok
      walk_at "xwk"
      refine f_isi_ve ok2 (ve_NoBoard w s) ?_
      walk_at "xwk"
      refine f_isi_no ok2 (i_NoBoard_NoPlace w s) ?_
      walk_at "xwk"
      refine f_isi_no ok2 (i_NoBoard_NoWay w s) ?_
      walk_at "xwk"
      refine f_isi_no ok2 (i_NoBoard_NoNote w s) ?_
      walk_at "xwk"
      refine new_frozen (by simp) ?_
      walk_at "xwk"
      refine f_isi_no ok2 (i_NoBoard_NoNote w s) ?_
      walk_at "xwk"
      refine f_intb ?_
      rw [if_neg (by decide)]
      refine i_at (d := .str (Str.ofString "board")) rfl (by simp) (by walk_at "xo") rfl ?_
      walk_at "xwk"
      refine ⟨by simp, ?_⟩
      walk_at "xwk"
      exact ⟨rfl, rfl⟩

theorem lread_good (ok : (XG w s (fun _ => False) fz true true true).Ok) {x : Str} {way : Int} {o m : List Int} {r : List (List Int)} (h : FS (XG w s (fun _ => False) fz false true true) 6 181 [.str x] (fun _ => none) (fun d hp' => d = bd o m r ∧ hp' = fun _ => none)) :
    FS (XG w s (fun _ => False) fz true true true) 7 235 [.str x, .int way] (fun _ => none) (fun d hp' => d = .tup [.str (Str.ofString ""), bd o m r] ∧ hp' = fun _ => none) := by
  refine def_ok' ok (d235 w s) ["_law_text", "_law_way"] rfl rfl ?_
  (conv => arg 3; whnf; skip); dsimp only [List.zip_cons_cons, List.zip_nil_right, List.zip_nil_left]
  by_cases hw : way = 0
  · walk_at "xwk"
    refine s_tryG (fun _ => False) ?_ ?_
    · walk_at "xwk"
      refine FS.call h (by walk_at "xo") ?_
      rintro _ _ ⟨rfl, rfl⟩
      walk_at "xwk"
      refine ⟨by simp, ?_⟩
      walk_at "xwk"
      exact ⟨rfl, rfl⟩
    · intro C q
      exact q.elim
  · walk_at "xwk"
    refine s_tryG (fun _ => False) ?_ ?_
    · walk_at "xwk"
      refine FS.call h (by walk_at "xo") ?_
      rintro _ _ ⟨rfl, rfl⟩
      walk_at "xwk"
      refine ⟨by simp, ?_⟩
      walk_at "xwk"
      exact ⟨rfl, rfl⟩
    · intro C q
      exact q.elim
end

section
variable {w : World} {s : Shared} {Ex fz : Addr → Prop} {hp : Hp}
theorem zs_inj : ∀ {a b : List Int}, zs a = zs b → a = b
  | [], [], _ => rfl
  | [], _ :: _, h => by cases h
  | _ :: _, [], h => by cases h
  | x :: a, y :: b, h => by
    have h : D.int x :: zs a = D.int y :: zs b := h
    injection h with h1 h2
    cases h1
    rw [zs_inj h2]
theorem rws_inj : ∀ {a b : List (List Int)}, rws a = rws b → a = b
  | [], [], _ => rfl
  | [], _ :: _, h => by cases h
  | _ :: _, [], h => by cases h
  | x :: a, y :: b, h => by
    have h : D.list (zs x) :: rws a = D.list (zs y) :: rws b := h
    injection h with h1 h2
    injection h1 with h1
    rw [zs_inj h1, rws_inj h2]
theorem wf_good {o m : List Int} {r : List (List Int)} (h : WF (.list (zs o)) (.list (zs m)) (.list (rws r))) : Good o m r := by
  obtain ⟨o', m', r', e1, e2, e3, g⟩ := h
  injection e1 with e1
  injection e2 with e2
  injection e3 with e3
  rw [zs_inj e1, zs_inj e2, rws_inj e3]; exact g
theorem way_zs {l : List Int} : ∀ x ∈ zs l, WayD x := fun x hx => by
  obtain ⟨k, _, rfl⟩ := List.mem_map.mp hx
  exact .int k
theorem top_zs {l : List Int} (h : l.length ≤ 62) : TopD WayD (.list (zs l)) := .list way_zs (by rw [zs_length]; exact h)
theorem top_rws {r : List (List Int)} (h : r.length ≤ 62) (h' : ∀ row ∈ r, row.length ≤ 62) : TopD RowD (.list (rws r)) := .list (fun x hx => by
  obtain ⟨row, hr, rfl⟩ := List.mem_map.mp hx
  exact .list way_zs (by rw [zs_length]; exact h' row hr)) (by rw [rws_length]; exact h)

structure Zf (n p : Nat) (bad : Bool) (ts : List T3) (y : Str) : Prop where
  n1 : 1 ≤ n
  n60 : n ≤ 60
  pn : p < n
  len : ts.length = n ∨ ts.length = 61
  tk : ∀ t ∈ ts, TOk t
  tl : ∀ t ∈ ts, (rowOf t).length ≤ 60
  ya : Asc y
  yl : y.length ≤ 60
  hb : bad = true → ∃ k, k ≠ p ∧ ts[k]? = some (1, 5, [0, 0])
  hg : bad = false → ts.length = n → ∀ t ∈ ts, RowOk n t.2.2
def zzOf (ts : List T3) (p : Nat) (y : Str) : List Str := (ts.map rowOf).set p y
namespace Zf
variable {n p : Nat} {bad : Bool} {ts : List T3} {y : Str} (z : Zf n p bad ts y)
include z
theorem l61 : ts.length ≤ 61 := by have := z.len; have := z.n60; omega
theorem pl : p < ts.length := by have := z.len; have := z.pn; have := z.n60; omega
theorem zl : (zzOf ts p y).length = ts.length := by simp [zzOf]
theorem zy : (zzOf ts p y)[p]? = some y := by
  unfold zzOf
  rw [List.getElem?_set_self (by rw [List.length_map]; exact z.pl)]
theorem za : ∀ x ∈ zzOf ts p y, Asc x := fun x hx => by
  rcases List.mem_or_eq_of_mem_set hx with q | q
  · obtain ⟨t, h1, rfl⟩ := List.mem_map.mp q
    exact rowOf_asc (z.tk t h1)
  · rw [q]; exact z.ya
theorem zx : ∀ x ∈ zzOf ts p y, x.length ≤ 60 := fun x hx => by
  rcases List.mem_or_eq_of_mem_set hx with q | q
  · obtain ⟨t, h1, rfl⟩ := List.mem_map.mp q
    exact z.tl t h1
  · rw [q]; exact z.yl
theorem zne : zzOf ts p y ≠ [] := fun e => by
  have h1 := z.zl
  rw [e, List.length_nil] at h1
  have h2 := z.pl
  omega
theorem row {t : T3} (h : y = rowOf t) : zzOf ts p y = (ts.set p t).map rowOf := by rw [h]; unfold zzOf; rw [List.map_set]
theorem tks {t : T3} (ht : TOk t) : ∀ x ∈ ts.set p t, TOk x := fun x hx => by
  rcases List.mem_or_eq_of_mem_set hx with q | q
  · exact z.tk x q
  · rw [q]; exact ht
theorem tls {t : T3} (h : y = rowOf t) : ∀ x ∈ ts.set p t, (rowOf x).length ≤ 60 := fun x hx => by
  rcases List.mem_or_eq_of_mem_set hx with q | q
  · exact z.tl x q
  · rw [q, ← h]; exact z.yl
theorem sne {t : T3} : ts.set p t ≠ [] := fun e => by
  have h1 := congrArg List.length e
  rw [List.length_set, List.length_nil] at h1
  have h2 := z.pl
  omega
theorem good {t : T3} (ht : TOk t) (h1 : (bad || decide ((ts.length : Int) > 60)) = false) (h2 : RowOk n t.2.2) : Good ((ts.set p t).map (·.1)) ((ts.set p t).map (·.2.1)) ((ts.set p t).map (·.2.2)) ∧ ts.length = n := by
  obtain ⟨hb, hl⟩ := Bool.or_eq_false_iff.mp h1
  have hl := of_decide_eq_false hl
  have hln : ts.length = n := by have := z.len; omega
  have hall : ∀ x ∈ ts.set p t, RowOk n x.2.2 := fun x hx => by
    rcases List.mem_or_eq_of_mem_set hx with q | q
    · exact z.hg hb hln x q
    · rw [q]; exact h2
  have hL : (ts.set p t).length = n := by rw [List.length_set]; exact hln
  have n1 := z.n1
  have n60 := z.n60
  refine ⟨⟨?_, ?_, ?_, ?_, fun x hx => ?_, fun x hx => ?_, fun row hx => ?_⟩, hln⟩
  · rw [List.length_map, hL]; exact n1
  · rw [List.length_map, hL]; exact n60
  · rw [List.length_map, List.length_map]
  · rw [List.length_map, List.length_map]
  · obtain ⟨q, hq, rfl⟩ := List.mem_map.mp hx
    have := (z.tks ht q hq).o01
    omega
  · obtain ⟨q, hq, rfl⟩ := List.mem_map.mp hx
    exact ⟨(z.tks ht q hq).m0, (z.tks ht q hq).m1⟩
  · obtain ⟨q, hq, rfl⟩ := List.mem_map.mp hx
    obtain ⟨a, b, c, d⟩ := hall q hq
    exact ⟨a, b, c, fun k hk => by have := d k hk; rw [List.length_map, hL]; omega⟩
theorem bad' {t : T3} (h : (bad || decide ((ts.length : Int) > 60)) = true ∨ ¬ RowOk n t.2.2) : ¬ Good ((ts.set p t).map (·.1)) ((ts.set p t).map (·.2.1)) ((ts.set p t).map (·.2.2)) := fun g => by
  have hL : ((ts.set p t).map (·.1)).length = ts.length := by rw [List.length_map, List.length_set]
  have g60 := g.o60
  rw [hL] at g60
  have hln : ts.length = n := by have := z.len; omega
  have hmem : t.2.2 ∈ (ts.set p t).map (·.2.2) := List.mem_map.mpr ⟨t, List.mem_set z.pl t, rfl⟩
  rcases h with h | h
  · rcases Bool.or_eq_true_iff.mp h with h | h
    · obtain ⟨k, h1, h2⟩ := z.hb h
      have h3 : (ts.set p t)[k]? = some (1, 5, [0, 0]) := by rw [List.getElem?_set_ne (Ne.symm h1)]; exact h2
      have h4 := g.rv [0, 0] (List.mem_map.mpr ⟨_, List.mem_of_getElem? h3, rfl⟩)
      have := h4.2.2.1
      simp at this
    · have := of_decide_eq_true h
      omega
  · obtain ⟨a, b, c, d⟩ := g.rv _ hmem
    exact h ⟨a, b, c, fun k hk => by have := d k hk; rw [hL, hln] at this; exact this⟩
end Zf

theorem law_tail (ok : (XG w s (fun _ => False) (fun _ => False) true true true).Ok) {ns : List Int} (hns : ns.length ≤ 63) {n p : Nat} {bad : Bool} {ts : List T3} {y : Str} (z : Zf n p bad ts y) :
    wpSs (XG w s (fun _ => False) (fun _ => False) true true true) 7 ((bodyOf (XG w s (fun _ => False) (fun _ => False) true true true).K 254).drop 7) (callK fun d _ => d = .bool true) ⟨env [("_law_script", .scr ns), ("_law_size", .int n), ("_law_at", .int p), ("_law_rows_here", .list ((zzOf ts p y).map D.str)), ("_law_bad", .bool bad)], fun _ => none⟩ := by
  have ok1 : (XG w s (fun _ => False) (fun _ => False) false true true).Ok := ok
  have l61 := z.l61
  have zl := z.zl
  have zy := z.zy
  have n60 := z.n60
  have lzz : ((zzOf ts p y).map D.str).length = ts.length := by rw [List.length_map, zl]
  have zw := lines_w (ys := zzOf ts p y) (by walk_at "xo") z.zx
  have zyD : ((zzOf ts p y).map D.str)[((p : Nat) : Int).toNat]? = some (.str y) := by rw [List.getElem?_map, Int.toNat_natCast, zy]; rfl
  (conv => arg 3; whnf; skip)
  refine ss_cmG ?_
  walk_at "xwj"
  refine m_ meth_join ?_
  walk_at "xwj"
  refine f_join rfl (by decide +kernel) zw ?_
  walk_at "xwj"
  refine cv_tG ?_
  refine FS.callv (cell_at_ok ok1 hns (by walk_at "xo")) (by walk_at "xo") ?_
  walk_at "xwj"
  refine cv_cG fun L => ?_
  by_cases hy : IsRow y
  · obtain ⟨t, ht, e⟩ := hy
    have erow := z.row e
    by_cases hg : (bad || decide ((ts.length : Int) > 60)) = false ∧ RowOk n t.2.2
    · obtain ⟨g, hln⟩ := z.good ht hg.1 hg.2
      have hL : ((ts.set p t).map (·.1)).length = n := by rw [List.length_map, List.length_set]; exact hln
      obtain ⟨hbf, hlf⟩ := Bool.or_eq_false_iff.mp hg.1
      have hlf := of_decide_eq_false hlf
      subst hbf
      rw [erow]
      refine FS.call (lread_good (fz := fun b => b = L) ok (read_all (Ex := fun _ => False) (fz := fun b => b = L) ok z.sne (by rw [List.length_set]; exact l61) (z.tks ht) (z.tls e) (board_ok ok g))) (by walk_at "xo") ?_
      rintro _ _ ⟨rfl, rfl⟩
      rw [← erow]
      generalize hTS : ts.set p t = TS at g hL erow
      walk_at "xwk"
      refine i_at (d := .str (Str.ofString "")) rfl (by simp) (by walk_at "xo") rfl ?_
      walk_at "xwk"
      refine i_at (d := .str y) rfl (by rw [lzz]; omega) (by walk_at "xo") zyD ?_
      walk_at "xwk"
      rw [show D.str y = D.str (rowOf t) from congrArg _ e]
      refine FS.callv (row_of_ok ok1 ht) (by walk_at "xo") ?_
      walk_at "xwk"
      rw [lzz]
      walk_at "xwk"
      refine FS.call (due_row ok1 ht (by walk_at "xo")) (by walk_at "xo") ?_
      rintro _ _ ⟨rfl, ⟨q, rfl⟩ | ⟨_, _, rfl⟩⟩
      · exfalso
        rcases q with q | q
        · have := of_decide_eq_true q
          omega
        · exact q hg.2
      walk_at "xwk"
      refine q_nes ?_
      rw [show (Str.ofString "" != Str.ofString "") = false from by decide +kernel]
      walk_at "xwk"
      refine i_at (d := .str (Str.ofString "")) rfl (by simp) (by walk_at "xo") rfl ?_
      walk_at "xwk"
      refine q_nes ?_
      rw [show (Str.ofString "" != Str.ofString "") = false from by decide +kernel]
      walk_at "xwk"
      have htk := z.tks ht
      rw [hTS] at htk
      have hTL : TS.length = n := by rw [← hTS, List.length_set]; exact hln
      refine ⟨_, rng_items (by walk_at "xo") (by walk_at "xo") (by walk_at "xo") (by walk_at "xo"), for_keep [("_law_size", .int n), ("_law_rows_here", .list ((zzOf ts p y).map D.str)), ("_law_found", .tup [.str (Str.ofString ""), bd (TS.map (·.1)) (TS.map (·.2.1)) (TS.map (·.2.2))])] (by walk_at "xle") (rng_items (by walk_at "xo") (by walk_at "xo") (by walk_at "xo") (by walk_at "xo")) ?_ ?_⟩
      · intro i yy hyy loc hle K' hn hc hr
        obtain ⟨rfl, hlt⟩ := rng_get hyy
        have hi : i < TS.length := by walk_at "xo"
        have hti : TS[i]? = some TS[i] := List.getElem?_eq_getElem hi
        have hto := htk TS[i] (List.getElem_mem hi)
        generalize TS[i] = t' at hti hto
        have hzi : ((zzOf ts p y).map D.str)[(0 + (i : Int)).toNat]? = some (.str (rowOf t')) := by
          rw [erow, List.getElem?_map, List.getElem?_map, show (0 + (i : Int)).toNat = i by walk_at "xo", hti]; rfl
        refine for_step hle ?_
        walk_at "xwk"
        refine i_at (d := .str (rowOf t')) rfl (by rw [lzz]; omega) (by walk_at "xo") hzi ?_
        walk_at "xwk"
        refine FS.callv (row_of_ok ok1 hto) (by walk_at "xo") ?_
        walk_at "xwk"
        refine i_at (d := bd (TS.map (·.1)) (TS.map (·.2.1)) (TS.map (·.2.2))) rfl (by simp) (by walk_at "xo") rfl ?_
        walk_at "xwk"
        refine FS.callv (owner_ok ok1 g.o60 (by walk_at "xo") (by walk_at "xo") (k := t'.1) (by rw [List.getElem?_map, show (0 + (i : Int)).toNat = i by walk_at "xo", hti]; rfl)) (by walk_at "xo") ?_
        walk_at "xwk"
        refine i_at (d := bd (TS.map (·.1)) (TS.map (·.2.1)) (TS.map (·.2.2))) rfl (by simp) (by walk_at "xo") rfl ?_
        walk_at "xwk"
        refine FS.callv (mark_ok ok1 g.o60 (by walk_at "xo") (by walk_at "xo") g.ml (k := t'.2.1) (by rw [List.getElem?_map, show (0 + (i : Int)).toNat = i by walk_at "xo", hti]; rfl)) (by walk_at "xo") ?_
        walk_at "xwk"
        refine i_at (d := bd (TS.map (·.1)) (TS.map (·.2.1)) (TS.map (·.2.2))) rfl (by simp) (by walk_at "xo") rfl ?_
        walk_at "xwk"
        refine FS.callv (roads_ok ok1 g.o60 (by walk_at "xo") (by walk_at "xo") g.rl (row := t'.2.2) (by rw [List.getElem?_map, show (0 + (i : Int)).toNat = i by walk_at "xo", hti]; rfl) (g.rv t'.2.2 (List.mem_map.mpr ⟨t', List.mem_of_getElem? hti, rfl⟩)).2.1) (by walk_at "xo") ?_
        walk_at "xwk"
        refine ⟨by simp, ?_⟩
        walk_at "xwk"
        refine q_nerow (t := t') ?_
        walk_at "xwk"
        exact hn _ (by walk_at "xle")
      · intro loc hle
        refine seq_next (ss_here hle ?_)
        walk_at "xwk"
        refine i_at (d := bd (TS.map (·.1)) (TS.map (·.2.1)) (TS.map (·.2.2))) rfl (by simp) (by walk_at "xo") rfl ?_
        walk_at "xwk"
        refine FS.callv (many_ok ok1 g.o60) (by walk_at "xo") ?_
        walk_at "xwk"
        rw [hL, decide_eq_true rfl]
    · have hbd : (bad || decide ((ts.length : Int) > 60)) = true ∨ ¬ RowOk n t.2.2 := by
        cases hq : (bad || decide ((ts.length : Int) > 60)) with
        | true => exact .inl rfl
        | false => exact .inr fun q => hg ⟨hq, q⟩
      have nwf := fun q => z.bad' (t := t) hbd (wf_good q)
      have hsl : (ts.set p t).length ≤ 62 := by rw [List.length_set]; omega
      rw [erow]
      refine FS.call (lread_board (fz := fun b => b = L) ok (read_all (Ex := fun C => C = 44) (fz := fun b => b = L) ok z.sne (by rw [List.length_set]; exact l61) (z.tks ht) (z.tls e)
        (board_bad (Ex := fun C => C = 44) ok rfl (top_zs (by rw [List.length_map]; exact hsl)) (top_zs (by rw [List.length_map]; exact hsl)) (top_rws (by rw [List.length_map]; exact hsl) (fun row hr => by obtain ⟨q, hq, rfl⟩ := List.mem_map.mp hr; exact (z.tks ht q hq).rl)) nwf))) (by walk_at "xo") ?_
      rintro _ _ ⟨rfl, rfl⟩
      rw [← erow]
      walk_at "xwk"
      refine i_at (d := .str (Str.ofString "board")) rfl (by simp) (by walk_at "xo") rfl ?_
      walk_at "xwk"
      refine i_at (d := .str y) rfl (by rw [lzz]; omega) (by walk_at "xo") zyD ?_
      walk_at "xwk"
      rw [show D.str y = D.str (rowOf t) from congrArg _ e]
      refine FS.callv (row_of_ok ok1 ht) (by walk_at "xo") ?_
      walk_at "xwk"
      cases bad with
      | true =>
        walk_at "xwk"
        refine FS.call (due_row ok1 ht (by walk_at "xo")) (by walk_at "xo") ?_
        rintro _ _ ⟨rfl, ⟨_, rfl⟩ | ⟨q, _⟩⟩
        · walk_at "xwk"
          refine q_nes ?_
          rw [show (Str.ofString "board" != Str.ofString "board") = false from by decide +kernel]
          walk_at "xwk"
          refine i_at (d := .str (Str.ofString "board")) rfl (by simp) (by walk_at "xo") rfl ?_
          walk_at "xwk"
          refine q_nes ?_
          rw [show (Str.ofString "board" != Str.ofString "") = true from by decide +kernel]
          walk_at "xwk"
          rfl
        · cases q
      | false =>
        walk_at "xwk"

        rw [lzz]
        walk_at "xwk"
        refine FS.call (due_row ok1 ht (by walk_at "xo")) (by walk_at "xo") ?_
        rintro _ _ ⟨rfl, ⟨_, rfl⟩ | ⟨q, q2, _⟩⟩
        · walk_at "xwk"
          refine q_nes ?_
          rw [show (Str.ofString "board" != Str.ofString "board") = false from by decide +kernel]
          walk_at "xwk"
          refine i_at (d := .str (Str.ofString "board")) rfl (by simp) (by walk_at "xo") rfl ?_
          walk_at "xwk"
          refine q_nes ?_
          rw [show (Str.ofString "board" != Str.ofString "") = true from by decide +kernel]
          walk_at "xwk"
          rfl
        · exact absurd ⟨q, q2⟩ hg
  · refine FS.call (lread_note (fz := fun b => b = L) ok (read_note (Ex := fun C => C = 80) (fz := fun b => b = L) ok rfl z.zne (by walk_at "xo") z.za z.zx ⟨y, List.mem_of_getElem? zy, hy⟩)) (by walk_at "xo") ?_
    rintro _ _ ⟨rfl, rfl⟩
    walk_at "xwk"
    refine i_at (d := .str (Str.ofString "note")) rfl (by simp) (by walk_at "xo") rfl ?_
    walk_at "xwk"
    refine i_at (d := .str y) rfl (by rw [lzz]; omega) (by walk_at "xo") zyD ?_
    walk_at "xwk"
    refine FS.callv (row_of_no ok1 z.ya z.yl hy) (by walk_at "xo") ?_
    walk_at "xwk"
    cases bad with
    | true =>
      walk_at "xwk"
      refine FS.callv (due_none ok1) (by walk_at "xo") ?_
      walk_at "xwk"
      refine q_nes ?_
      rw [show (Str.ofString "note" != Str.ofString "note") = false from by decide +kernel]
      walk_at "xwk"
      refine i_at (d := .str (Str.ofString "note")) rfl (by simp) (by walk_at "xo") rfl ?_
      walk_at "xwk"
      refine q_nes ?_
      rw [show (Str.ofString "note" != Str.ofString "") = true from by decide +kernel]
      walk_at "xwk"
      rfl
    | false =>
      walk_at "xwk"

      rw [lzz]
      walk_at "xwk"
      refine FS.callv (due_none ok1) (by walk_at "xo") ?_
      walk_at "xwk"
      refine q_nes ?_
      rw [show (Str.ofString "note" != Str.ofString "note") = false from by decide +kernel]
      walk_at "xwk"
      refine i_at (d := .str (Str.ofString "note")) rfl (by simp) (by walk_at "xo") rfl ?_
      walk_at "xwk"
      refine q_nes ?_
      rw [show (Str.ofString "note" != Str.ofString "") = true from by decide +kernel]
      walk_at "xwk"
      rfl
end

section
variable {w : World} {s : Shared} {Ex fz : Addr → Prop} {hp : Hp}
theorem tok3 : TOk (1, 3, [0]) := ⟨.inr rfl, by decide, by decide, by simp, by decide⟩
theorem tok5 : TOk (1, 5, [0, 0]) := ⟨.inr rfl, by decide, by decide, by simp, by decide⟩
theorem len3 : (rowOf (1, 3, [0])).length ≤ 60 := by rw [← odd3_is]; decide +kernel
theorem len5 : (rowOf (1, 5, [0, 0])).length ≤ 60 := by rw [← odd5_is]; decide +kernel
theorem set_self {L : List T3} {p : Nat} (h : p < L.length) : L.map rowOf = (L.map rowOf).set p (rowOf L[p]) := by
  rw [show rowOf L[p] = (L.map rowOf)[p]'(by rw [List.length_map]; exact h) from by rw [List.getElem_map], List.set_getElem_self]
theorem Spd.zf {ts : List T3} {p : Nat} {ys : List Str} (h1 : ts.length ≤ 60) (hp : p < ts.length) (hts : ∀ t ∈ ts, RT ts.length t) (h : Spd ts p ys) : ∃ ts2 y, ys = zzOf ts2 p y ∧ Zf ts.length p false ts2 y := by
  rcases h with ⟨y, ya, yl, rfl⟩ | rfl
  · exact ⟨ts, y, rfl, by walk_at "xo", h1, hp, .inl rfl, fun t ht => (hts t ht).tk, fun t ht => by have := (hts t ht).len; omega, ya, yl, (fun q => by cases q), fun _ _ t ht => (hts t ht).rk⟩
  · have hl : (ts ++ List.replicate (61 - ts.length) ((1, 3, [0]) : T3)).length = 61 := by rw [List.length_append, List.length_replicate]; omega
    have hm : ∀ t ∈ ts ++ List.replicate (61 - ts.length) ((1, 3, [0]) : T3), TOk t ∧ (rowOf t).length ≤ 60 := fun t ht => by
      rcases List.mem_append.mp ht with q | q
      · have := (hts t q).len
        exact ⟨(hts t q).tk, by walk_at "xo"⟩
      · rw [List.eq_of_mem_replicate q]; exact ⟨tok3, len3⟩
    have hpl : p < (ts ++ List.replicate (61 - ts.length) ((1, 3, [0]) : T3)).length := by walk_at "xo"
    refine ⟨_, rowOf (ts ++ List.replicate (61 - ts.length) ((1, 3, [0]) : T3))[p], ?_, by walk_at "xo", h1, hp, .inr hl, fun t ht => (hm t ht).1, fun t ht => (hm t ht).2, rowOf_asc (hm _ (List.getElem_mem hpl)).1, (hm _ (List.getElem_mem hpl)).2, (fun q => by cases q), fun _ q => by walk_at "xo"⟩
    exact set_self hpl
theorem Zf.spoil {n p k : Nat} {ts : List T3} {y : Str} (z : Zf n p false ts y) (h1 : k ≠ p) (h2 : k < n) : Zf n p true (ts.set k (1, 5, [0, 0])) y ∧ (zzOf ts p y).set k (rowOf (1, 5, [0, 0])) = zzOf (ts.set k (1, 5, [0, 0])) p y := by
  have n60 := z.n60
  refine ⟨⟨z.n1, z.n60, z.pn, by rw [List.length_set]; exact z.len, fun t ht => ?_, fun t ht => ?_, z.ya, z.yl, fun _ => ⟨k, h1, ?_⟩, (fun q => by cases q)⟩, ?_⟩
  · rcases List.mem_or_eq_of_mem_set ht with q | q
    · exact z.tk t q
    · rw [q]; exact tok5
  · rcases List.mem_or_eq_of_mem_set ht with q | q
    · exact z.tl t q
    · rw [q]; exact len5
  · exact List.getElem?_set_self (by have := z.len; omega)
  · unfold zzOf
    rw [List.map_set, List.set_comm _ _ h1]

theorem law_ok (ok : (XG w s (fun _ => False) (fun _ => False) true true true).Ok) {ns : List Int} (hns : ns.length ≤ 63) : FS (XG w s (fun _ => False) (fun _ => False) true true true) 8 254 [.scr ns] (fun _ => none) (fun d _ => d = .bool true) := by
  have ok1 : (XG w s (fun _ => False) (fun _ => False) false true true).Ok := ok
  have key : ∀ (c size : Int), 0 < size → size ≤ 60 → wpSs (XG w s (fun _ => False) (fun _ => False) true true true) 7 ((bodyOf (XG w s (fun _ => False) (fun _ => False) true true true).K 254).drop 3) (callK fun d _ => d = .bool true) ⟨env [("_law_script", .scr ns), ("_law_cell", .int c), ("_law_size", .int size)], fun _ => none⟩ := by
    intro c size hs0 hs60
    obtain ⟨P, hPe, hP⟩ : ∃ P : Nat, cellAt ns 2 % size = (P : Int) ∧ (P : Int) < size := by
      have h1 := Int.emod_nonneg (cellAt ns 2) (b := size) (by walk_at "xo")
      have h2 := Int.emod_lt_of_pos (cellAt ns 2) hs0
      exact ⟨(cellAt ns 2 % size).toNat, by walk_at "xo", by walk_at "xo"⟩
    (conv => arg 3; whnf; skip)
    walk_at "xwk"
    refine FS.callv (cell_at_ok ok1 hns (by walk_at "xo")) (by walk_at "xo") ?_
    walk_at "xwk"
    rw [hPe]
    refine FS.call (rows_ok ok1 hns hs0 hs60) (by walk_at "xo") ?_
    rintro _ _ ⟨a, ts, rfl, _, rfl, htl, hts⟩
    subst htl
    have h60 : ts.length ≤ 60 := by walk_at "xo"
    have hPl : P < ts.length := by walk_at "xo"
    walk_at "xwk"
    refine FS.call (spoiled_ok ok1 hns (p := P) h60 hPl hts) (by walk_at "xo") ?_
    rintro _ _ ⟨b, ys, rfl, rfl, hsp⟩
    obtain ⟨ts2, y, rfl, z⟩ := hsp.zf h60 hPl hts
    have ND : [b].Nodup := by simp
    have lzz : ((zzOf ts2 P y).map D.str).length = ts2.length := by rw [List.length_map, z.zl]
    have zlen := z.len
    have fin : ∀ (bad : Bool) (ts' : List T3) loc, Zf ts.length P bad ts' y → Le (env [("_law_script", .scr ns), ("_law_size", .int ts.length), ("_law_at", .int P), ("_law_rows_here", .addr b), ("_law_bad", .bool bad)]) loc →
        wpSs (XG w s (fun _ => False) (fun _ => False) true true true) 7 ((bodyOf (XG w s (fun _ => False) (fun _ => False) true true true).K 254).drop 7) (callK fun d _ => d = .bool true) ⟨loc, hq (fun _ => none) [(b, (zzOf ts' P y).map D.str)]⟩ := by
      intro bad ts' loc z' hle
      refine ss_here hle ?_
      refine ss_shs (st' := ⟨env [("_law_script", .scr ns), ("_law_size", .int ts.length), ("_law_at", .int P), ("_law_rows_here", .list ((zzOf ts' P y).map D.str)), ("_law_bad", .bool bad)], fun _ => none⟩) (shift_hq (fun _ _ => rfl) ⟨rfl, .rfl _, rfl, .rfl _, rfl, .rfl _, rfl, Cv.q 0 ND rfl, rfl, .rfl _, trivial⟩) ?_
      exact law_tail ok hns z'
    walk_at "xwk"
    refine FS.callv (cell_at_ok ok1 hns (by walk_at "xo")) (by walk_at "xo") ?_
    walk_at "xwk"
    by_cases hb1 : cellAt ns 2 / 60 % 5 = 1
    · by_cases hb2 : (ts.length : Int) > 1
      · walk_at "xwj"
        rw [decide_eq_true hb2]
        walk_at "xwk1"
        walk_at "xwj"
        walk_at "xwk1"
        walk_at "xwj"
        refine cv_tG ?_
        refine FS.callv (cell_at_ok ok1 hns (by walk_at "xo")) (by walk_at "xo") ?_
        walk_at "xwj"
        have hc01 : cellAt ns 2 / 300 % 2 = 0 ∨ cellAt ns 2 / 300 % 2 = 1 := by walk_at "xo"
        generalize cellAt ns 2 / 300 % 2 = q at hc01 ⊢
        obtain ⟨k0, hk0, hk1⟩ : ∃ k0 : Nat, ((ts.length : Int) - 1) * q = (k0 : Int) ∧ (k0 = 0 ∨ k0 = ts.length - 1) := by
          rcases hc01 with rfl | rfl
          · exact ⟨0, by simp, .inl rfl⟩
          · exact ⟨ts.length - 1, by walk_at "xo", .inr rfl⟩
        rw [hk0]
        by_cases hkP : (k0 : Int) = (P : Int)
        · obtain ⟨z', e⟩ := z.spoil (k := ts.length - 1 - k0) (by walk_at "xo") (by walk_at "xo")
          have e' : ((zzOf ts2 P y).map D.str).set ((ts.length : Int) - 1 - (k0 : Int)).toNat (.str (Str.ofString "odd 5: 0 0")) = (zzOf (ts2.set (ts.length - 1 - k0) (1, 5, [0, 0])) P y).map D.str := by
            rw [show ((ts.length : Int) - 1 - (k0 : Int)).toNat = ts.length - 1 - k0 by walk_at "xo", odd5_is, ← e, List.map_set]
          walk_at "xwk"
          refine set_q 0 ND rfl (by rw [lzz]; omega) (by walk_at "xo") (by rw [lzz]; omega) ?_
          rw [e']
          refine seq_next (ss_nil (seq_next ?_))
          refine fin true _ _ z' ?_
          walk_at "xle"
        · obtain ⟨z', e⟩ := z.spoil (k := k0) (by walk_at "xo") (by walk_at "xo")
          have e' : ((zzOf ts2 P y).map D.str).set (k0 : Int).toNat (.str (Str.ofString "odd 5: 0 0")) = (zzOf (ts2.set k0 (1, 5, [0, 0])) P y).map D.str := by
            rw [Int.toNat_natCast, odd5_is, ← e, List.map_set]
          walk_at "xwk"
          refine set_q 0 ND rfl (by rw [lzz]; omega) (by walk_at "xo") (by rw [lzz]; omega) ?_
          rw [e']
          refine seq_next (ss_nil (seq_next ?_))
          refine fin true _ _ z' ?_
          walk_at "xle"
      · walk_at "xwj"
        rw [decide_eq_false hb2]
        walk_at "xwk1"
        walk_at "xwj"
        refine fin false _ _ z ?_
        walk_at "xle"
    · walk_at "xwj"
      rw [decide_eq_false hb1]
      walk_at "xwk1"
      walk_at "xwj"
      refine fin false _ _ z ?_
      walk_at "xle"
  refine def_ok' ok (d254 w s) ["_law_script"] rfl rfl ?_
  (conv => arg 3; whnf; skip); dsimp only [List.zip_cons_cons, List.zip_nil_right, List.zip_nil_left]
  walk_at "xwk"
  refine FS.callv (cell_at_ok ok1 hns (by walk_at "xo")) (by walk_at "xo") ?_
  walk_at "xwk"
  generalize cellAt ns 0 = c
  by_cases h1 : c / 6 % 4 = 1
  · walk_at "xwj"
    walk_at "xwk1"
    walk_at "xwj"
    refine' ss_le ?kh1 (key c ?kz1 ?kp1 ?kq1)
    case kh1 => (refine le_of_all ?_; repeat (first | exact all_nil | (refine all_cons ?_ ?_; walk_at "xlo")))
    all_goals omega
  · walk_at "xwj"
    refine' ss_le ?kh2 (key c ?kz2 ?kp2 ?kq2)
    case kh2 => (refine le_of_all ?_; repeat (first | exact all_nil | (refine all_cons ?_ ?_; walk_at "xlo")))
    all_goals omega
end

end Mine.B08

open PySem PySem.W PyProof.Rows
theorem PySem.Challenge.cw_uf040023_08_holds : PySem.Challenge.rw_uf040023_08.Holds := by
  refine Mine.H08.hd ?_
  intro w s₀ s₁ mg mb G y fa o pm cd doc dV kV ho hd hcd hD hmg hg args vals as hpre hlay hrd hwl hlo
  have KX := kIn_of y
  refine Ground.open G ?_
  intro T B D TE TW
  wrow_args hpre hlay hrd hwl hlo
  rename_i ns _ _ _ _ _ _ _ a vs _ hL _ _ _ hI _ hlen _
  have hfa : mg (Str.ofString "law") = some (.ref 254) := mg_of KX T.g (by kernel_rfl)
  have hfa' : mg (Str.ofString "law") = some (.ref fa) := hmg
  rw [hfa] at hfa'
  obtain rfl : 254 = fa := by injection hfa' with q; injection q
  refine Mine.law_end (ct := true) Mine.B08.tab hL hI (n := 8) (by decide) (Mine.B08.law_ok (Mine.B08.tab.ok (prog := PySem.Challenge.rw_uf040023_08.row.prog) (w := w) KX T (Mine.B08.tab_ok w)) (by omega)) fun s' hk hgens hos => ?_
  refine GoodW.toG ⟨.inl ⟨.bool true, .bool true, [], rfl, raisesW_false ?_, .bool true, ?_, unshared_nil⟩, hk, hos, hgens.trans hg⟩
  · wrow_none_raised
  · wrow_post
