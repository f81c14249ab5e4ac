import PyProof.Rows.All
import Wide.All
import OpenK.AllK
import Wide.FinOn
import PySem.Challenge.RW_no0303_01
open PySem PySem.W PyProof.Rows PySem.Calls
set_option Elab.async false
set_option linter.unusedVariables false
namespace Mine
section
/-- an object that may change; what a value is, heap apart. «lst»: a list that stands in no store and so stays as it is -/
inductive AV where
  | none
  | bool (b : Bool)
  | int (i : Int)
  | str (s : Str)
  | tup (ds : List AV)
  | lst (ds : List AV)
  | rng (a b : Int)
  | ref (a : Addr)
inductive AObj where
  | list (ds : List AV)
  | tape (p : Program) (w : World) (c : AV) (k : Int)
abbrev Store := Addr → Option AObj

mutual
inductive Rep (h : Heap) (st : Store) : Value → AV → Prop
  | none : Rep h st .none .none
  | bool (b : Bool) : Rep h st (.bool b) (.bool b)
  | int (i : Int) (t : Tok) : Rep h st (.int i t) (.int i)
  | str (x : Str) (t : Tok) : Rep h st (.str x t) (.str x)
  | ref (a : Addr) : Rep h st (.ref a) (.ref a)
  | tup {a : Addr} {vs : List Value} {ds : List AV} : IsTup h a vs.toArray → st a = Option.none → Reps h st vs ds → Rep h st (.ref a) (.tup ds)
  | lst {a : Addr} {vs : List Value} {ds : List AV} : h.IsList a vs.toArray → st a = Option.none → Reps h st vs ds → Rep h st (.ref a) (.lst ds)
  | rng {r : Addr} {a b : Int} {t u v : Tok} : IsRange h r a b 1 t u v → st r = Option.none → Rep h st (.ref r) (.rng a b)
inductive Reps (h : Heap) (st : Store) : List Value → List AV → Prop
  | nil : Reps h st [] []
  | cons {v : Value} {d : AV} {vs : List Value} {ds : List AV} : Rep h st v d → Reps h st vs ds → Reps h st (v :: vs) (d :: ds)
end

def Quiet (o : Obj) : Prop := (∃ its n, o.data = .seq its n) ∨ (o.cls = .type "range" ∧ ∃ vs, o.data = .fields vs)
/-- sequences out of the store stay -/
def Kp (h : Heap) (st : Store) (h' : Heap) (st' : Store) : Prop := ∀ b o, h.get? b = some o → Quiet o → st b = Option.none → h'.get? b = some o ∧ st' b = Option.none
theorem Kp.tup {h h' : Heap} {st st' : Store} (k : Kp h st h' st') {a : Addr} {its : Array Value} (t : IsTup h a its) (e : st a = Option.none) : IsTup h' a its ∧ st' a = Option.none := by
  obtain ⟨o, ho, hc, n, hd⟩ := t
  obtain ⟨h1, h2⟩ := k a o ho (.inl ⟨its, n, hd⟩) e
  exact ⟨⟨o, h1, hc, n, hd⟩, h2⟩
theorem Kp.lst {h h' : Heap} {st st' : Store} (k : Kp h st h' st') {a : Addr} {its : Array Value} (t : h.IsList a its) (e : st a = Option.none) : h'.IsList a its ∧ st' a = Option.none := by
  obtain ⟨o, ho, hc, n, hd⟩ := t
  obtain ⟨h1, h2⟩ := k a o ho (.inl ⟨its, n, hd⟩) e
  exact ⟨⟨o, h1, hc, n, hd⟩, h2⟩
theorem Kp.rng {h h' : Heap} {st st' : Store} (k : Kp h st h' st') {r : Addr} {a b : Int} {t u v : Tok} (x : IsRange h r a b 1 t u v) (e : st r = Option.none) : IsRange h' r a b 1 t u v ∧ st' r = Option.none :=
  k r _ x (.inr ⟨rfl, _, rfl⟩) e
theorem Kp.refl {h : Heap} {st : Store} : Kp h st h st := fun _ _ e _ q => ⟨e, q⟩
theorem Kp.trans {h h' h'' : Heap} {st st' st'' : Store} (x : Kp h st h' st') (y : Kp h' st' h'' st'') : Kp h st h'' st'' := fun b o e d q =>
  let ⟨e', q'⟩ := x b o e d q
  y b o e' d q'

mutual
theorem Rep.tk {h h' : Heap} {st st' : Store} (k : Kp h st h' st') : ∀ {v : Value} {d : AV}, Rep h st v d → Rep h' st' v d
  | _, _, .none => .none
  | _, _, .bool b => .bool b
  | _, _, .int i t => .int i t
  | _, _, .str x t => .str x t
  | _, _, .ref a => .ref a
  | _, _, .tup ht e hr => .tup (k.tup ht e).1 (k.tup ht e).2 (Reps.tk k hr)
  | _, _, .lst ht e hr => .lst (k.lst ht e).1 (k.lst ht e).2 (Reps.tk k hr)
  | _, _, .rng x e => .rng (k.rng x e).1 (k.rng x e).2
theorem Reps.tk {h h' : Heap} {st st' : Store} (k : Kp h st h' st') : ∀ {vs : List Value} {ds : List AV}, Reps h st vs ds → Reps h' st' vs ds
  | _, _, .nil => .nil
  | _, _, .cons x r => .cons (Rep.tk k x) (Reps.tk k r)
end

section
variable {h : Heap} {st : Store}
theorem Reps.length {vs : List Value} {ds : List AV} (r : Reps h st vs ds) : vs.length = ds.length := by
  induction ds generalizing vs with
  | nil => cases r; rfl
  | cons d ds ih => cases r with | cons _ r => simp [ih r]
theorem Reps.get {vs : List Value} {ds : List AV} (r : Reps h st vs ds) {i : Nat} {d : AV} (e : ds[i]? = some d) : ∃ v, vs[i]? = some v ∧ Rep h st v d := by
  induction ds generalizing vs i with
  | nil => simp at e
  | cons d' ds ih =>
    cases r with
    | cons x r =>
      cases i with
      | zero => simp at e; subst e; exact ⟨_, by simp, x⟩
      | succ i => simp at e; obtain ⟨v, hv, hr⟩ := ih r e; exact ⟨v, by simpa using hv, hr⟩
theorem Reps.append {vs : List Value} {ds : List AV} {us : List Value} {es : List AV} (r : Reps h st vs ds) (q : Reps h st us es) : Reps h st (vs ++ us) (ds ++ es) := by
  induction ds generalizing vs with
  | nil => cases r; exact q
  | cons d ds ih => cases r with | cons x r => exact .cons x (ih r)
theorem Reps.one {v : Value} {d : AV} (r : Rep h st v d) : Reps h st [v] [d] := .cons r .nil
end

def OR (h : Heap) (st : Store) (a : Addr) : AObj → Prop
  | .list ds => ∃ vs : List Value, h.PlainList a vs.toArray ∧ Reps h st vs ds
  | .tape p w c k => ∃ v₁ v₂ : Value, h.DictOf (PySem.strKind p w) a [(Str.ofString "cells", v₁), (Str.ofString "spot", v₂)] ∧ Rep h st v₁ c ∧ Rep h st v₂ (.int k)

def Store.nil : Store := fun _ => Option.none
def upd {β : Type} (st : Addr → Option β) (a : Addr) (o : β) : Addr → Option β := fun b => if b = a then some o else st b
def del {β : Type} (st : Addr → Option β) (a : Addr) : Addr → Option β := fun b => if b = a then Option.none else st b
theorem upd_self {β : Type} {st : Addr → Option β} {a : Addr} {o : β} : upd st a o a = some o := by simp [upd]
theorem upd_other {β : Type} {st : Addr → Option β} {a b : Addr} {o : β} (h : b ≠ a) : upd st a o b = st b := by simp [upd, h]
theorem upd_upd {β : Type} {st : Addr → Option β} {a : Addr} {o o' : β} : upd (upd st a o) a o' = upd st a o' := by
  funext b; simp only [upd]; split <;> rfl
theorem del_upd {β : Type} {st : Addr → Option β} {a : Addr} {o : β} (h : st a = Option.none) : del (upd st a o) a = st := by
  funext b; simp only [del, upd]; split
  · rename_i e; rw [e, h]
  · rfl
theorem del_le {β : Type} {st : Addr → Option β} {a : Addr} : ∀ b o, del st a b = some o → st b = some o := fun b o e => by
  simp only [del] at e; split at e
  · cases e
  · exact e

theorem OR.lt {h : Heap} {st : Store} {a : Addr} {o : AObj} (r : OR h st a o) : ∃ x, h.get? a = some x := by
  cases o with
  | list ds => obtain ⟨vs, ⟨k, hl⟩, _⟩ := r; exact ⟨_, hl⟩
  | tape p w c k =>
    obtain ⟨v₁, v₂, hd, _⟩ := r
    obtain ⟨o, es, ep, ho, _⟩ := hd.mapOf
    exact ⟨_, ho⟩
theorem OR.at {h h' : Heap} {st st' : Store} {a : Addr} {o : AObj} (r : OR h st a o) (k : Kp h st h' st') (e : ∀ x, h.get? a = some x → h'.get? a = some x) : OR h' st' a o := by
  cases o with
  | list ds => obtain ⟨vs, hl, hr⟩ := r; exact ⟨vs, hl.at e, hr.tk k⟩
  | tape p w c n =>
    obtain ⟨v₁, v₂, hd, r₁, r₂⟩ := r
    exact ⟨v₁, v₂, hd.at e, r₁.tk k, r₂.tk k⟩

structure StC (B h : Heap) (st : Store) : Prop where
  base : ∀ b o, B.get? b = some o → h.get? b = some o
  objs : ∀ a o, st a = some o → OR h st a o
  fresh : ∀ a o, st a = some o → B.get? a = Option.none

/-- what is not in the store stays as it is, and out of the store -/
def Evo (st : Store) (h : Heap) (st' : Store) (h' : Heap) : Prop := ∀ b o, st b = Option.none → h.get? b = some o → h'.get? b = some o ∧ st' b = Option.none
theorem Evo.refl {st : Store} {h : Heap} : Evo st h st h := fun _ _ a e => ⟨e, a⟩
theorem Evo.trans {st st' st'' : Store} {h h' h'' : Heap} (x : Evo st h st' h') (y : Evo st' h' st'' h'') : Evo st h st'' h'' := fun b o a e =>
  let ⟨e', a'⟩ := x b o a e
  y b o a' e'
theorem Evo.kp {st st' : Store} {h h' : Heap} (x : Evo st h st' h') : Kp h st h' st' := fun b o e _ q => x b o q e
theorem none_of_le {β : Type} {f g : Option β} (k : ∀ o, f = some o → g = some o) (e : g = Option.none) : f = Option.none := by
  cases q : f with
  | none => rfl
  | some o => have := k o q; rw [e] at this; cases this
theorem Evo.weak {st st' st'' : Store} {h h' : Heap} (x : Evo st h st' h') (k : ∀ a o, st'' a = some o → st' a = some o) : Evo st h st'' h' := fun b o a e => by
  obtain ⟨e', a'⟩ := x b o a e
  exact ⟨e', none_of_le (k b) a'⟩
theorem Kp.weak {st st' : Store} {h : Heap} (k : ∀ a o, st' a = some o → st a = some o) : Kp h st h st' := fun b o e d q => ⟨e, none_of_le (k b) q⟩
theorem StC.weak {B h : Heap} {st st' : Store} (S : StC B h st) (k : ∀ a o, st' a = some o → st a = some o) : StC B h st' :=
  ⟨S.base, fun a o e => (S.objs a o (k a o e)).at (.weak k) fun _ e => e, fun a o e => S.fresh a o (k a o e)⟩
theorem StC.none {B h : Heap} {st : Store} (S : StC B h st) {a : Addr} (e : h.get? a = Option.none) : st a = Option.none := by
  cases q : st a with
  | none => rfl
  | some o => obtain ⟨x, hx⟩ := (S.objs a o q).lt; rw [e] at hx; cases hx
theorem Kp.grow {st : Store} {h h' : Heap} (k : ∀ b o, h.get? b = some o → h'.get? b = some o) : Kp h st h' st := fun b o e _ q => ⟨k b o e, q⟩
/-- the heap has grown, nothing has turned -/
theorem StC.grow {B h h' : Heap} {st : Store} (S : StC B h st) (k : ∀ b o, h.get? b = some o → h'.get? b = some o) : StC B h' st :=
  ⟨fun b o e => k b o (S.base b o e), fun a o e => (S.objs a o e).at (.grow k) (fun x hx => k a x hx), S.fresh⟩
theorem Evo.grow {st : Store} {h h' : Heap} (k : ∀ b o, h.get? b = some o → h'.get? b = some o) : Evo st h st h' := fun b o a e => ⟨k b o e, a⟩
theorem StC.bnone {B h : Heap} {st : Store} (S : StC B h st) {a : Addr} (e : h.get? a = Option.none) : B.get? a = Option.none := by
  cases q : B.get? a with
  | none => rfl
  | some o => have := S.base a o q; rw [e] at this; cases this
theorem Evo.new {st : Store} {h h' : Heap} {a : Addr} {o : AObj} (ha : h.get? a = Option.none) (k : ∀ b o, h.get? b = some o → h'.get? b = some o) : Evo st h (upd st a o) h' := fun b ob hb e => by
  refine ⟨k b ob e, ?_⟩
  have : b ≠ a := by rintro rfl; rw [ha] at e; cases e
  rw [upd_other this]; exact hb
/-- a new object -/
theorem StC.new {B h h' : Heap} {st : Store} {a : Addr} {o : AObj} (S : StC B h st) (ha : h.get? a = Option.none) (k : ∀ b o, h.get? b = some o → h'.get? b = some o) (r : OR h' (upd st a o) a o) : StC B h' (upd st a o) := by
  have kp := (Evo.new (st := st) (o := o) ha k).kp
  refine ⟨fun b ob e => k b ob (S.base b ob e), fun b ob e => ?_, fun b ob e => ?_⟩
  · by_cases hb : b = a
    · subst hb; rw [upd_self] at e; cases e; exact r
    · rw [upd_other hb] at e; exact (S.objs b ob e).at kp fun x hx => k b x hx
  · by_cases hb : b = a
    · subst hb; exact S.bnone ha
    · rw [upd_other hb] at e; exact S.fresh b ob e
theorem Evo.turn {st : Store} {h h' : Heap} {a : Addr} {o o' : AObj} (ha : st a = some o) (k : ∀ b ob, b ≠ a → h.get? b = some ob → h'.get? b = some ob) : Evo st h (upd st a o') h' := fun b ob hb e => by
  have hne : b ≠ a := by rintro rfl; rw [ha] at hb; cases hb
  exact ⟨k b ob hne e, by rw [upd_other hne]; exact hb⟩
/-- an object of the store is turned -/
theorem StC.turn {B h h' : Heap} {st : Store} {a : Addr} {o o' : AObj} (S : StC B h st) (ha : st a = some o) (k : ∀ b ob, b ≠ a → h.get? b = some ob → h'.get? b = some ob) (r : OR h' (upd st a o') a o') : StC B h' (upd st a o') := by
  have hB := S.fresh a o ha
  have kp := (Evo.turn (h := h) (h' := h') (o' := o') ha k).kp
  refine ⟨fun b ob e => k b ob (by rintro rfl; rw [hB] at e; cases e) (S.base b ob e), fun b ob e => ?_, fun b ob e => ?_⟩
  · by_cases hb : b = a
    · subst hb; rw [upd_self] at e; cases e; exact r
    · rw [upd_other hb] at e; exact (S.objs b ob e).at kp fun x hx => k b x hb hx
  · by_cases hb : b = a
    · subst hb; exact hB
    · rw [upd_other hb] at e; exact S.fresh b ob e

abbrev Loc := Str → Option AV
def put {β : Type} (lo : Str → Option β) (x : Str) (d : β) : Str → Option β := fun y => if y = x then some d else lo y

/-- the scope of a def, no comprehension's -/
def isFn (sc : Scope) : Bool := (sc.names.lookup (Str.ofString ".0")).isNone
structure EnvS (sc : Scope) (env : Env) : Prop where
  scope : env.scope = sc
  kind : sc.kind = .function
  globals : env.globals = mainGlobals
  builtins : env.builtins = builtinsNs
  cellsNe : ∀ x c, env.cells.lookup x = some c → c ≠ env.locals
  apart : ∀ x y c, env.cells.lookup x = some c → env.cells.lookup y = some c → x = y
  has : ∀ x, sc.names.lookup x = some .cell → ∃ c, env.cells.lookup x = some c
  fn : isFn sc = true → env.func.isSome = true

structure EnvR (env : Env) (h : Heap) (lo : Loc) (st : Store) : Prop where
  ns : ∃ m, h.Ns env.locals m ∧ ∀ x d, lo x = some d → env.kindOf x = some .local → ∃ v, m x = some v ∧ Rep h st v d
  cell : ∀ x d, lo x = some d → env.kindOf x ≠ some .local → ∃ c v, env.cells.lookup x = some c ∧ h.IsCell c (some v) ∧ Rep h st v d
  cells : ∀ x c, env.cells.lookup x = some c → ∃ v, h.IsCell c v

def Has (env : Env) (b : Addr) : Prop := b = env.locals ∨ ∃ x, env.cells.lookup x = some b
/-- what a store to a name may turn: a comprehension turns no cell -/
def Own (env : Env) (b : Addr) : Prop := b = env.locals ∨ (env.func.isSome = true ∧ ∃ x, env.cells.lookup x = some b)
theorem Own.has {env : Env} {b : Addr} (h : Own env b) : Has env b := h.imp id fun h => h.2

structure StE (B : Heap) (sc : Scope) (env : Env) (h : Heap) (lo : Loc) (st : Store) : Prop extends StC B h st where
  s : EnvS sc env
  r : EnvR env h lo st
  own : ∀ b, Has env b → st b = Option.none ∧ B.get? b = Option.none

theorem IsCell.at {h h' : Heap} {c : Addr} {v : Option Value} (x : h.IsCell c v) (e : ∀ o, h.get? c = some o → h'.get? c = some o) : h'.IsCell c v := let ⟨o, ho, hd⟩ := x; ⟨o, e o ho, hd⟩

theorem StE.evo {B : Heap} {sc : Scope} {env : Env} {h h' : Heap} {lo : Loc} {st st' : Store} (S : StE B sc env h lo st) (S' : StC B h' st') (x : Evo st h st' h') : StE B sc env h' lo st' := by
  have tk := x.kp
  have up : ∀ b, Has env b → ∀ o, h.get? b = some o → h'.get? b = some o := fun b hb o e => (x b o (S.own b hb).1 e).1
  refine { toStC := S', s := S.s, r := ?_, own := fun b hb => ⟨?_, (S.own b hb).2⟩ }
  · obtain ⟨m, hn, hm⟩ := S.r.ns
    refine ⟨⟨m, hn.at' (up _ (.inl rfl)), fun y d hy hk => ?_⟩, fun y d hy hk => ?_, fun y c hc => ?_⟩
    · obtain ⟨v, hv, hr⟩ := hm y d hy hk
      exact ⟨v, hv, hr.tk tk⟩
    · obtain ⟨c, v, hc, hv, hr⟩ := S.r.cell y d hy hk
      exact ⟨c, v, hc, IsCell.at hv (up c (.inr ⟨y, hc⟩)), hr.tk tk⟩
    · obtain ⟨v, hv⟩ := S.r.cells y c hc
      exact ⟨v, IsCell.at hv (up c (.inr ⟨y, hc⟩))⟩
  · rcases hb with rfl | ⟨y, hc⟩
    · obtain ⟨m, ⟨o, _, _, ho, _⟩, _⟩ := S.r.ns
      exact (x _ o (S.own _ (.inl rfl)).1 ho).2
    · obtain ⟨v, o, ho, _⟩ := S.r.cells y b hc
      exact (x _ o (S.own _ (.inr ⟨y, hc⟩)).1 ho).2
theorem StE.weak {B : Heap} {sc : Scope} {env : Env} {h : Heap} {lo : Loc} {st st' : Store} (S : StE B sc env h lo st) (k : ∀ a o, st' a = some o → st a = some o) : StE B sc env h lo st' :=
  S.evo (S.toStC.weak k) (Evo.refl.weak k)
end
section
/- what the functions compute, in plain Lean -/
abbrev Rows := List (Int × Int)
def rangeOf (l h : Int) : Rows := if l ≤ h then [(l, h)] else []
def putB (f : Rows) (l h : Int) : Rows :=
  if f ≠ [] ∧ l ≤ (f.getLastD (0, 0)).2 + 1 then (if (f.getLastD (0, 0)).2 < h then f.dropLast ++ [((f.getLastD (0, 0)).1, h)] else f) else f ++ [(l, h)]
def putAll (f : Rows) (rs : Rows) : Rows := rs.foldl (fun f r => putB f r.1 r.2) f
def sizeOf' (d : Rows) : Int := (d.map fun r => r.2 - r.1 + 1).sum
def nextF (d : Rows) (v : Int) : Option Int := (d.find? fun r => decide (v ≤ r.2)).map fun r => max r.1 v
def span (l h : Int) : List Int := (List.range (h + 1 - l).toNat).map fun i => l + (i : Nat)
def valuesOf (d : Rows) : List Int := d.flatMap fun r => span r.1 r.2
def upTo (d : Rows) (k : Int) : Rows := d.filterMap fun r => if r.1 ≤ k then some (r.1, min r.2 k) else none
def fromOn (d : Rows) (k : Int) : Rows := d.filterMap fun r => if k ≤ r.2 then some (max r.1 k, r.2) else none
def without (d : Rows) (v : Int) : Rows := upTo d (v - 1) ++ fromOn d (v + 1)
def meetL : Rows → Rows → Rows
  | [], _ => []
  | _ :: _, [] => []
  | (a, b) :: d, (c, f) :: e => (if max a c ≤ min b f then [(max a c, min b f)] else []) ++ (if b < f then meetL d ((c, f) :: e) else meetL ((a, b) :: d) e)
termination_by d e => d.length + e.length
def cutRow (hi : Int) : Rows → Int → Rows → Rows × Int
  | [], b, out => (out, b)
  | (l, r) :: e, b, out => if b ≤ r ∧ l ≤ hi then cutRow hi e (r + 1) (if b < l then out ++ [(b, l - 1)] else out) else cutRow hi e b out
def minusRow (e : Rows) (out : Rows) (l h : Int) : Rows :=
  let r := cutRow h e l out
  if r.2 ≤ h then r.1 ++ [(r.2, h)] else r.1
def minusL (d e : Rows) : Rows := d.foldl (fun out r => minusRow e out r.1 r.2) []
def shiftL (d : Rows) (k : Int) : Rows := d.map fun r => (r.1 + k, r.2 + k)
def negL (d : Rows) : Rows := d.reverse.map fun r => (-r.2, -r.1)
inductive Sg where
  | le | ge | eq | ne
  deriving DecidableEq
def Sg.says : Sg → Int → Int → Bool
  | .le, k, v => decide (v ≤ k)
  | .ge, k, v => decide (k ≤ v)
  | .eq, k, v => decide (v = k)
  | .ne, k, v => !decide (v = k)
def Sg.not : Sg → Int → Sg × Int
  | .le, k => (.ge, k + 1)
  | .ge, k => (.le, k - 1)
  | .eq, k => (.ne, k)
  | .ne, k => (.eq, k)
def strike (s : Sg) (k : Int) (d : Rows) : Rows := match s with
  | .le => upTo d k
  | .ge => fromOn d k
  | .eq => meetL d [(k, k)]
  | .ne => without d k
def saidOf (s : Sg) (k : Int) (d : Rows) : Int := if strike s k d = d then 1 else if strike s k d = [] then -1 else 0
def runB (f : Rows) (v : Int) : Rows := if f ≠ [] ∧ (f.getLastD (0, 0)).2 = v - 1 then f.dropLast ++ [((f.getLastD (0, 0)).1, v)] else f ++ [(v, v)]
def runsOf (ns : List Int) : Rows := ns.foldl runB []
def plainB (f : List Int) (v : Int) : List Int := if f = [] ∨ f.getLastD 0 ≠ v then f ++ [v] else f
def plainOf (ns : List Int) : List Int := ns.foldl plainB []
end
section
structure Cx where
  prog : Program
  w : World
  B : Heap
  mg : Str → Option Value
  mb : Str → Option Value
  g : B.Ns mainGlobals mg
  b : B.Ns builtinsNs mb
  builtins : ∀ x : Str, x ≠ "__name__" → mb x = bootBuiltins x
  nolimit : B.NoLimit

def Room (n : Nat) (A : Around) : Prop := A.handled = none ∧ A.depth + n < recursionLimit ∧ A.units + 4 * n + 8 < cLine
theorem Room.le {n m : Nat} {A : Around} (h : Room n A) (k : m ≤ n) : Room m A := ⟨h.1, by have := h.2.1; omega, by have := h.2.2; omega⟩
theorem Room.deeper {n : Nat} {A : Around} {env : Env} (h : Room (n + 1) A) : Room n (A.deeper env) := ⟨h.1, by have := h.2.1; show A.depth + 1 + n < _; omega, by have := h.2.2; show A.units + 3 + 4 * n + 8 < _; omega⟩
theorem Room.depth {n : Nat} {A : Around} (h : Room n A) : A.depth < recursionLimit := by have := h.2.1; omega
theorem Room.units {n : Nat} {A : Around} (h : Room n A) : A.units < cLine := by have := h.2.2; omega

def Same (s s' : Shared) : Prop := ∃ h tk, s' = { s with heap := h, toks := tk }
theorem Same.refl (s : Shared) : Same s s := ⟨_, _, rfl⟩
theorem Same.of (s : Shared) (h : Heap) (tk : Nat) : Same s { s with heap := h, toks := tk } := ⟨_, _, rfl⟩
theorem Same.trans {s s' s'' : Shared} (x : Same s s') (y : Same s' s'') : Same s s'' := by
  obtain ⟨h, tk, rfl⟩ := x
  obtain ⟨h', tk', rfl⟩ := y
  exact ⟨_, _, rfl⟩

section
variable (C : Cx) (sc : Scope) (env : Env) (lo : Loc) (st : Store) (s : Shared)
/-- what an expression leaves -/
def PE (Q : AV → Store → Prop) : Value → Shared → Prop := fun v s' => ∃ d st', Q d st' ∧ Rep s'.heap st' v d ∧ StE C.B sc env s'.heap lo st' ∧ Evo st s.heap st' s'.heap ∧ Same s s'
def PEs (Q : List AV → Store → Prop) : List Value → Shared → Prop := fun v s' => ∃ d st', Q d st' ∧ Reps s'.heap st' v d ∧ StE C.B sc env s'.heap lo st' ∧ Evo st s.heap st' s'.heap ∧ Same s s'
def PB (Q : Bool → Store → Prop) : Bool → Shared → Prop := fun b s' => ∃ st', Q b st' ∧ StE C.B sc env s'.heap lo st' ∧ Evo st s.heap st' s'.heap ∧ Same s s'
def PC (Q : AV → Store → Prop) : Value → Shared → Prop := fun v s' => ∃ d st', Q d st' ∧ Rep s'.heap st' v d ∧ StC C.B s'.heap st' ∧ Evo st s.heap st' s'.heap ∧ Same s s'
end
def No : Value → Shared → Prop := fun _ _ => False

section
variable (C : Cx) (sc : Scope) (n : Nat)
def AE (e : Expr) (lo : Loc) (st : Store) (Q : AV → Store → Prop) : Prop :=
  ∀ env A s, Room n A → StE C.B sc env s.heap lo st → wpAny (model C.prog C.w) A (eval e env) (PE C sc env lo st s Q) No s
def AEs (es : List Expr) (lo : Loc) (st : Store) (Q : List AV → Store → Prop) : Prop :=
  ∀ env A s pos, Room n A → StE C.B sc env s.heap lo st → wpAny (model C.prog C.w) A (spliced (backTo pos (starEach es env))) (PEs C sc env lo st s Q) No s
def AT (e : Expr) (lo : Loc) (st : Store) (Q : Bool → Store → Prop) : Prop :=
  ∀ env A s, Room n A → StE C.B sc env s.heap lo st → wpAny (model C.prog C.w) A (isTrue e env (eval e env)) (PB C sc env lo st s Q) No s
end
section
variable (C : Cx) (n : Nat)
def AV1 (t : Value → Sem Value) (a : AV) (st : Store) (Q : AV → Store → Prop) : Prop :=
  ∀ A s v, Room n A → StC C.B s.heap st → Rep s.heap st v a → wpAny (model C.prog C.w) A (t v) (PC C st s Q) No s
def AV2 (t : Value → Value → Sem Value) (a b : AV) (st : Store) (Q : AV → Store → Prop) : Prop :=
  ∀ A s v u, Room n A → StC C.B s.heap st → Rep s.heap st v a → Rep s.heap st u b → wpAny (model C.prog C.w) A (t v u) (PC C st s Q) No s
/-- truth reads alone -/
def ATr (a : AV) (st : Store) (c : Bool) : Prop :=
  ∀ A s v (Q : Bool → Shared → Prop) (E : Value → Shared → Prop), Room n A → StC C.B s.heap st → Rep s.heap st v a → (∀ tk, Q c { s with toks := tk }) → wpAny (model C.prog C.w) A (truthy v) Q E s
def ACall (f : Value) (ds : List AV) (st : Store) (Q : AV → Store → Prop) : Prop :=
  ∀ A s vs, Room n A → StC C.B s.heap st → Reps s.heap st vs ds → wpAny (model C.prog C.w) A (call f vs) (PC C st s Q) No s
end

theorem size_none (h : Heap) : h.get? h.objs.size = Option.none := Heap.get?_none_of_le (Nat.le_refl _)
theorem No.el {P : Prop} {v : Value} {s : Shared} (h : No v s) : P := h.elim

section
variable {C : Cx} {sc : Scope} {n : Nat} {env : Env} {A : Around} {s : Shared} {lo : Loc} {st : Store} {E : Value → Shared → Prop}

theorem AE.use {e : Expr} {Q : AV → Store → Prop} {P : Value → Shared → Prop} (h : AE C sc n e lo st Q) (hA : Room n A) (S : StE C.B sc env s.heap lo st)
    (k : ∀ v s' d st', Q d st' → Rep s'.heap st' v d → StE C.B sc env s'.heap lo st' → Evo st s.heap st' s'.heap → Same s s' → P v s') : wpAny (model C.prog C.w) A (eval e env) P E s :=
  wpAny_mono (h env A s hA S) (fun v s' ⟨d, st', hQ, hr, hS, hx, hs⟩ => k v s' d st' hQ hr hS hx hs) fun _ _ f => f.el
theorem AEs.use {es : List Expr} {pos : Pos} {Q : List AV → Store → Prop} {P : List Value → Shared → Prop} (h : AEs C sc n es lo st Q) (hA : Room n A) (S : StE C.B sc env s.heap lo st)
    (k : ∀ v s' d st', Q d st' → Reps s'.heap st' v d → StE C.B sc env s'.heap lo st' → Evo st s.heap st' s'.heap → Same s s' → P v s') : wpAny (model C.prog C.w) A (spliced (backTo pos (starEach es env))) P E s :=
  wpAny_mono (h env A s pos hA S) (fun v s' ⟨d, st', hQ, hr, hS, hx, hs⟩ => k v s' d st' hQ hr hS hx hs) fun _ _ f => f.el
theorem AT.use {e : Expr} {Q : Bool → Store → Prop} {P : Bool → Shared → Prop} (h : AT C sc n e lo st Q) (hA : Room n A) (S : StE C.B sc env s.heap lo st)
    (k : ∀ b s' st', Q b st' → StE C.B sc env s'.heap lo st' → Evo st s.heap st' s'.heap → Same s s' → P b s') : wpAny (model C.prog C.w) A (isTrue e env (eval e env)) P E s :=
  wpAny_mono (h env A s hA S) (fun b s' ⟨st', hQ, hS, hx, hs⟩ => k b s' st' hQ hS hx hs) fun _ _ f => f.el

theorem PC.toPE {s₀ : Shared} {st₀ : Store} {Q : AV → Store → Prop} {v : Value} {s' : Shared} (S : StE C.B sc env s.heap lo st) (x : Evo st₀ s₀.heap st s.heap) (e : Same s₀ s) (p : PC C st s Q v s') : PE C sc env lo st₀ s₀ Q v s' := by
  obtain ⟨d, st', hQ, hr, hS, hx, hs⟩ := p
  exact ⟨d, st', hQ, hr, S.evo hS hx, x.trans hx, e.trans hs⟩
theorem PE.from {s₀ : Shared} {st₀ : Store} {Q : AV → Store → Prop} {v : Value} {s' : Shared} (x : Evo st₀ s₀.heap st s.heap) (e : Same s₀ s) (p : PE C sc env lo st s Q v s') : PE C sc env lo st₀ s₀ Q v s' := by
  obtain ⟨d, st', hQ, hr, hS, hx, hs⟩ := p
  exact ⟨d, st', hQ, hr, hS, x.trans hx, e.trans hs⟩
theorem PEs.from {s₀ : Shared} {st₀ : Store} {Q : List AV → Store → Prop} {v : List Value} {s' : Shared} (x : Evo st₀ s₀.heap st s.heap) (e : Same s₀ s) (p : PEs C sc env lo st s Q v s') : PEs C sc env lo st₀ s₀ Q v s' := by
  obtain ⟨d, st', hQ, hr, hS, hx, hs⟩ := p
  exact ⟨d, st', hQ, hr, hS, x.trans hx, e.trans hs⟩
theorem PB.from {s₀ : Shared} {st₀ : Store} {Q : Bool → Store → Prop} {v : Bool} {s' : Shared} (x : Evo st₀ s₀.heap st s.heap) (e : Same s₀ s) (p : PB C sc env lo st s Q v s') : PB C sc env lo st₀ s₀ Q v s' := by
  obtain ⟨st', hQ, hS, hx, hs⟩ := p
  exact ⟨st', hQ, hS, x.trans hx, e.trans hs⟩

/-- tokens alone have moved -/
theorem PE.here {Q : AV → Store → Prop} {v : Value} {d : AV} {tk : Nat} (S : StE C.B sc env s.heap lo st) (hr : Rep s.heap st v d) (hQ : Q d st) : PE C sc env lo st s Q v { s with toks := tk } :=
  ⟨d, st, hQ, hr, S, .refl, ⟨_, _, rfl⟩⟩
theorem PC.here {Q : AV → Store → Prop} {v : Value} {d : AV} {tk : Nat} (S : StC C.B s.heap st) (hr : Rep s.heap st v d) (hQ : Q d st) : PC C st s Q v { s with toks := tk } :=
  ⟨d, st, hQ, hr, S, .refl, ⟨_, _, rfl⟩⟩
theorem PB.here {Q : Bool → Store → Prop} {b : Bool} {tk : Nat} (S : StE C.B sc env s.heap lo st) (hQ : Q b st) : PB C sc env lo st s Q b { s with toks := tk } :=
  ⟨st, hQ, S, .refl, ⟨_, _, rfl⟩⟩

theorem AE.mono {e : Expr} {Q Q' : AV → Store → Prop} (h : AE C sc n e lo st Q) (k : ∀ d st', Q d st' → Q' d st') : AE C sc n e lo st Q' := fun env A s hA S =>
  h.use hA S fun _ _ d st' hQ hr hS hx hs => ⟨d, st', k _ _ hQ, hr, hS, hx, hs⟩
/-- the store may be forgotten in part -/
theorem ACall.weak {f : Value} {ds : List AV} {Q Q' : AV → Store → Prop} (h : ACall C n f ds st Q) (k : ∀ d st', Q d st' → ∃ st'', (∀ a o, st'' a = some o → st' a = some o) ∧ Q' d st'') : ACall C n f ds st Q' := fun A s vs hA S hv =>
  wpAny_mono (h A s vs hA S hv) (fun v s' ⟨d, st', hQ, hr, hS, hx, hs⟩ => let ⟨st'', hw, hq⟩ := k d st' hQ; ⟨d, st'', hq, hr.tk (.weak hw), hS.weak hw, hx.weak hw, hs⟩) fun _ _ f => f
theorem ACall.mono {f : Value} {ds : List AV} {Q Q' : AV → Store → Prop} (h : ACall C n f ds st Q) (k : ∀ d st', Q d st' → Q' d st') : ACall C n f ds st Q' := h.weak fun d st' q => ⟨st', fun _ _ e => e, k d st' q⟩

/- names and constants -/
def isVar (sc : Scope) (x : Str) : Bool := match sc.names.lookup x with
  | some .local | some .cell | some .free => true
  | _ => false
theorem AE_name {x : Str} {pos : Pos} {d : AV} {Q : AV → Store → Prop} (hv : lo x = some d) (hQ : Q d st) (hk : isVar sc x = true := by rfl) (hd : (x == ("__debug__" : Str)) = false := by decide)
    (hc : (x == ("__classdict__" : Str)) = false := by decide) : AE C sc n (.Name x pos) lo st Q := fun env A s hA S => by
  have he := S.s.scope
  have hfun : env.scope.kind = .function := by rw [he]; exact S.s.kind
  have hko : env.kindOf x = sc.names.lookup x := by show env.scope.names.lookup x = _; rw [he]
  unfold isVar at hk
  refine wpAny_Name ?_ hd
  by_cases hl : env.kindOf x = some .local
  · obtain ⟨m, hn, hm⟩ := S.r.ns
    obtain ⟨v, hmv, hr⟩ := hm x d hv hl
    exact wpAny_loadName_local hfun hl hn hmv (PE.here S hr hQ)
  · obtain ⟨c, v, hcl, hcv, hr⟩ := S.r.cell x d hv hl
    rw [← hko] at hk
    split at hk
    · rename_i q; exact absurd q hl
    · rename_i q; exact wpAny_loadName_cell hfun q hcl hcv (PE.here S hr hQ)
    · rename_i q; exact wpAny_loadName_free hfun q hcl hcv (PE.here S hr hQ) hc
    · cases hk
theorem AE_int {i : Int} {k : Nat} {pos : Pos} {Q : AV → Store → Prop} (hQ : Q (.int i) st) : AE C sc n (.Constant (.int i) k pos) lo st Q := fun _ _ _ _ S =>
  wpAny_Constant_int (PE.here S (.int _ _) hQ)
theorem AE_str {x : Str} {k : Nat} {pos : Pos} {Q : AV → Store → Prop} (hQ : Q (.str x) st) : AE C sc n (.Constant (.str x) k pos) lo st Q := fun _ _ _ _ S =>
  Constant_str (PE.here S (.str _ _) hQ)
theorem AE_bool {b : Bool} {k : Nat} {pos : Pos} {Q : AV → Store → Prop} (hQ : Q (.bool b) st) : AE C sc n (.Constant (.bool b) k pos) lo st Q := fun _ _ _ _ S =>
  Constant_bool (PE.here S (.bool _) hQ)
theorem AE_none {k : Nat} {pos : Pos} {Q : AV → Store → Prop} (hQ : Q .none st) : AE C sc n (.Constant .none k pos) lo st Q := fun _ _ _ _ S =>
  Constant_none (PE.here S .none hQ)

/- operators -/
theorem AE_bin {l r : Expr} {op : Operator} {pos : Pos} {Q : AV → Store → Prop}
    (h : AE C sc n l lo st fun a st1 => AE C sc n r lo st1 fun b st2 => AV2 C n (binaryOp op) a b st2 Q) : AE C sc n (.BinOp l op r pos) lo st Q := fun env A s hA S => by
  refine wpAny_BinOp (h.use hA S fun va s1 a st1 h1 ra S1 x1 e1 => h1.use hA S1 fun vb s2 b st2 h2 rb S2 x2 e2 => ?_)
  exact wpAny_mono (h2 A s2 va vb hA S2.toStC (ra.tk x2.kp) rb) (fun v s' p => p.toPE S2 (x1.trans x2) (e1.trans e2)) fun _ _ f => f.el
theorem AE_cmp {l r : Expr} {op : CmpOp} {pos : Pos} {Q : AV → Store → Prop}
    (h : AE C sc n l lo st fun a st1 => AE C sc n r lo st1 fun b st2 => AV2 C n (compareOp op) a b st2 Q) (hm : behindInMarks op r = false := by with_unfolding_all rfl) : AE C sc n (.Compare l [op] [r] pos) lo st Q := fun env A s hA S => by
  refine wpAny_Compare1 (h.use hA S fun va s1 a st1 h1 ra S1 x1 e1 => h1.use hA S1 fun vb s2 b st2 h2 rb S2 x2 e2 => ?_) hm
  exact wpAny_mono (h2 A s2 va vb hA S2.toStC (ra.tk x2.kp) rb) (fun v s' p => p.toPE S2 (x1.trans x2) (e1.trans e2)) fun _ _ f => f.el
theorem AE_un {x : Expr} {op : UnaryOp} {pos : Pos} {Q : AV → Store → Prop}
    (h : AE C sc n x lo st fun a st1 => AV1 C n (unaryOp op) a st1 Q) : AE C sc n (.UnaryOp op x pos) lo st Q := fun env A s hA S => by
  refine wpAny_UnaryOp (h.use hA S fun va s1 a st1 h1 ra S1 x1 e1 => ?_)
  exact wpAny_mono (h1 A s1 va hA S1.toStC ra) (fun v s' p => p.toPE S1 x1 e1) fun _ _ f => f.el
theorem AE_if {t a b : Expr} {pos : Pos} {Q : AV → Store → Prop}
    (h : AT C sc n t lo st fun c st1 => (c = true → AE C sc n a lo st1 Q) ∧ (c = false → AE C sc n b lo st1 Q)) : AE C sc n (.IfExp t a b pos) lo st Q := fun env A s hA S => by
  refine IfExp_ (h.use hA S fun c s1 st1 h1 S1 x1 e1 => ?_)
  cases c with
  | true => exact (h1.1 rfl).use hA S1 fun v s' d st' hQ hr hS hx hs => PE.from x1 e1 ⟨d, st', hQ, hr, hS, hx, hs⟩
  | false => exact (h1.2 rfl).use hA S1 fun v s' d st' hQ hr hS hx hs => PE.from x1 e1 ⟨d, st', hQ, hr, hS, hx, hs⟩

/- tests -/
theorem AT_cmp {l r : Expr} {op : CmpOp} {pos : Pos} {Q : Bool → Store → Prop}
    (h : AE C sc n l lo st fun a st1 => AE C sc n r lo st1 fun b st2 => AV2 C n (compareOp op) a b st2 fun c st3 => ∃ t, c = .bool t ∧ Q t st3) (hm : behindInMarks op r = false := by with_unfolding_all rfl) : AT C sc n (.Compare l [op] [r] pos) lo st Q := fun env A s hA S => by
  refine wpAny_isTrue_Compare1 (h.use hA S fun va s1 a st1 h1 ra S1 x1 e1 => h1.use hA S1 fun vb s2 b st2 h2 rb S2 x2 e2 => ?_) hm
  refine wpAny_mono (h2 A s2 va vb hA S2.toStC (ra.tk x2.kp) rb) (fun v s' p => ?_) fun _ _ f => f.el
  obtain ⟨_, st3, ⟨t, rfl, hQ⟩, hr, S3, x3, e3⟩ := p
  cases hr
  exact wpAny_truthy_bool ⟨st3, hQ, S2.evo S3 x3, (x1.trans x2).trans x3, (e1.trans e2).trans e3⟩
theorem AT_not {x : Expr} {pos : Pos} {Q : Bool → Store → Prop} (h : AT C sc n x lo st fun c st1 => Q (!c) st1) : AT C sc n (.UnaryOp .Not x pos) lo st Q := fun env A s hA S =>
  isTrue_not (h.use hA S fun c s1 st1 h1 S1 x1 e1 => ⟨st1, h1, S1, x1, e1⟩)
theorem AT_and2 {a b : Expr} {pos : Pos} {Q : Bool → Store → Prop} (h : AT C sc n a lo st fun c st1 => (c = true → AT C sc n b lo st1 Q) ∧ (c = false → Q false st1)) : AT C sc n (.BoolOp .And [a, b] pos) lo st Q := fun env A s hA S => by
  refine isTrue_and (h.use hA S fun c s1 st1 h1 S1 x1 e1 => ?_)
  cases c with
  | false => exact ⟨st1, h1.2 rfl, S1, x1, e1⟩
  | true =>
    refine isTrue_and ((h1.1 rfl).use hA S1 fun c s2 st2 h2 S2 x2 e2 => ?_)
    cases c with
    | false => exact ⟨st2, h2, S2, x1.trans x2, e1.trans e2⟩
    | true => exact isTrue_and_nil ⟨st2, h2, S2, x1.trans x2, e1.trans e2⟩
theorem AT_or2 {a b : Expr} {pos : Pos} {Q : Bool → Store → Prop} (h : AT C sc n a lo st fun c st1 => (c = false → AT C sc n b lo st1 Q) ∧ (c = true → Q true st1)) : AT C sc n (.BoolOp .Or [a, b] pos) lo st Q := fun env A s hA S => by
  refine isTrue_or (h.use hA S fun c s1 st1 h1 S1 x1 e1 => ?_)
  cases c with
  | true => exact ⟨st1, h1.2 rfl, S1, x1, e1⟩
  | false =>
    refine isTrue_or ((h1.1 rfl).use hA S1 fun c s2 st2 h2 S2 x2 e2 => ?_)
    cases c with
    | true => exact ⟨st2, h2, S2, x1.trans x2, e1.trans e2⟩
    | false => exact isTrue_or_nil ⟨st2, h2, S2, x1.trans x2, e1.trans e2⟩
theorem AT_or3 {a b c : Expr} {pos : Pos} {Q : Bool → Store → Prop} (h : AT C sc n a lo st fun t st1 => (t = false → AT C sc n (.BoolOp .Or [b, c] pos) lo st1 Q) ∧ (t = true → Q true st1)) : AT C sc n (.BoolOp .Or [a, b, c] pos) lo st Q := fun env A s hA S => by
  refine isTrue_or (h.use hA S fun t s1 st1 h1 S1 x1 e1 => ?_)
  cases t with
  | true => exact ⟨st1, h1.2 rfl, S1, x1, e1⟩
  | false => exact wpAny_mono ((h1.1 rfl) env A s1 hA S1) (fun b s' p => p.from x1 e1) fun _ _ f => f.el
/-- a call (or what else) whose value is a bool -/
theorem AT_val {e : Expr} {Q : Bool → Store → Prop} (h : AE C sc n e lo st fun v st1 => ∃ t, v = .bool t ∧ Q t st1)
    (he : ∀ env, isTrue e env (eval e env) = (do let v ← eval e env; standAt e.pos; holding [v] (truthy v)) := by intro _; rfl) : AT C sc n e lo st Q := fun env A s hA S => by
  refine isTrue_plain (h.use hA S fun va s1 a st1 h1 ra S1 x1 e1 => ?_) (he env)
  obtain ⟨t, rfl, hQ⟩ := h1
  cases ra
  exact wpAny_truthy_bool ⟨st1, hQ, S1, x1, e1⟩

/- displays -/
theorem AEs_nil {Q : List AV → Store → Prop} (h : Q [] st) : AEs C sc n [] lo st Q := fun env A s pos hA S => spliced_nil ⟨[], st, h, .nil, S, .refl, .refl _⟩
theorem AEs_cons {e : Expr} {es : List Expr} {Q : List AV → Store → Prop} (h : AE C sc n e lo st fun d st1 => AEs C sc n es lo st1 fun ds st2 => Q (d :: ds) st2)
    (he : ∀ env, starEach (e :: es) env = (false, eval e env) :: starEach es env := by intro _; rfl) : AEs C sc n (e :: es) lo st Q := fun env A s pos hA S => by
  rw [he]
  refine spliced_cons (h.use hA S fun v s1 d st1 h1 r1 S1 x1 e1 => h1.use hA S1 fun vs s2 ds st2 h2 r2 S2 x2 e2 => ?_)
  exact ⟨d :: ds, st2, h2, .cons (r1.tk x2.kp) r2, S2, x1.trans x2, e1.trans e2⟩
theorem AE_tuple {es : List Expr} {k : Nat} {pos : Pos} {Q : AV → Store → Prop} (h : AEs C sc n es lo st fun ds st1 => ds.length ≤ 1000 ∧ Q (.tup ds) st1) : AE C sc n (.Tuple es k pos) lo st Q := fun env A s hA S => by
  refine Tuple_ (h.use hA S fun vs s1 ds st1 h1 r1 S1 x1 e1 => ?_)
  have hl := r1.length
  refine wpAny_newObj_type ?_ (by show vs.toArray.size ≤ sizeLine; rw [List.size_toArray, hl]; have := h1.1; unfold sizeLine; omega)
  have up : ∀ b o, s1.heap.get? b = some o → (s1.heap.push { cls := .type "tuple", data := .seq vs.toArray }).get? b = some o := fun b o e => Heap.get?_push_of_some _ e
  exact ⟨.tup ds, st1, h1.2, .tup (IsTup.new _ _) (S1.toStC.none (size_none _)) (r1.tk (.grow up)), S1.evo (S1.toStC.grow up) (.grow up), x1.trans (.grow up), e1.trans ⟨_, _, rfl⟩⟩
theorem AE_list {es : List Expr} {pos : Pos} {Q : AV → Store → Prop} (h : AEs C sc n es lo st fun ds st1 => ds.length ≤ 1000 ∧ ∀ a, st1 a = Option.none → Q (.ref a) (upd st1 a (.list ds))) : AE C sc n (.List es pos) lo st Q := fun env A s hA S => by
  refine List_ (h.use hA S fun vs s1 ds st1 h1 r1 S1 x1 e1 => ?_)
  have hl := r1.length
  refine wpAny_newObj_type ?_ (by show vs.toArray.size ≤ sizeLine; rw [List.size_toArray, hl]; have := h1.1; unfold sizeLine; omega)
  have up : ∀ b o, s1.heap.get? b = some o → (s1.heap.push { cls := .type "list", data := .seq vs.toArray }).get? b = some o := fun b o e => Heap.get?_push_of_some _ e
  have hn := size_none s1.heap
  have S2 := S1.toStC.new hn up (o := .list ds) ⟨vs, ⟨_, Heap.get?_push_size _ rfl⟩, r1.tk (Evo.new hn up).kp⟩
  exact ⟨.ref _, _, h1.2 _ (S1.toStC.none hn), .ref _, S1.evo S2 (.new hn up), x1.trans (.new hn up), e1.trans ⟨_, _, rfl⟩⟩
/-- a list that no one will turn -/
theorem AE_lst {es : List Expr} {pos : Pos} {Q : AV → Store → Prop} (h : AEs C sc n es lo st fun ds st1 => ds.length ≤ 1000 ∧ Q (.lst ds) st1) : AE C sc n (.List es pos) lo st Q := fun env A s hA S => by
  refine List_ (h.use hA S fun vs s1 ds st1 h1 r1 S1 x1 e1 => ?_)
  have hl := r1.length
  refine wpAny_newObj_type ?_ (by show vs.toArray.size ≤ sizeLine; rw [List.size_toArray, hl]; have := h1.1; unfold sizeLine; omega)
  have up : ∀ b o, s1.heap.get? b = some o → (s1.heap.push { cls := .type "list", data := .seq vs.toArray }).get? b = some o := fun b o e => Heap.get?_push_of_some _ e
  exact ⟨.lst ds, st1, h1.2, .lst ⟨_, Heap.get?_push_size _ rfl, rfl, _, rfl⟩ (S1.toStC.none (size_none _)) (r1.tk (.grow up)), S1.evo (S1.toStC.grow up) (.grow up), x1.trans (.grow up), e1.trans ⟨_, _, rfl⟩⟩
/-- a list of the store is turned no more -/
theorem AE_freeze {e : Expr} {Q : AV → Store → Prop} (h : AE C sc n e lo st fun d st1 => ∃ a ds, d = .ref a ∧ st1 a = some (.list ds) ∧ Q (.lst ds) (del st1 a)) : AE C sc n e lo st Q := fun env A s hA S => by
  refine h.use hA S fun v s1 d st1 h1 r1 S1 x1 e1 => ?_
  obtain ⟨a, ds, rfl, ha, hQ⟩ := h1
  cases r1
  obtain ⟨vs, hl, hr⟩ := S1.objs a _ ha
  have hw : ∀ b o, del st1 a b = some o → st1 b = some o := del_le
  exact ⟨.lst ds, _, hQ, .lst hl.isList (by simp [del]) (hr.tk (.weak hw)), S1.weak hw, x1.weak hw, e1⟩
end
end
section
inductive AFl where
  | next | brk | cont
  | ret (d : AV)
inductive RepF (h : Heap) (st : Store) : Flow → AFl → Prop
  | next : RepF h st .next .next
  | brk : RepF h st .brk .brk
  | cont : RepF h st .cont .cont
  | ret {v : Value} {d : AV} : Rep h st v d → RepF h st (.ret v) (.ret d)

def EvoX (env : Env) (st : Store) (h : Heap) (st' : Store) (h' : Heap) : Prop := ∀ b o, ¬ Own env b → st b = Option.none → h.get? b = some o → h'.get? b = some o ∧ st' b = Option.none
theorem EvoX.refl {env : Env} {st : Store} {h : Heap} : EvoX env st h st h := fun _ _ _ a e => ⟨e, a⟩
theorem EvoX.trans {env : Env} {st st' st'' : Store} {h h' h'' : Heap} (x : EvoX env st h st' h') (y : EvoX env st' h' st'' h'') : EvoX env st h st'' h'' := fun b o n a e =>
  let ⟨e', a'⟩ := x b o n a e
  y b o n a' e'
theorem Evo.toX {env : Env} {st st' : Store} {h h' : Heap} (x : Evo st h st' h') : EvoX env st h st' h' := fun b o _ a e => x b o a e

theorem StE.ownNot {B : Heap} {sc : Scope} {env : Env} {h : Heap} {lo : Loc} {st : Store} (S : StE B sc env h lo st) {b : Addr} (ho : Has env b) {o : Obj} (hg : h.get? b = some o) (hd : Quiet o) : False := by
  rcases ho with rfl | ⟨x, hx⟩
  · obtain ⟨m, ⟨o', es, ep, hg', hd', _⟩, _⟩ := S.r.ns
    rw [hg] at hg'; cases hg'; rcases hd with ⟨_, _, hd⟩ | ⟨_, _, hd⟩ <;> (rw [hd] at hd'; cases hd')
  · obtain ⟨v, o', hg', hd'⟩ := S.r.cells x b hx
    rw [hg] at hg'; cases hg'; rcases hd with ⟨_, _, hd⟩ | ⟨_, _, hd⟩ <;> (rw [hd] at hd'; cases hd')
theorem StE.kpX {B : Heap} {sc : Scope} {env : Env} {h h' : Heap} {lo : Loc} {st st' : Store} (S : StE B sc env h lo st) (x : EvoX env st h st' h') : Kp h st h' st' := fun b o e d q =>
  x b o (fun ho => S.ownNot ho.has e d) q e

section
variable (C : Cx) (sc : Scope) (n : Nat)
def PX (env : Env) (st : Store) (s : Shared) (Q : AFl → Loc → Store → Prop) : Flow → Shared → Prop := fun f s' => ∃ f' lo' st', Q f' lo' st' ∧ RepF s'.heap st' f f' ∧ StE C.B sc env s'.heap lo' st' ∧ EvoX env st s.heap st' s'.heap ∧ Same s s'
def AX (ss : List Stmt) (lo : Loc) (st : Store) (Q : AFl → Loc → Store → Prop) : Prop :=
  ∀ env A s, Room n A → StE C.B sc env s.heap lo st → wpAny (model C.prog C.w) A (execs ss env) (PX C sc env st s Q) No s
def AS (t : Stmt) (lo : Loc) (st : Store) (Q : AFl → Loc → Store → Prop) : Prop :=
  ∀ env A s, Room n A → StE C.B sc env s.heap lo st → wpAny (model C.prog C.w) A (exec t env) (PX C sc env st s Q) No s
/-- a target takes a value -/
def AAs (t : Expr) (lo : Loc) (st : Store) (d : AV) (lo' : Loc) : Prop :=
  ∀ env A s v (P : Unit → Shared → Prop) (E : Value → Shared → Prop), Room n A → StE C.B sc env s.heap lo st → Rep s.heap st v d →
    (∀ s', StE C.B sc env s'.heap lo' st → EvoX env st s.heap st s'.heap → Same s s' → P () s') → wpAny (model C.prog C.w) A (assign t env v) P E s
end

section
variable {C : Cx} {sc : Scope} {n : Nat} {env : Env} {A : Around} {s : Shared} {lo : Loc} {st : Store} {E : Value → Shared → Prop}

theorem PX.from {s₀ : Shared} {st₀ : Store} {Q : AFl → Loc → Store → Prop} {f : Flow} {s' : Shared} (x : EvoX env st₀ s₀.heap st s.heap) (e : Same s₀ s) (p : PX C sc env st s Q f s') : PX C sc env st₀ s₀ Q f s' := by
  obtain ⟨f', lo', st', hQ, hr, hS, hx, hs⟩ := p
  exact ⟨f', lo', st', hQ, hr, hS, x.trans hx, e.trans hs⟩
theorem AX.use {ss : List Stmt} {Q : AFl → Loc → Store → Prop} {P : Flow → Shared → Prop} (h : AX C sc n ss lo st Q) (hA : Room n A) (S : StE C.B sc env s.heap lo st)
    (k : ∀ f s' f' lo' st', Q f' lo' st' → RepF s'.heap st' f f' → StE C.B sc env s'.heap lo' st' → EvoX env st s.heap st' s'.heap → Same s s' → P f s') : wpAny (model C.prog C.w) A (execs ss env) P E s :=
  wpAny_mono (h env A s hA S) (fun f s' ⟨f', lo', st', hQ, hr, hS, hx, hs⟩ => k f s' f' lo' st' hQ hr hS hx hs) fun _ _ f => f.el
theorem AS.use {t : Stmt} {Q : AFl → Loc → Store → Prop} {P : Flow → Shared → Prop} (h : AS C sc n t lo st Q) (hA : Room n A) (S : StE C.B sc env s.heap lo st)
    (k : ∀ f s' f' lo' st', Q f' lo' st' → RepF s'.heap st' f f' → StE C.B sc env s'.heap lo' st' → EvoX env st s.heap st' s'.heap → Same s s' → P f s') : wpAny (model C.prog C.w) A (exec t env) P E s :=
  wpAny_mono (h env A s hA S) (fun f s' ⟨f', lo', st', hQ, hr, hS, hx, hs⟩ => k f s' f' lo' st' hQ hr hS hx hs) fun _ _ f => f.el
theorem AX.mono {ss : List Stmt} {Q Q' : AFl → Loc → Store → Prop} (h : AX C sc n ss lo st Q) (k : ∀ f lo' st', Q f lo' st' → Q' f lo' st') : AX C sc n ss lo st Q' := fun env A s hA S =>
  h.use hA S fun f s' f' lo' st' hQ hr hS hx hs => ⟨f', lo', st', k _ _ _ hQ, hr, hS, hx, hs⟩

theorem AX_nil {Q : AFl → Loc → Store → Prop} (h : Q .next lo st) : AX C sc n [] lo st Q := fun env A s hA S => wpAny_execs_nil ⟨.next, lo, st, h, .next, S, .refl, .refl _⟩
def AFl.go (f : AFl) (P : Prop) (R : Prop) : Prop := match f with
  | .next => P
  | _ => R
theorem AX_cons {t : Stmt} {ss : List Stmt} {Q : AFl → Loc → Store → Prop} (h : AS C sc n t lo st fun f lo' st' => f.go (AX C sc n ss lo' st' Q) (Q f lo' st')) : AX C sc n (t :: ss) lo st Q := fun env A s hA S => by
  refine wpAny_execs_cons (h.use hA S fun f s1 f' lo1 st1 h1 r1 S1 x1 e1 => ?_)
  cases r1 with
  | next => exact AX.use h1 hA S1 fun f s' f' lo' st' hQ hr hS hx hs => ⟨f', lo', st', hQ, hr, hS, x1.trans hx, e1.trans hs⟩
  | brk => exact ⟨_, lo1, st1, h1, .brk, S1, x1, e1⟩
  | cont => exact ⟨_, lo1, st1, h1, .cont, S1, x1, e1⟩
  | ret hr => exact ⟨_, lo1, st1, h1, .ret hr, S1, x1, e1⟩
theorem AX_last {t : Stmt} {Q : AFl → Loc → Store → Prop} (h : AS C sc n t lo st Q) : AX C sc n [t] lo st Q := AX_cons fun env A s hA S =>
  h.use hA S fun f s' f' lo' st' hQ hr hS hx hs => ⟨f', lo', st', by
    cases f' <;> first | exact hQ | exact AX_nil hQ, hr, hS, hx, hs⟩

theorem AS_ret {e : Expr} {pos : Pos} {Q : AFl → Loc → Store → Prop} (h : AE C sc n e lo st fun d st' => Q (.ret d) lo st') : AS C sc n (.Return (some e) pos) lo st Q := fun env A s hA S =>
  wpAny_Return_some (h.use hA S fun v s1 d st1 h1 r1 S1 x1 e1 => ⟨_, lo, st1, h1, .ret r1, S1, x1.toX, e1⟩)
theorem AS_if {t : Expr} {a b : List Stmt} {pos : Pos} {Q : AFl → Loc → Store → Prop}
    (h : AT C sc n t lo st fun c st1 => (c = true → AX C sc n a lo st1 Q) ∧ (c = false → AX C sc n b lo st1 Q)) : AS C sc n (.If t a b pos) lo st Q := fun env A s hA S => by
  refine wpAny_If (h.use hA S fun c s1 st1 h1 S1 x1 e1 => ?_)
  cases c with
  | true => exact (h1.1 rfl).use hA S1 fun f s' f' lo' st' hQ hr hS hx hs => ⟨f', lo', st', hQ, hr, hS, x1.toX.trans hx, e1.trans hs⟩
  | false => exact (h1.2 rfl).use hA S1 fun f s' f' lo' st' hQ hr hS hx hs => ⟨f', lo', st', hQ, hr, hS, x1.toX.trans hx, e1.trans hs⟩
theorem AS_expr {e : Expr} {pos : Pos} {Q : AFl → Loc → Store → Prop} (h : AE C sc n e lo st fun d st' => d = .none ∧ Q .next lo st')
    (hs : ∀ env, swapsWith e none pos.line env = pure false := by intro _; rfl) : AS C sc n (.Expr e pos) lo st Q := fun env A s hA S => by
  refine wpAny_Expr (h.use hA S fun v s1 d st1 h1 r1 S1 x1 e1 => ?_) ?_ (hs env)
  · obtain ⟨rfl, hQ⟩ := h1
    cases r1
    exact ⟨_, lo, st1, hQ, .next, S1, x1.toX, e1⟩
  · unfold interactive
    rw [S.s.scope, S.s.kind]
    rfl

theorem AX_freeze {ss : List Stmt} {Q : AFl → Loc → Store → Prop} {a : Addr} {ds : List AV} (x : Str) (ha : st a = some (.list ds)) (hx : lo x = some (.ref a))
    (h : AX C sc n ss (put lo x (.lst ds)) (del st a) Q) : AX C sc n ss lo st Q := fun env A s hA S => by
  obtain ⟨vs, hl, hr⟩ := S.objs a _ ha
  have hw : ∀ b o, del st a b = some o → st b = some o := del_le
  have S₁ := S.weak hw
  have rl : Rep s.heap (del st a) (.ref a) (.lst ds) := .lst hl.isList (by simp [del]) (hr.tk (.weak hw))
  have S₂ : StE C.B sc env s.heap (put lo x (.lst ds)) (del st a) := by
    refine { toStC := S₁.toStC, s := S₁.s, own := S₁.own, r := ?_ }
    obtain ⟨m, hn, hm⟩ := S₁.r.ns
    refine ⟨⟨m, hn, fun y d hy hk => ?_⟩, fun y d hy hk => ?_, S₁.r.cells⟩
    · by_cases e : y = x
      · subst e
        simp only [put, if_true, Option.some.injEq] at hy; subst hy
        obtain ⟨v, hv, hrv⟩ := hm y _ hx hk
        cases hrv
        exact ⟨_, hv, rl⟩
      · simp only [put, e, if_false] at hy
        exact hm y d hy hk
    · by_cases e : y = x
      · subst e
        simp only [put, if_true, Option.some.injEq] at hy; subst hy
        obtain ⟨c, v, hc, hv, hrv⟩ := S₁.r.cell y _ hx hk
        cases hrv
        exact ⟨c, _, hc, hv, rl⟩
      · simp only [put, e, if_false] at hy
        exact S₁.r.cell y d hy hk
  refine h.use hA S₂ fun f s' f' lo' st' hQ hr hS hx hs => ⟨f', lo', st', hQ, hr, hS, fun b o hb hn e => ?_, hs⟩
  exact hx b o hb (none_of_le (hw b) hn) e

/- stores -/
def isSto (sc : Scope) (x : Str) : Bool := match sc.names.lookup x with
  | some .local => true
  | some .cell => isFn sc
  | _ => false
theorem store_use {x : Str} {v : Value} {d : AV} {P : Unit → Shared → Prop} (S : StE C.B sc env s.heap lo st) (hr : Rep s.heap st v d) (hk : isSto sc x = true)
    (k : ∀ s', StE C.B sc env s'.heap (put lo x d) st → EvoX env st s.heap st s'.heap → Same s s' → P () s') : wpAny (model C.prog C.w) A (storeName env x v) P E s := by
  have he := S.s.scope
  have hfun : env.scope.kind = .function := by rw [he]; exact S.s.kind
  have hko : env.kindOf x = sc.names.lookup x := by show env.scope.names.lookup x = _; rw [he]
  have fin : ∀ (a : Addr) (h' : Heap), Own env a → Heap.SameBut a s.heap h' → EnvR env h' (put lo x d) st → ∀ tk, StE C.B sc env h' (put lo x d) st ∧ EvoX env st s.heap st h' ∧ Same s { s with heap := h', toks := tk } := by
    intro a h' ha hs hE tk
    have up : ∀ b o, b ≠ a → s.heap.get? b = some o → h'.get? b = some o := fun b o hb e => (hs.2 b hb).trans e
    have tkp : Kp s.heap st h' st := fun b o e d q => ⟨up b o (by rintro rfl; exact S.ownNot ha.has e d) e, q⟩
    refine ⟨{ base := fun b o e => ?_, objs := fun b o e => ?_, fresh := S.fresh, s := S.s, r := hE, own := S.own }, fun b o hb h0 e => ⟨up b o (fun q => hb (q ▸ ha)) e, h0⟩, ⟨_, _, rfl⟩⟩
    · have hb : b ≠ a := by rintro rfl; rw [(S.own _ ha.has).2] at e; cases e
      exact up b o hb (S.base b o e)
    · have hb : b ≠ a := by rintro rfl; rw [(S.own _ ha.has).1] at e; cases e
      exact (S.objs b o e).at tkp fun x hx => up b x hb hx
  unfold isSto at hk
  rw [← hko] at hk
  split at hk
  rotate_left 2
  · cases hk
  · rename_i hl
    obtain ⟨m, hn, hm⟩ := S.r.ns
    refine wpAny_storeName_local hl hn (fun h' hn' hs' => ?_) (by rw [hfun]; rfl)
    have ha : Own env env.locals := .inl rfl
    have up : ∀ b o, b ≠ env.locals → s.heap.get? b = some o → h'.get? b = some o := fun b o hb e => (hs'.2 b hb).trans e
    have tkp : Kp s.heap st h' st := fun b o e d q => ⟨up b o (by rintro rfl; exact S.ownNot ha.has e d) e, q⟩
    have hE : EnvR env h' (put lo x d) st := by
      refine ⟨⟨_, hn', fun y d' hy hky => ?_⟩, fun y d' hy hky => ?_, fun y c hc => ?_⟩
      · by_cases hyx : y = x
        · subst hyx; simp only [put, if_true, Option.some.injEq] at hy; subst hy; exact ⟨v, by simp, hr.tk tkp⟩
        · simp only [put, hyx, if_false] at hy
          obtain ⟨u, hu, hru⟩ := hm y d' hy hky
          exact ⟨u, by simp [hyx, hu], hru.tk tkp⟩
      · by_cases hyx : y = x
        · subst hyx; exact absurd hl hky
        · simp only [put, hyx, if_false] at hy
          obtain ⟨c, u, hc, hu, hru⟩ := S.r.cell y d' hy hky
          exact ⟨c, u, hc, IsCell.at hu fun o e => up c o (S.s.cellsNe y c hc) e, hru.tk tkp⟩
      · obtain ⟨u, hu⟩ := S.r.cells y c hc
        exact ⟨u, IsCell.at hu fun o e => up c o (S.s.cellsNe y c hc) e⟩
    obtain ⟨a1, a2, a3⟩ := fin env.locals h' ha hs' hE (s.toks + 1)
    exact k _ a1 a2 a3
  · rename_i hl
    obtain ⟨c, hc⟩ := S.s.has x (by rw [← hko]; exact hl)
    obtain ⟨v₀, hv₀⟩ := S.r.cells x c hc
    refine wpAny_storeName_cell hfun hl hc hv₀ (fun h' hc' hs' => ?_)
    have ha : Own env c := .inr ⟨S.s.fn hk, x, hc⟩
    have hLc : c ≠ env.locals := S.s.cellsNe x c hc
    have up : ∀ b o, b ≠ c → s.heap.get? b = some o → h'.get? b = some o := fun b o hb e => (hs'.2 b hb).trans e
    have tkp : Kp s.heap st h' st := fun b o e d q => ⟨up b o (by rintro rfl; exact S.ownNot ha.has e d) e, q⟩
    obtain ⟨m, hn, hm⟩ := S.r.ns
    have hE : EnvR env h' (put lo x d) st := by
      refine ⟨⟨m, hn.sameBut hs' (Ne.symm hLc), fun y d' hy hky => ?_⟩, fun y d' hy hky => ?_, fun y c' hy => ?_⟩
      · by_cases hyx : y = x
        · subst hyx; rw [hl] at hky; cases hky
        · simp only [put, hyx, if_false] at hy
          obtain ⟨u, hu, hru⟩ := hm y d' hy hky
          exact ⟨u, hu, hru.tk tkp⟩
      · by_cases hyx : y = x
        · subst hyx; simp only [put, if_true, Option.some.injEq] at hy; subst hy; exact ⟨c, v, hc, hc', hr.tk tkp⟩
        · simp only [put, hyx, if_false] at hy
          obtain ⟨c', u, hcy, hu, hru⟩ := S.r.cell y d' hy hky
          have hne : c' ≠ c := by
            rintro rfl
            exact hyx (S.s.apart y x _ hcy hc)
          exact ⟨c', u, hcy, IsCell.at hu fun o e => up c' o hne e, hru.tk tkp⟩
      · by_cases hcc : c' = c
        · subst hcc; exact ⟨_, hc'⟩
        · obtain ⟨u, hu⟩ := S.r.cells y c' hy
          exact ⟨u, IsCell.at hu fun o e => up c' o hcc e⟩
    obtain ⟨a1, a2, a3⟩ := fin c h' ha hs' hE s.toks
    exact k _ a1 a2 a3

theorem AAs_name {x : Str} {pos : Pos} {d : AV} (hk : isSto sc x = true := by rfl) : AAs C sc n (.Name x pos) lo st d (put lo x d) := fun env A s v P E hA S hr k =>
  assign_Name (store_use S hr hk k)

theorem inOrder_nil {xs : List Value} {P : Unit → Shared → Prop} (S : StE C.B sc env s.heap lo st) (k : ∀ s', StE C.B sc env s'.heap lo st → EvoX env st s.heap st s'.heap → Same s s' → P () s') :
    wpAny (model C.prog C.w) A (assignInOrder [] xs) P E s := assignInOrder_nil (k s S .refl (.refl _))
theorem inOrder_cons {t : Value → Sem Unit} {ts : List (Value → Sem Unit)} {x : Str} {d : AV} {v : Value} {vs : List Value} {P : Unit → Shared → Prop} {lo' : Loc}
    (ht : ∀ A s P E, wpAny (model C.prog C.w) A (storeName env x v) P E s → wpAny (model C.prog C.w) A (t v) P E s)
    (hk : isSto sc x = true) (S : StE C.B sc env s.heap lo st) (hr : Rep s.heap st v d)
    (h : ∀ s₁, StE C.B sc env s₁.heap (put lo x d) st → Kp s.heap st s₁.heap st → (∀ s', StE C.B sc env s'.heap lo' st → EvoX env st s₁.heap st s'.heap → Same s₁ s' → P () s') → wpAny (model C.prog C.w) A (assignInOrder ts vs) P E s₁)
    (k : ∀ s', StE C.B sc env s'.heap lo' st → EvoX env st s.heap st s'.heap → Same s s' → P () s') :
    wpAny (model C.prog C.w) A (assignInOrder (t :: ts) (v :: vs)) P E s := by
  refine assignInOrder_cons (ht A s _ _ (store_use S hr hk fun s₁ S₁ x₁ e₁ => ?_))
  exact h s₁ S₁ (S.kpX x₁) fun s' S' x' e' => k s' S' (x₁.trans x') (e₁.trans e')

/-- unpacking a tuple -/
theorem unpack_use {elts : List Expr} {k : Nat} {pos : Pos} {v : Value} {ds : List AV} {P : Unit → Shared → Prop} (hA : Room n A) (S : StE C.B sc env s.heap lo st) (hr : Rep s.heap st v (.tup ds))
    (hn : (assignEach elts env).length = ds.length) (hstar : (assignEach elts env).findIdx? (·.1) = none)
    (h : ∀ s₁ vs, StE C.B sc env s₁.heap lo st → Reps s₁.heap st vs ds → Evo st s.heap st s₁.heap → Same s s₁ → wpAny (model C.prog C.w) A (assignInOrder ((assignEach elts env).map (·.2)) vs) P E s₁) :
    wpAny (model C.prog C.w) A (assign (.Tuple elts k pos) env v) P E s := by
  cases hr with
  | tup ht hta hv =>
    refine assign_Tuple_tuple hA.1 ht (by rw [hn, List.size_toArray, hv.length]) hstar fun h' he => ?_
    have up : ∀ b o, s.heap.get? b = some o → h'.get? b = some o := fun b o e => he b o (Nat.ne_of_lt (Heap.lt_size e)) e
    exact h _ _ (S.evo (S.toStC.grow up) (.grow up)) (hv.tk (.grow up)) (.grow up) ⟨_, _, rfl⟩

theorem AAs_pair {x y : Str} {px py pos : Pos} {k : Nat} {a b : AV} (hx : isSto sc x = true := by rfl) (hy : isSto sc y = true := by rfl) :
    AAs C sc n (.Tuple [.Name x px, .Name y py] k pos) lo st (.tup [a, b]) (put (put lo x a) y b) := fun env A s v P E hA S hr kk => by
  refine unpack_use hA S hr rfl rfl fun s₁ vs S₁ hv x₁ e₁ => ?_
  have kk' : ∀ s', StE C.B sc env s'.heap (put (put lo x a) y b) st → EvoX env st s₁.heap st s'.heap → Same s₁ s' → P () s' := fun s' S' x' e' => kk s' S' (x₁.toX.trans x') (e₁.trans e')
  cases hv with
  | cons ra hv => cases hv with
    | cons rb hv =>
      cases hv
      refine inOrder_cons (fun A s P E q => assign_Name q) hx S₁ ra (fun s₂ S₂ t₂ k₂ => ?_) kk'
      exact inOrder_cons (fun A s P E q => assign_Name q) hy S₂ (rb.tk t₂) (fun s₃ S₃ t₃ k₃ => inOrder_nil S₃ k₃) k₂
theorem AAs_triple {x y z : Str} {px py pz pos : Pos} {k : Nat} {a b c : AV} (hx : isSto sc x = true := by rfl) (hy : isSto sc y = true := by rfl) (hz : isSto sc z = true := by rfl) :
    AAs C sc n (.Tuple [.Name x px, .Name y py, .Name z pz] k pos) lo st (.tup [a, b, c]) (put (put (put lo x a) y b) z c) := fun env A s v P E hA S hr kk => by
  refine unpack_use hA S hr rfl rfl fun s₁ vs S₁ hv x₁ e₁ => ?_
  have kk' : ∀ s', StE C.B sc env s'.heap (put (put (put lo x a) y b) z c) st → EvoX env st s₁.heap st s'.heap → Same s₁ s' → P () s' := fun s' S' x' e' => kk s' S' (x₁.toX.trans x') (e₁.trans e')
  cases hv with
  | cons ra hv => cases hv with
    | cons rb hv => cases hv with
      | cons rc hv =>
        cases hv
        refine inOrder_cons (fun A s P E q => assign_Name q) hx S₁ ra (fun s₂ S₂ t₂ k₂ => ?_) kk'
        refine inOrder_cons (fun A s P E q => assign_Name q) hy S₂ (rb.tk t₂) (fun s₃ S₃ t₃ k₃ => ?_) k₂
        exact inOrder_cons (fun A s P E q => assign_Name q) hz S₃ ((rc.tk t₂).tk t₃) (fun s₄ S₄ t₄ k₄ => inOrder_nil S₄ k₄) k₃

theorem AS_assign {t e : Expr} {pos : Pos} {Q : AFl → Loc → Store → Prop} (h : AE C sc n e lo st fun d st' => ∃ lo', AAs C sc n t lo st' d lo' ∧ Q .next lo' st')
    (hs : ∀ env : Env, env.scope = sc → swapsWithSole [t] e pos.line env = pure false := by exact fun env he => by (cases env; cases he; rfl))
    (hw : ∀ env : Env, env.scope = sc → swappedStores [t] e env = pure none := by exact fun env he => by (cases env; cases he; rfl))
    (ha : ∀ env, (assignEach [t] env).map (·.2) = [assign t env] := by intro _; rfl) : AS C sc n (.Assign [t] e pos) lo st Q := fun env A s hA S => by
  rw [exec_Assign]
  refine wpAny_bind (wpAny_standAt ?_)
  rw [hs env S.s.scope]
  refine wpAny_bind (wpAny_pure ?_)
  rw [if_neg (by decide)]
  refine wpAny_bind (h.use hA S fun v s1 d st1 h1 r1 S1 x1 e1 => ?_)
  obtain ⟨lo', h2, hQ⟩ := h1
  rw [hw env S.s.scope, ha]
  refine wpAny_bind (wpAny_pure ?_)
  show wpAny (model C.prog C.w) A (do assignAll v [assign t env]; pure Flow.next) (PX C sc env st s Q) No s1
  refine wpAny_bind (h2 env A s1 v _ _ hA S1 r1 fun s2 S2 x2 e2 => wpAny_pure ?_)
  exact ⟨.next, lo', st1, hQ, .next, S2, x1.toX.trans x2, e1.trans e2⟩

theorem unpackItems_len {t : Addr} {items : Array Value} {k : Nat} {Q : List Value → Shared → Prop} (hh : A.handled = none) (ht : IsTup s.heap t items) (hk : k = items.size)
    (hQ : ∀ h', Heap.ExtBut s.heap.objs.size s.heap h' → Q items.toList { s with heap := h' }) : wpAny (model C.prog C.w) A (unpackItems (.ref t) k none) Q E s := by
  subst hk
  exact unpackItems_tuple hh ht hQ
/-- x, y = a, b by the exchange of the stores -/
theorem AS_swap2 {es : List Expr} {k : Nat} {tpos pos : Pos} {e : Expr} {x y : Str} {Q : AFl → Loc → Store → Prop} (h : AE C sc n e lo st fun d st' => ∃ a b, d = .tup [a, b] ∧ Q .next (put (put lo y b) x a) st')
    (hs : ∀ env : Env, env.scope = sc → swapsWithSole [.Tuple es k tpos] e pos.line env = pure false := by exact fun env he => by (cases env; cases he; rfl))
    (hw : ∀ env : Env, env.scope = sc → swappedStores [.Tuple es k tpos] e env = pure (some [x, y]) := by exact fun env he => by (cases env; cases he; rfl))
    (hx : isSto sc x = true := by rfl) (hy : isSto sc y = true := by rfl) : AS C sc n (.Assign [.Tuple es k tpos] e pos) lo st Q := fun env A s hA S => by
  refine Assign_Tuple_swapped (names := [x, y]) (h.use hA S fun v s1 d st1 h1 r1 S1 x1 e1 => ?_) (hs env S.s.scope) (hw env S.s.scope)
  obtain ⟨a, b, rfl, hQ⟩ := h1
  cases r1 with
  | tup ht hta hv =>
    cases hv with
    | cons ra hv => cases hv with
      | cons rb hv =>
        cases hv
        refine unpackItems_len hA.1 ht rfl fun h' he => ?_
        have up : ∀ b o, s1.heap.get? b = some o → h'.get? b = some o := fun b o e => he b o (Nat.ne_of_lt (Heap.lt_size e)) e
        have tk : Kp s1.heap st1 h' st1 := .grow up
        have S2 : StE C.B sc env ({ s1 with heap := h' } : Shared).heap lo st1 := S1.evo (S1.toStC.grow up) (.grow up)
        refine inOrder_cons (s := { s1 with heap := h' }) (fun A s P E q => bindName_ q) hy S2 (rb.tk tk) (fun s₃ S₃ t₃ k₃ => ?_) (lo' := put (put lo y b) x a) fun s' S' x' e' => ?_
        · exact inOrder_cons (fun A s P E q => bindName_ q) hx S₃ ((ra.tk tk).tk t₃) (fun s₄ S₄ t₄ k₄ => inOrder_nil S₄ k₄) k₃
        · exact ⟨.next, _, st1, hQ, .next, S', (x1.trans (.grow up)).toX.trans x', (e1.trans ⟨_, _, rfl⟩).trans e'⟩
theorem AS_swap3 {es : List Expr} {k : Nat} {tpos pos : Pos} {e : Expr} {x y z : Str} {Q : AFl → Loc → Store → Prop} (h : AE C sc n e lo st fun d st' => ∃ a b c, d = .tup [a, b, c] ∧ Q .next (put (put (put lo z c) y b) x a) st')
    (hs : ∀ env : Env, env.scope = sc → swapsWithSole [.Tuple es k tpos] e pos.line env = pure false := by exact fun env he => by (cases env; cases he; rfl))
    (hw : ∀ env : Env, env.scope = sc → swappedStores [.Tuple es k tpos] e env = pure (some [x, y, z]) := by exact fun env he => by (cases env; cases he; rfl))
    (hx : isSto sc x = true := by rfl) (hy : isSto sc y = true := by rfl) (hz : isSto sc z = true := by rfl) : AS C sc n (.Assign [.Tuple es k tpos] e pos) lo st Q := fun env A s hA S => by
  refine Assign_Tuple_swapped (names := [x, y, z]) (h.use hA S fun v s1 d st1 h1 r1 S1 x1 e1 => ?_) (hs env S.s.scope) (hw env S.s.scope)
  obtain ⟨a, b, c, rfl, hQ⟩ := h1
  cases r1 with
  | tup ht hta hv =>
    cases hv with
    | cons ra hv => cases hv with
      | cons rb hv => cases hv with
        | cons rc hv =>
          cases hv
          refine unpackItems_len hA.1 ht rfl fun h' he => ?_
          have up : ∀ b o, s1.heap.get? b = some o → h'.get? b = some o := fun b o e => he b o (Nat.ne_of_lt (Heap.lt_size e)) e
          have tk : Kp s1.heap st1 h' st1 := .grow up
          have S2 : StE C.B sc env ({ s1 with heap := h' } : Shared).heap lo st1 := S1.evo (S1.toStC.grow up) (.grow up)
          refine inOrder_cons (s := { s1 with heap := h' }) (fun A s P E q => bindName_ q) hz S2 (rc.tk tk) (fun s₃ S₃ t₃ k₃ => ?_) (lo' := put (put (put lo z c) y b) x a) fun s' S' x' e' => ?_
          · refine inOrder_cons (fun A s P E q => bindName_ q) hy S₃ ((rb.tk tk).tk t₃) (fun s₄ S₄ t₄ k₄ => ?_) k₃
            exact inOrder_cons (fun A s P E q => bindName_ q) hx S₄ (((ra.tk tk).tk t₃).tk t₄) (fun s₅ S₅ t₅ k₅ => inOrder_nil S₅ k₅) k₄
          · exact ⟨.next, _, st1, hQ, .next, S', (x1.trans (.grow up)).toX.trans x', (e1.trans ⟨_, _, rfl⟩).trans e'⟩
end
end
section
/-- at f stands a def -/
structure FnOk (C : Cx) (f : Addr) (names : List Str) (body : List Stmt) (scope : Scope) (o : Obj) (fd : FuncData) : Prop where
  get : C.B.get? f = some o
  data : o.data = .func fd
  body : fd.body = .stmts body
  scope : fd.scope = scope
  clo : fd.closure = []
  globals : fd.globals = mainGlobals
  builtins : fd.builtins = builtinsNs
  code : C.B.CodeRec fd.code fd.qualname
  bind : ∀ vals : List Value, vals.length = names.length → bindArgs fd ⟨vals, []⟩ = pure (names.zip vals)

def loOf : List Str → List AV → Loc → Loc
  | x :: xs, d :: ds, lo => loOf xs ds (put lo x d)
  | _, _, lo => lo
def AFl.val : AFl → AV
  | .ret d => d
  | _ => .none

theorem bind_rep {h : Heap} {st : Store} {ko : Str → Option NameKind} : ∀ (xs : List Str) (vs : List Value) (ds : List AV) (lo : Loc) (m cm : Str → Option Value), Reps h st vs ds → xs.length = ds.length →
    (∀ y d, lo y = some d → (ko y = some .local → ∃ v, m y = some v ∧ Rep h st v d) ∧ (ko y ≠ some .local → ∃ v, cm y = some v ∧ Rep h st v d)) →
    ∀ y d, loOf xs ds lo y = some d → (ko y = some .local → ∃ v, bindL ko (xs.zip vs) m y = some v ∧ Rep h st v d) ∧ (ko y ≠ some .local → ∃ v, bindC ko (xs.zip vs) cm y = some v ∧ Rep h st v d)
  | [], _, _, lo, m, cm, hr, _, h0 => by intro y d hy; simpa [loOf, bindL, bindC] using h0 y d hy
  | x :: xs, vs, [], lo, m, cm, hr, hl, h0 => by cases hl
  | x :: xs, vs, d :: ds, lo, m, cm, hr, hl, h0 => by
    cases hr with
    | cons ra hr =>
      rename_i v vs
      show ∀ y d', loOf xs ds (put lo x d) y = some d' → (ko y = some .local → ∃ u, bindL ko (xs.zip vs) (if ko x = some .local then fun y => if y = x then some v else m y else m) y = some u ∧ Rep h st u d') ∧
        (ko y ≠ some .local → ∃ u, bindC ko (xs.zip vs) (if ko x = some .local then cm else fun y => if y = x then some v else cm y) y = some u ∧ Rep h st u d')
      refine bind_rep xs vs ds _ _ _ hr (by simpa using hl) fun y d' hy => ?_
      by_cases hx : y = x
      · subst hx
        simp only [put, if_true, Option.some.injEq] at hy
        subst hy
        exact ⟨fun hk => ⟨v, by simp [hk], ra⟩, fun hk => ⟨v, by simp [hk], ra⟩⟩
      · simp only [put, hx, if_false] at hy
        obtain ⟨a, b⟩ := h0 y d' hy
        refine ⟨fun hk => ?_, fun hk => ?_⟩
        · obtain ⟨u, hu, hr⟩ := a hk
          exact ⟨u, by split <;> simp [hx, hu], hr⟩
        · obtain ⟨u, hu, hr⟩ := b hk
          exact ⟨u, by split <;> simp [hx, hu], hr⟩

section
variable {C : Cx} {sc : Scope} {n : Nat} {env : Env} {A : Around} {s : Shared} {lo : Loc} {st : Store} {E : Value → Shared → Prop}

theorem ACall_def {f : Addr} {names : List Str} {body : List Stmt} {scope : Scope} {o : Obj} {fd : FuncData} {ds : List AV} {Q : AV → Store → Prop} (F : FnOk C f names body scope o fd)
    (h : AX C scope n body (loOf names ds fun _ => Option.none) st fun f _ st' => Q f.val st')
    (hlen : names.length = ds.length := by rfl) (hv : names.all (isSto scope) = true := by rfl)
    (hco : scope.isCoroutine = false := by rfl) (hgen : scope.isGenerator = false := by rfl) (hk : scope.kind = .function := by rfl) :
    ACall C (n + 1) (.ref f) ds st Q := fun A s vs hA S hr => by
  have up : ∀ b o, C.B.get? b = some o → s.heap.get? b = some o := S.base
  have hvl := hr.length
  have hko : ∀ y ∈ names.zip vs, fd.scope.names.lookup y.1 = some .local ∨ (fd.scope.names.lookup y.1 = some .cell ∧ ((cellsFrom (s.heap.objs.size + 1) fd.scope.names []).lookup y.1).isSome = true) := by
    intro y hy
    have hy1 : y.1 ∈ names := (List.of_mem_zip hy).1
    have hs := List.all_eq_true.mp hv y.1 hy1
    rw [F.scope]
    unfold isSto at hs
    split at hs
    · rename_i q; exact .inl q
    · rename_i q; exact .inr ⟨q, cellsFrom_some _ _ _ (.inl q)⟩
    · cases hs
  refine wpAny_call (codeAny_call_cells hA.depth (up _ _ F.get) F.data (C.nolimit.keeps up) (F.code.keeps up) F.body (F.bind vs (by rw [hvl, hlen])) F.clo hko (fun s₁ X => ?_) (by rw [F.scope]; exact hco) (by rw [F.scope]; exact hgen) (by rw [F.scope]; exact hk))
  have hL : (callEnvC fd s.heap.objs.size f).locals = s.heap.objs.size := rfl
  have hcl : (callEnvC fd s.heap.objs.size f).cells = cellsFrom (s.heap.objs.size + 1) fd.scope.names [] := rfl
  have hsc : (callEnvC fd s.heap.objs.size f).scope = scope := F.scope
  have keep := X.toInCall.keep
  have own : ∀ b, Has (callEnvC fd s.heap.objs.size f) b → s.heap.get? b = Option.none := by
    rintro b (rfl | ⟨x, hx⟩)
    · exact Heap.get?_none_of_le (Nat.le_refl _)
    · exact Heap.get?_none_of_le (Nat.le_of_lt (X.above x b (mem_of_lookup hx)))
  have tk : Kp s.heap st s₁.heap st := .grow keep
  have S₁ : StE C.B scope (callEnvC fd s.heap.objs.size f) s₁.heap (loOf names ds fun _ => Option.none) st := by
    refine { toStC := S.grow keep, s := ⟨hsc, hk, F.globals, F.builtins, fun x c hc => Nat.ne_of_gt (X.above x c (mem_of_lookup hc)), fun x y c hx hy => name_of_addr X.apart (mem_of_lookup hx) (mem_of_lookup hy), fun x hx => ?_, fun _ => rfl⟩, r := ?_, own := fun b hb => ⟨S.none (own b hb), S.bnone (own b hb)⟩ }
    · have q := cellsFrom_some scope.names (s.heap.objs.size + 1) [] (.inl hx)
      rw [hcl, F.scope]
      exact Option.isSome_iff_exists.mp q
    · have br := bind_rep (ko := (callEnvC fd s.heap.objs.size f).kindOf) names vs ds (fun _ => Option.none) (fun _ => Option.none) (fun _ => Option.none) (hr.tk tk) hlen fun y d hy => by cases hy
      refine ⟨⟨_, X.toInCall.ns, fun y d hy hky => (br y d hy).1 hky⟩, fun y d hy hky => ?_, fun x c hc => ⟨_, X.cell x c hc⟩⟩
      obtain ⟨v, hv', hrv⟩ := (br y d hy).2 hky
      -- y is a cell, for it is a parameter
      have hyn : y ∈ names := by
        by_cases hm : y ∈ names
        · exact hm
        · exfalso
          have : ∀ (xs : List Str) (ds : List AV) (lo : Loc), y ∉ xs → loOf xs ds lo y = lo y := by
            intro xs
            induction xs with
            | nil => intro ds lo _; rfl
            | cons x xs ih =>
              intro ds lo hn
              cases ds with
              | nil => rfl
              | cons d ds =>
                show loOf xs ds (put lo x d) y = lo y
                rw [ih ds _ (fun h => hn (List.mem_cons_of_mem _ h))]
                have : y ≠ x := fun e => hn (e ▸ List.mem_cons_self)
                simp [put, this]
          rw [this names ds _ hm] at hy
          cases hy
      have hs := List.all_eq_true.mp hv y hyn
      have hko' : (callEnvC fd s.heap.objs.size f).kindOf y = scope.names.lookup y := by show (callEnvC fd s.heap.objs.size f).scope.names.lookup y = _; rw [hsc]
      unfold isSto at hs
      split at hs
      · rename_i q; exact absurd (hko'.trans q) hky
      · rename_i q
        obtain ⟨c, hc⟩ := Option.isSome_iff_exists.mp (cellsFrom_some scope.names (s.heap.objs.size + 1) [] (.inl q))
        have hc' : (callEnvC fd s.heap.objs.size f).cells.lookup y = some c := by rw [hcl, F.scope]; exact hc
        exact ⟨c, v, hc', by have := X.cell y c hc'; rw [hv'] at this; exact this, hrv⟩
      · cases hs
  have e₁ : Same s s₁ := X.toInCall.same
  refine h.use hA.deeper S₁ fun fl s' f' lo' st' hQ hrf S' x' e' => ?_
  have ev : Evo st s.heap st' s'.heap := fun b o hb e => x' b o (fun ho => by rw [own b ho.has] at e; cases e) hb (keep b o e)
  cases hrf with
  | next => exact ⟨_, st', hQ, .none, S'.toStC, ev, e₁.trans e'⟩
  | brk => exact ⟨_, st', hQ, .none, S'.toStC, ev, e₁.trans e'⟩
  | cont => exact ⟨_, st', hQ, .none, S'.toStC, ev, e₁.trans e'⟩
  | ret hd => exact ⟨_, st', hQ, hd, S'.toStC, ev, e₁.trans e'⟩

/- names that the frame does not hold -/
def Res (C : Cx) (sc : Scope) (x : Str) (f : Value) : Prop := sc.names.lookup x = some .globalImplicit ∧ (C.mg x = some f ∨ (C.mg x = Option.none ∧ C.mb x = some f))
def Kept (C : Cx) (f : Value) : Prop := ∀ h : Heap, (∀ b o, C.B.get? b = some o → h.get? b = some o) → ∃ k, (k = Keeper.frame ∨ k = Keeper.machine ∨ k = Keeper.boundFrame) ∧ ∀ M, Looks M h (keeperOf f) k
theorem Kept.builtin {id : String} : Kept C (.builtin id) := fun h _ => ⟨.machine, .inr (.inl rfl), fun M => .now⟩
theorem Kept.type {id : String} : Kept C (.type id) := fun h _ => ⟨.machine, .inr (.inl rfl), fun M => .now⟩
theorem FnOk.kept {f : Addr} {names : List Str} {body : List Stmt} {scope : Scope} {o : Obj} {fd : FuncData} (F : FnOk C f names body scope o fd) : Kept C (.ref f) := fun h up => by
  refine ⟨.frame, .inl rfl, fun M => (Looks.ld (part := none) (up _ _ F.get)).andThen ?_⟩
  rw [F.data]
  exact .now

theorem load_res {x : Str} {f : Value} {Q : Value → Shared → Prop} (S : StE C.B sc env s.heap lo st) (R : Res C sc x f) (hQ : Q f s) : wpAny (model C.prog C.w) A (loadName env x) Q E s := by
  have he := S.s.scope
  have hfun : env.scope.kind = .function := by rw [he]; exact S.s.kind
  have hko : env.kindOf x = some .globalImplicit := by show env.scope.names.lookup x = _; rw [he]; exact R.1
  rw [loadName_read hfun hko]
  unfold loadGlobal
  have hg : s.heap.Ns env.globals C.mg := by rw [S.s.globals]; exact C.g.keeps S.base
  have hb : s.heap.Ns env.builtins C.mb := by rw [S.s.builtins]; exact C.b.keeps S.base
  refine wpAny_bind (wpAny_nsGet hg ?_)
  rcases R.2 with e | ⟨e, e'⟩
  · rw [e]; exact wpAny_pure hQ
  · rw [e]
    refine wpAny_bind (wpAny_nsGet hb ?_)
    rw [e']; exact wpAny_pure hQ

theorem AE_call {x : Str} {xp pos : Pos} {e : Expr} {es : List Expr} {f : Value} {Q : AV → Store → Prop} (R : Res C sc x f) (K : Kept C f)
    (h : AEs C sc n (e :: es) lo st fun ds st1 => ACall C n f ds st1 Q)
    (he : ∀ env, starEach (e :: es) env = (false, eval e env) :: starEach es env := by intro _; rfl) (hplain : ∀ env, (backTo pos (starEach es env)).any (·.1) = false := by intro _; rfl)
    (hd : (x == ("__debug__" : Str)) = false := by decide) : AE C sc n (.Call (.Name x xp) (e :: es) [] pos) lo st Q := fun env A s hA S => by
  show wpAny _ A (eval (.Name x xp) env >>= fun f => callWith pos f [] (backTo pos (starEach (e :: es) env)) []) _ _ s
  refine wpAny_bind (wpAny_Name (load_res S R ?_) hd)
  have h' := h.use (pos := pos) (env := env) (A := A) (s := s) (P := fun vs s₁ => (∀ b o, C.B.get? b = some o → s₁.heap.get? b = some o) ∧ wpAny (model C.prog C.w) A (call f ([] ++ vs)) (PE C sc env lo st s Q) No s₁) (E := No) hA S fun vs s1 ds st1 h1 r1 S1 x1 e1 =>
    ⟨S1.base, wpAny_mono (h1 A s1 vs hA S1.toStC r1) (fun v s' p => p.toPE S1 x1 e1) fun _ _ f => f⟩
  rw [he] at h' ⊢
  refine callWith_of (P := fun h => ∀ b o, C.B.get? b = some o → h.get? b = some o) ?_ (fun h hP => ?_) (evalArgs_plain h')
  · show ((false || (backTo pos (starEach es env)).any (·.1)) || false) = false
    rw [hplain]; rfl
  · obtain ⟨k, hk, L⟩ := K h hP
    exact ⟨k, hk, L _⟩
end
end
section
/-- an iterator that hands on no tuple of its own -/
def Tame (h : Heap) (I : Addr) : Prop := ∃ o n, h.get? I = some o ∧ o.cls = .type n ∧ (["enumerate", "zip", "dict_itemiterator", "dict_reverseitemiterator", "odict_iterator", "itertools.zip_longest", "itertools.pairwise"].contains n) = false
theorem letGo_tame {prog : Program} {w : World} {A : Around} {E : Value → Shared → Prop} {s : Shared} {t : Expr} {I : Addr} {v : Value} {Q : Unit → Shared → Prop} (h : Tame s.heap I) (hQ : Q () s) : wpAny (model prog w) A (letOwnedTupleGo t (.ref I) v) Q E s := by
  obtain ⟨o, n, ho, hc, hn⟩ := h
  have main : wpAny (model prog w) A (do
      let (.ref r, .ref a) := ((Value.ref I), v) | return
      let o ← load r
      match o.cls, o.data with
      | .type n, .fields vs =>
        if ["enumerate", "zip", "dict_itemiterator", "dict_reverseitemiterator", "odict_iterator", "itertools.zip_longest", "itertools.pairwise"].contains n && vs[0]? == some (rawInt a) then
          rule "for.unpacks-the-owned-tuple"
          updateField r 0 .none
      | _, _ => pure ()) Q E s := by
    split
    · rename_i r a e
      cases e
      refine wpAny_bind (wpAny_load ho ?_)
      rw [hc]
      split
      · rename_i m vs e1 e2
        cases e1
        rw [hn, Bool.false_and, if_neg (by decide)]
        exact wpAny_pure hQ
      · exact wpAny_pure hQ
    · exact wpAny_pure hQ
  unfold letOwnedTupleGo
  split
  · exact main
  · exact main
  · exact wpAny_pure hQ

def TameI (h : Heap) (I : Addr) : Prop := Tame h I ∧ ∃ o, h.get? I = some o ∧ ¬ Quiet o
/-- an iterator over items, made behind s₀ -/
structure Itr (C : Cx) (A : Around) (env : Env) (st₀ st : Store) (h₀ h : Heap) (items : List AV) (it : Value) (I : Addr) (fp : List Addr) (P : Nat → Value → Prop) (Str : Nat → Heap → Prop) : Prop where
  is : it = .ref I
  walks : Walks C.prog C.w A I fp [I] items.length P Str
  start : Str 0 h
  foot : ∀ b ∈ fp, st b = Option.none ∧ ¬ Has env b ∧ ∃ o, h.get? b = some o
  new : ∀ o, st₀ I = Option.none → h₀.get? I = some o → False
  small : items.length ≤ sizeLine
  item : ∀ i v d, P i v → items[i]? = some d → Rep h st v d
  tame : ∀ i h', Str i h' → TameI h' I

section
variable (C : Cx) (sc : Scope) (n : Nat)
/-- an expression is iterated -/
def AIt (e : Expr) (lo : Loc) (st : Store) (K : List AV → Store → Prop) : Prop :=
  ∀ env A s, Room n A → StE C.B sc env s.heap lo st → wpAny (model C.prog C.w) A (eval e env) (fun x s₁ => wpAny (model C.prog C.w) A (pyIter x) (fun it s₂ =>
    ∃ items st' I fp P Str, K items st' ∧ Itr C A env st st' s.heap s₂.heap items it I fp P Str ∧ StE C.B sc env s₂.heap lo st' ∧ Evo st s.heap st' s₂.heap ∧ Same s s₂) No s₁) No s
end

section
variable {C : Cx} {sc : Scope} {n : Nat} {env : Env} {A : Around} {s : Shared} {lo : Loc} {st : Store} {E : Value → Shared → Prop}

theorem StE.ownHas {B : Heap} {h : Heap} (S : StE B sc env h lo st) {b : Addr} (ho : Has env b) : ∃ o, h.get? b = some o := by
  rcases ho with rfl | ⟨x, hx⟩
  · obtain ⟨m, ⟨o', es, ep, hg', hd', _⟩, _⟩ := S.r.ns
    exact ⟨_, hg'⟩
  · obtain ⟨v, o', hg', hd'⟩ := S.r.cells x b hx
    exact ⟨_, hg'⟩
theorem StE.ownNone {B : Heap} {h : Heap} (S : StE B sc env h lo st) {b : Addr} (e : h.get? b = Option.none) : ¬ Has env b := fun ho => by
  obtain ⟨o, h'⟩ := S.ownHas ho
  rw [e] at h'; cases h'
theorem Evo.newer {st st' : Store} {h h' : Heap} (x : Evo st h st' h') {a : Addr} (ha : h'.get? a = Option.none) : ∀ o, st a = Option.none → h.get? a = some o → False := fun o h0 e => by
  rw [(x a o h0 e).1] at ha; cases ha

theorem listIter_tame {h : Heap} {I l : Addr} {i : Nat} (x : h.IsListIter I l i) : TameI h I := by
  obtain ⟨o, ho, hc, hd⟩ := x
  refine ⟨⟨o, _, ho, hc, by decide⟩, o, ho, ?_⟩
  rintro (⟨_, _, q⟩ | ⟨q, _⟩)
  · rw [hd] at q; cases q
  · rw [hc] at q; exact absurd q (by simp)
theorem tupIter_tame {h : Heap} {I l : Addr} {i : Nat} (x : h.IsTupleIter I l i) : TameI h I := by
  obtain ⟨o, ho, hc, hd⟩ := x
  refine ⟨⟨o, _, ho, hc, by decide⟩, o, ho, ?_⟩
  rintro (⟨_, _, q⟩ | ⟨q, _⟩)
  · rw [hd] at q; cases q
  · rw [hc] at q; exact absurd q (by simp)
theorem rngIter_tame {h : Heap} {I : Addr} {x l c : Int} (y : IsRangeIter h I x l c) : TameI h I := by
  refine ⟨⟨_, _, y, rfl, by decide⟩, _, y, ?_⟩
  rintro (⟨_, _, q⟩ | ⟨q, _⟩)
  · cases q
  · exact absurd q (by simp)
theorem lt_ne {h : Heap} {a : Addr} {o : Obj} (e : h.get? a = some o) : a ≠ h.objs.size := Nat.ne_of_lt (Heap.lt_size e)

theorem AIt_seq {e : Expr} {K : List AV → Store → Prop} (h : AE C sc n e lo st fun d st' => ∃ ds, (d = .tup ds ∨ d = .lst ds) ∧ ds.length ≤ 10000 ∧ K ds st') : AIt C sc n e lo st K := fun env A s hA S => by
  refine h.use hA S fun v s1 d st1 h1 r1 S1 x1 e1 => ?_
  obtain ⟨ds, hd, hz, hK⟩ := h1
  have hsmall : ds.length ≤ sizeLine := by unfold sizeLine; omega
  rcases hd with rfl | rfl
  · cases r1 with
    | tup ht hta hv =>
      rename_i a vs
      have hx : s1.heap.get? a ≠ Option.none := by obtain ⟨o, ho, _⟩ := ht; rw [ho]; simp
      have hao : ∃ o, s1.heap.get? a = some o := by obtain ⟨o, ho, _⟩ := ht; exact ⟨o, ho⟩
      have hne : a ≠ s1.heap.objs.size := by obtain ⟨o, ho⟩ := hao; exact lt_ne ho
      have up : ∀ b o, s1.heap.get? b = some o → (s1.heap.push { cls := .type "tuple_iterator", data := .fields #[.ref a, .int 0 0] }).get? b = some o := fun b o e => Heap.get?_push_of_some _ e
      have ht' : s1.heap.IsTuple a vs.toArray := ht
      refine wpAny_pyIter_tuple ht' ?_
      have hlen : vs.toArray.size = ds.length := by rw [List.size_toArray, hv.length]
      have W := Walks.tuple (prog := C.prog) (w := C.w) hA.1 s1.heap.objs.size a hne vs.toArray
      rw [hlen] at W
      refine ⟨ds, st1, s1.heap.objs.size, _, _, _, hK, ⟨rfl, W, ⟨⟨_, Heap.get?_push_size _ rfl, rfl, rfl⟩, ht'.push _⟩, ?_, x1.newer (size_none _), hsmall, ?_, fun i h' q => tupIter_tame q.1⟩, S1.evo (S1.toStC.grow up) (.grow up), x1.trans (.grow up), e1.trans ⟨_, _, rfl⟩⟩
      · intro b hb
        rcases List.mem_cons.mp hb with rfl | hb
        · exact ⟨S1.toStC.none (size_none _), S1.ownNone (size_none _), _, Heap.get?_push_size _ rfl⟩
        · rw [List.mem_singleton.mp hb]
          obtain ⟨o, ho, hc, k, hd⟩ := ht
          refine ⟨hta, fun hown => ?_, o, up _ _ ho⟩
          exact S1.ownNot hown ho (.inl ⟨_, _, hd⟩)
      · intro i u d hP he
        obtain ⟨u', hu', hr'⟩ := hv.get he
        have : u' = u := by simpa [hu'] using hP
        subst this
        exact hr'.tk (.grow up)
  · cases r1 with
    | lst ht hta hv =>
      rename_i a vs
      have hao : ∃ o, s1.heap.get? a = some o := by obtain ⟨o, ho, _⟩ := ht; exact ⟨o, ho⟩
      have hne : a ≠ s1.heap.objs.size := by obtain ⟨o, ho⟩ := hao; exact lt_ne ho
      have up : ∀ b o, s1.heap.get? b = some o → (s1.heap.push { cls := .type "list_iterator", data := .fields #[.ref a, .int 0 0] }).get? b = some o := fun b o e => Heap.get?_push_of_some _ e
      refine wpAny_pyIter_list ht ?_
      have hlen : vs.toArray.size = ds.length := by rw [List.size_toArray, hv.length]
      have W := Walks.list (prog := C.prog) (w := C.w) hA.1 s1.heap.objs.size a hne vs.toArray
      rw [hlen] at W
      refine ⟨ds, st1, s1.heap.objs.size, _, _, _, hK, ⟨rfl, W, ⟨⟨_, Heap.get?_push_size _ rfl, rfl, rfl⟩, ht.push _⟩, ?_, x1.newer (size_none _), hsmall, ?_, fun i h' q => listIter_tame q.1⟩, S1.evo (S1.toStC.grow up) (.grow up), x1.trans (.grow up), e1.trans ⟨_, _, rfl⟩⟩
      · intro b hb
        rcases List.mem_cons.mp hb with rfl | hb
        · exact ⟨S1.toStC.none (size_none _), S1.ownNone (size_none _), _, Heap.get?_push_size _ rfl⟩
        · rw [List.mem_singleton.mp hb]
          obtain ⟨o, ho, hc, k, hd⟩ := ht
          refine ⟨hta, fun hown => ?_, o, up _ _ ho⟩
          exact S1.ownNot hown ho (.inl ⟨_, _, hd⟩)
      · intro i u d hP he
        obtain ⟨u', hu', hr'⟩ := hv.get he
        have : u' = u := by simpa [hu'] using hP
        subst this
        exact hr'.tk (.grow up)

theorem range_small {a b : Int} (h1 : -1000000 ≤ a) (h2 : a ≤ 1000000) (h3 : -1000000 ≤ b) (h4 : b ≤ 1000000) : Builtin.Range.small a b 1 = true := small_one (by omega) (by omega) (by omega) (by omega)
theorem rngSize (a b : Int) : Builtin.Range.rangeSize a b 1 = ((b - a).toNat : Int) := by
  rw [PySem.rangeSize_one]; split <;> omega
def intsFrom (a : Int) (k : Nat) : List AV := (List.range k).map fun i => .int (a + (i : Nat))
theorem intsFrom_get {a : Int} {k i : Nat} {d : AV} (h : (intsFrom a k)[i]? = some d) : d = .int (a + (i : Nat)) := by
  unfold intsFrom at h
  rw [List.getElem?_map] at h
  cases q : (List.range k)[i]? with
  | none => rw [q] at h; cases h
  | some j =>
    rw [q] at h
    obtain ⟨hi, hj⟩ := List.getElem?_eq_some_iff.mp q
    rw [List.getElem_range] at hj
    subst hj
    exact (Option.some.inj h).symm
theorem intsFrom_length {a : Int} {k : Nat} : (intsFrom a k).length = k := by simp [intsFrom]
theorem AIt_rng {e : Expr} {K : List AV → Store → Prop} (h : AE C sc n e lo st fun d st' => ∃ a b, d = .rng a b ∧ (-1000 ≤ a ∧ a ≤ 1000 ∧ -1000 ≤ b ∧ b ≤ 1000) ∧ K (intsFrom a (b - a).toNat) st') : AIt C sc n e lo st K := fun env A s hA S => by
  refine h.use hA S fun v s1 d st1 h1 r1 S1 x1 e1 => ?_
  obtain ⟨a, b, rfl, ⟨b1, b2, b3, b4⟩, hK⟩ := h1
  cases r1 with
  | rng hr hta =>
    refine wpAny_pyIter_range hr (range_small (by omega) (by omega) (by omega) (by omega)) ?_
    rw [rngSize]
    have up : ∀ c o, s1.heap.get? c = some o → (s1.heap.push { cls := .type "range_iterator", data := .fields #[rawInt a, rawInt ((b - a).toNat : Int), rawInt 1] }).get? c = some o := fun b o e => Heap.get?_push_of_some _ e
    have W := Walks.range (prog := C.prog) (w := C.w) hA.1 s1.heap.objs.size a 1 (b - a).toNat
    rw [← intsFrom_length (a := a) (k := (b - a).toNat)] at W
    refine ⟨_, st1, s1.heap.objs.size, _, _, _, hK, ⟨rfl, W, ?_, ?_, x1.newer (size_none _), ?_, ?_, fun i h' q => rngIter_tame q⟩, S1.evo (S1.toStC.grow up) (.grow up), x1.trans (.grow up), e1.trans ⟨_, _, rfl⟩⟩
    · have := Heap.get?_push_size s1.heap (o := { cls := .type "range_iterator", data := .fields #[rawInt a, rawInt ((b - a).toNat : Int), rawInt 1] }) rfl
      show IsRangeIter _ _ (a + ((0 : Nat) : Int) * 1) (((intsFrom a (b - a).toNat).length : Int) - ((0 : Nat) : Int)) 1
      rw [intsFrom_length]
      simpa using this
    · intro b hb
      rw [List.mem_singleton.mp hb]
      exact ⟨S1.toStC.none (size_none _), S1.ownNone (size_none _), _, Heap.get?_push_size _ rfl⟩
    · rw [intsFrom_length]; unfold sizeLine; omega
    · rintro i u d ⟨t, rfl⟩ he
      rw [intsFrom_get he, Int.mul_one]
      exact .int _ _

/-- one object that nobody speaks of has turned -/
theorem kp_but {h h' : Heap} {I : Addr} (hk : ∀ b o, b ∉ [I] → h.get? b = some o → h'.get? b = some o) (hq : ∃ o, h.get? I = some o ∧ ¬ Quiet o) : Kp h st h' st := fun b o e q h0 => by
  refine ⟨hk b o (fun hb => ?_) e, h0⟩
  rw [List.mem_singleton.mp hb] at e
  obtain ⟨o', e', q'⟩ := hq
  rw [e] at e'; cases e'
  exact q' q
theorem StC.but {B h h' : Heap} {I : Addr} (S : StC B h st) (hk : ∀ b o, b ∉ [I] → h.get? b = some o → h'.get? b = some o) (hI : st I = Option.none) (hB : B.get? I = Option.none) (hq : ∃ o, h.get? I = some o ∧ ¬ Quiet o) : StC B h' st :=
  ⟨fun b o e => hk b o (fun hb => by rw [List.mem_singleton.mp hb, hB] at e; cases e) (S.base b o e),
   fun a o e => (S.objs a o e).at (kp_but hk hq) fun x hx => hk a x (fun hb => by rw [List.mem_singleton.mp hb, hI] at e; cases e) hx, S.fresh⟩
theorem StE.but {B h h' : Heap} {I : Addr} (S : StE B sc env h lo st) (hk : ∀ b o, b ∉ [I] → h.get? b = some o → h'.get? b = some o) (hI : st I = Option.none) (hO : ¬ Has env I) (hB : B.get? I = Option.none) (hq : ∃ o, h.get? I = some o ∧ ¬ Quiet o) : StE B sc env h' lo st := by
  have kp : Kp h st h' st := kp_but hk hq
  have up : ∀ b, Has env b → ∀ o, h.get? b = some o → h'.get? b = some o := fun b hb o e => hk b o (fun q => hO (List.mem_singleton.mp q ▸ hb)) e
  refine { toStC := S.toStC.but hk hI hB hq, s := S.s, own := S.own, r := ?_ }
  obtain ⟨m, hn, hm⟩ := S.r.ns
  refine ⟨⟨m, hn.at' (up _ (.inl rfl)), fun y d hy hk => ?_⟩, fun y d hy hk => ?_, fun y c hc => ?_⟩
  · obtain ⟨v, hv, hr⟩ := hm y d hy hk
    exact ⟨v, hv, hr.tk kp⟩
  · obtain ⟨c, v, hc, hv, hr⟩ := S.r.cell y d hy hk
    exact ⟨c, v, hc, IsCell.at hv (up c (.inr ⟨y, hc⟩)), hr.tk kp⟩
  · obtain ⟨v, hv⟩ := S.r.cells y c hc
    exact ⟨v, IsCell.at hv (up c (.inr ⟨y, hc⟩))⟩
theorem Itr.base {C : Cx} {st₀ : Store} {h₀ h : Heap} {items : List AV} {it : Value} {I : Addr} {fp : List Addr} {P : Nat → Value → Prop} {Str : Nat → Heap → Prop} (X : Itr C A env st₀ st h₀ h items it I fp P Str) (S : StC C.B h₀ st₀) : C.B.get? I = Option.none := by
  cases q : C.B.get? I with
  | none => rfl
  | some o =>
    exfalso
    refine X.new o ?_ (S.base I o q)
    cases r : st₀ I with
    | none => rfl
    | some ob => rw [S.fresh I ob r] at q; cases q

theorem AS_for {t iter : Expr} {body : List Stmt} {pos : Pos} {Q : AFl → Loc → Store → Prop} (Inv : List AV → List AV → Loc → Store → Prop)
    (h : AIt C sc n iter lo st fun items st1 => Inv items [] lo st1 ∧
      (∀ pre d post lo' st', items = pre ++ d :: post → Inv items pre lo' st' → ∃ lo2, AAs C sc n t lo' st' d lo2 ∧ AX C sc n body lo2 st' fun f lo3 st3 => match f with
        | .next => Inv items (pre ++ [d]) lo3 st3
        | .cont => Inv items (pre ++ [d]) lo3 st3
        | .brk => Q .next lo3 st3
        | .ret v => Q (.ret v) lo3 st3) ∧
      (∀ lo' st', Inv items items lo' st' → Q .next lo' st'))
    (hs : ∀ env x, foldedSetIterable iter env x = pure x := by intro _ _; rfl) : AS C sc n (.For t iter body [] pos) lo st Q := fun env A s hA S => by
  refine wpAny_For (wpAny_mono (h env A s hA S) (fun x s₁ hx => wpAny_mono hx (fun it s₂ hit => ?_) fun _ _ f => f.el) fun _ _ f => f.el) (hs env)
  obtain ⟨items, st1, I, fp, P, Str, ⟨i0, iturn, iend⟩, X, S2, x2, e2⟩ := hit
  have hit := X.is
  subst hit
  have W := X.walks
  have hB := X.base S.toStC
  have hIf : I ∈ fp := W.sub I (List.mem_singleton.mpr rfl)
  refine codeAny_forLoop_any (fun k s' => ∃ i lo' st', k = items.length + 1 - i ∧ i ≤ items.length ∧ Str i s'.heap ∧ StE C.B sc env s'.heap lo' st' ∧ Inv items (items.take i) lo' st' ∧
      EvoX env st s.heap st' s'.heap ∧ Kp s₂.heap st1 s'.heap st' ∧ (∀ b ∈ fp, st' b = Option.none) ∧ (∀ b ∈ fp, ∃ o, s'.heap.get? b = some o) ∧ Same s s') ?_ (items.length + 1)
    ⟨0, lo, st1, rfl, Nat.zero_le _, X.start, S2, i0, x2.toX, .refl, fun b hb => (X.foot b hb).1, fun b hb => (X.foot b hb).2.2, e2⟩
  rintro k s' ⟨i, lo', st', rfl, hi, hst, S', hinv, x', k', hf, hfe, e'⟩
  by_cases hlt : i < items.length
  · refine W.item i s' _ _ hlt hst fun v h' tk hP hst' hk => ?_
    have hq := (X.tame i _ hst).2
    have hI0 := hf I hIf
    have hO := (X.foot I hIf).2.1
    have S1 := S'.but hk hI0 hO hB hq
    have kp1 : Kp s'.heap st' h' st' := kp_but hk hq
    have ev1 : EvoX env st s.heap st' h' := fun b o hb h0 e => by
      obtain ⟨a1, a2⟩ := x' b o hb h0 e
      exact ⟨hk b o (fun q => X.new o (List.mem_singleton.mp q ▸ h0) (List.mem_singleton.mp q ▸ e)) a1, a2⟩
    have es1 : Same s { s' with heap := h', toks := tk } := e'.trans ⟨_, _, rfl⟩
    show wpAny _ A (letOwnedTupleGo t (.ref I) v) _ _ _
    refine letGo_tame (X.tame (i + 1) _ hst').1 ?_
    have hd : items[i]? = some items[i] := List.getElem?_eq_getElem hlt
    have hr : Rep h' st' v items[i] := ((X.item i v _ hP hd).tk k').tk kp1
    have hsplit : items = items.take i ++ items[i] :: items.drop (i + 1) := by
      rw [List.getElem_cons_drop]
      exact (List.take_append_drop i items).symm
    obtain ⟨lo2, ha, hb⟩ := iturn _ _ _ lo' st' hsplit hinv
    refine ha env A { s' with heap := h', toks := tk } v _ _ hA S1 hr fun s3 S3 x3 e3 => ?_
    have hfoot : ∀ b ∈ fp, ∃ o, h'.get? b = some o := fun b hb => by
      by_cases hbI : b = I
      · subst hbI; obtain ⟨o, ho, _⟩ := (X.tame (i + 1) _ hst').2; exact ⟨o, ho⟩
      · obtain ⟨o, ho⟩ := hfe b hb
        exact ⟨o, hk b o (fun q => hbI (List.mem_singleton.mp q)) ho⟩
    refine AX.use hb hA S3 fun f s4 f' lo4 st4 hQ hrf S4 x4 e4 => ?_
    have x34 : EvoX env st' h' st4 s4.heap := x3.trans x4
    have hst4 : Str (i + 1) s4.heap := W.frame _ _ _ hst' fun b hb o e => (x34 b o (fun ho => (X.foot b hb).2.1 ho.has) (hf b hb) e).1
    have fin : ∀ f'', f' = f'' → Inv items (items.take i ++ [items[i]]) lo4 st4 → ∃ m, m < items.length + 1 - i ∧ ∃ i lo' st', m = items.length + 1 - i ∧ i ≤ items.length ∧ Str i s4.heap ∧ StE C.B sc env s4.heap lo' st' ∧ Inv items (items.take i) lo' st' ∧
        EvoX env st s.heap st' s4.heap ∧ Kp s₂.heap st1 s4.heap st' ∧ (∀ b ∈ fp, st' b = Option.none) ∧ (∀ b ∈ fp, ∃ o, s4.heap.get? b = some o) ∧ Same s s4 := fun _ _ hinv' => by
      refine ⟨items.length + 1 - (i + 1), by omega, i + 1, lo4, st4, rfl, hlt, hst4, S4, ?_, ev1.trans x34, (k'.trans kp1).trans (S1.kpX x34), fun b hb => ?_, fun b hb => ?_, es1.trans (e3.trans e4)⟩
      · rw [List.take_add_one, hd]; exact hinv'
      · obtain ⟨o, ho⟩ := hfoot b hb
        exact (x34 b o (fun ho => (X.foot b hb).2.1 ho.has) (hf b hb) ho).2
      · obtain ⟨o, ho⟩ := hfoot b hb
        exact ⟨o, (x34 b o (fun ho => (X.foot b hb).2.1 ho.has) (hf b hb) ho).1⟩
    cases hrf with
    | next => exact fin _ rfl hQ
    | cont => exact fin _ rfl hQ
    | brk => exact ⟨.next, lo4, st4, hQ, .next, S4, ev1.trans x34, es1.trans (e3.trans e4)⟩
    | ret hv => exact ⟨.ret _, lo4, st4, hQ, .ret hv, S4, ev1.trans x34, es1.trans (e3.trans e4)⟩
  · obtain rfl : i = items.length := Nat.le_antisymm hi (Nat.not_lt.mp hlt)
    refine W.done s' _ _ hst fun h' tk hk => ?_
    have hq := (X.tame _ _ hst).2
    have S1 := S'.but hk (hf I hIf) (X.foot I hIf).2.1 hB hq
    have ev1 : EvoX env st s.heap st' h' := fun b o hb h0 e => by
      obtain ⟨a1, a2⟩ := x' b o hb h0 e
      exact ⟨hk b o (fun q => X.new o (List.mem_singleton.mp q ▸ h0) (List.mem_singleton.mp q ▸ e)) a1, a2⟩
    rw [List.take_length] at hinv
    exact wpAny_execs_nil ⟨.next, lo', st', iend _ _ hinv, .next, S1, ev1, e'.trans ⟨_, _, rfl⟩⟩

theorem AS_while {test : Expr} {body : List Stmt} {pos : Pos} {Q : AFl → Loc → Store → Prop} (Inv : Nat → Loc → Store → Prop) (k₀ : Nat) (h0 : Inv k₀ lo st)
    (turn : ∀ k lo' st', Inv k lo' st' → AT C sc n test lo' st' fun c st2 => (c = true → AX C sc n body lo' st2 fun f lo3 st3 => match f with
        | .next => ∃ m, m < k ∧ Inv m lo3 st3
        | .cont => ∃ m, m < k ∧ Inv m lo3 st3
        | .brk => Q .next lo3 st3
        | .ret v => Q (.ret v) lo3 st3) ∧ (c = false → Q .next lo' st2)) : AS C sc n (.While test body [] pos) lo st Q := fun env A s hA S => by
  refine wpAny_While (codeAny_whileLoop (fun k s' => ∃ lo' st', StE C.B sc env s'.heap lo' st' ∧ Inv k lo' st' ∧ EvoX env st s.heap st' s'.heap ∧ Same s s') ?_ k₀ ⟨lo, st, S, h0, .refl, .refl _⟩)
  rintro k s' ⟨lo', st', S', hinv, x', e'⟩
  refine (turn k lo' st' hinv).use hA S' fun c s2 st2 h2 S2 x2 e2 => ?_
  cases c with
  | true =>
    refine (h2.1 rfl).use hA S2 fun f s3 f' lo3 st3 hQ hrf S3 x3 e3 => ?_
    have xx := (x'.trans x2.toX).trans x3
    have ee := (e'.trans e2).trans e3
    cases hrf with
    | next => obtain ⟨m, hm, hi⟩ := hQ; exact ⟨m, hm, lo3, st3, S3, hi, xx, ee⟩
    | cont => obtain ⟨m, hm, hi⟩ := hQ; exact ⟨m, hm, lo3, st3, S3, hi, xx, ee⟩
    | brk => exact ⟨.next, lo3, st3, hQ, .next, S3, xx, ee⟩
    | ret hv => exact ⟨.ret _, lo3, st3, hQ, .ret hv, S3, xx, ee⟩
  | false => exact wpAny_execs_nil ⟨.next, lo', st2, h2.2 rfl, .next, S2, x'.trans x2.toX, e'.trans e2⟩
end
end
section
def relS (scope sc : Scope) : Scope :=
  { scope with names := scope.names.map fun (n, k) => if (k == .free && sc.kind == .function && sc.names.lookup n == some .cell) then (n, .cell) else (n, k) }
def compLo (scope : Scope) (lo : Loc) : Loc := fun x => if scope.names.lookup x = some .free then lo x else Option.none
theorem compLo_put {scope : Scope} {lo : Loc} {x : Str} {d : AV} (h : scope.names.lookup x = some .local) : ∀ y v, compLo scope lo y = some v → put (compLo scope lo) x d y = some v := fun y v e => by
  by_cases q : y = x
  · subst q; simp [compLo, h] at e
  · simp only [put, q, if_false]; exact e

/- the closure -/
def clOf (cells : List (Str × Addr)) : List (Str × NameKind) → List (Str × Addr) → List (Str × Addr)
  | [], acc => acc
  | (x, k) :: r, acc => if k == .free then clOf cells r ((x, (cells.lookup x).getD 0) :: acc) else clOf cells r acc
theorem clos_for (env : Env) : ∀ (names : List (Str × NameKind)) (acc : List (Str × Addr)), (∀ x, (x, NameKind.free) ∈ names → ∃ c, env.cells.lookup x = some c) →
    (forIn names acc fun (x : Str × NameKind) r => (match x with
      | (name, kind) => if kind == .free then (do let c ← cellOf env name; pure (ForInStep.yield ((name, c) :: r))) else pure (ForInStep.yield r) : Sem (ForInStep (List (Str × Addr))))) = pure (clOf env.cells names acc)
  | [], acc, _ => rfl
  | (x, k) :: r, acc, h => by
    have ih := fun acc => clos_for env r acc fun y hy => h y (List.mem_cons_of_mem _ hy)
    rw [List.forIn_cons]
    unfold clOf
    by_cases hk : (k == NameKind.free) = true
    · have hk' : k = .free := by simpa using hk
      subst hk'
      obtain ⟨c, hc⟩ := h x List.mem_cons_self
      simp only [hk, if_true, cellOf, hc, Option.getD_some]
      exact ih _
    · simp only [hk, Bool.false_eq_true, if_false]
      exact ih _
theorem clos_ok {scope : Scope} {env : Env} (h : ∀ x, (x, NameKind.free) ∈ scope.names → ∃ c, env.cells.lookup x = some c) : closureFor scope env = pure (clOf env.cells scope.names []) := by
  have := clos_for env scope.names [] h
  show (forIn scope.names [] _ >>= fun r => pure r) = _
  refine (congrArg (fun t => t >>= fun r => (pure r : Sem (List (Str × Addr)))) ?_ : _ = (pure (clOf env.cells scope.names []) >>= fun r => pure r : Sem (List (Str × Addr))))
  refine Eq.trans ?_ this
  congr 1
theorem clOf_mem {cells : List (Str × Addr)} {P : Str → Addr → Prop} : ∀ (names : List (Str × NameKind)) (acc : List (Str × Addr)), (∀ x, (x, NameKind.free) ∈ names → P x ((cells.lookup x).getD 0)) → (∀ x c, acc.lookup x = some c → P x c) → ∀ x c, (clOf cells names acc).lookup x = some c → P x c
  | [], acc, _, h => h
  | (y, k) :: r, acc, h, h' => by
    unfold clOf
    split
    · rename_i hk
      refine clOf_mem r _ (fun x hx => h x (List.mem_cons_of_mem _ hx)) fun x c hx => ?_
      rw [List.lookup_cons] at hx
      split at hx
      · rename_i e
        cases hx
        have : x = y := by simpa using e
        subst this
        have hk' : k = .free := by simpa using hk
        subst hk'
        exact h x List.mem_cons_self
      · exact h' x c hx
    · exact clOf_mem r _ (fun x hx => h x (List.mem_cons_of_mem _ hx)) h'
theorem clOf_has {cells : List (Str × Addr)} : ∀ (names : List (Str × NameKind)) (acc : List (Str × Addr)) (x : Str), (x, NameKind.free) ∈ names ∨ (∃ c, acc.lookup x = some c) → ∃ c, (clOf cells names acc).lookup x = some c
  | [], acc, x, h => h.elim (fun h => nomatch h) id
  | (y, k) :: r, acc, x, h => by
    unfold clOf
    split
    · rename_i hk
      refine clOf_has r _ x ?_
      by_cases e : x = y
      · subst e; exact .inr ⟨(cells.lookup x).getD 0, by simp⟩
      · refine h.imp (fun h => ?_) fun ⟨c, hc⟩ => ⟨c, ?_⟩
        · rcases List.mem_cons.mp h with q | q
          · cases q; exact absurd rfl e
          · exact q
        · rw [List.lookup_cons]
          have : (x == y) = false := by simpa using e
          rw [this]; exact hc
    · rename_i hk
      refine clOf_has r _ x (h.imp (fun h => ?_) id)
      rcases List.mem_cons.mp h with q | q
      · cases q; exact absurd rfl hk
      · exact q

section
variable {prog : Program} {w : World} {A : Around} {R : Result → Shared → Prop} {s : Shared}
abbrev testsOf (ifs : List Expr) (env : Env) : Sem Bool := forIn ifs true fun c r => if r = true then do let ok ← isTrue c env (eval c env); pure (ForInStep.yield ok) else pure (ForInStep.yield r)
theorem compLoop_turns {elt target iter : Expr} {ifs : List Expr} {scope : Scope} {pos : Pos} {it acc : Value} {env : Env} (I : Nat → Shared → Prop)
    (turn : ∀ n s, I n s → wpAny (model prog w) A (pyNext it) (fun r s₁ => match r with
      | none => R (.ok .next) s₁
      | some v => wpAny (model prog w) A (letOwnedTupleGo target it v) (fun _ s₁' => wpAny (model prog w) A (assign target env v) (fun _ s₂ =>
          wpAny (model prog w) A (testsOf ifs env) (fun ok s₃ =>
            if ok = true then wpAny (model prog w) A (eval elt env) (fun x s₄ =>
              wpAny (model prog w) A (call (.builtin "list.append") [acc, x]) (fun _ s₅ => ∃ m, m < n ∧ I m s₅) No s₄) No s₃
            else ∃ m, m < n ∧ I m s₃) No s₂) No s₁') No s₁) No s)
    (n : Nat) (h : I n s) : codeAny (model prog w) A (.compLoop (.ListComp elt [⟨target, iter, ifs, 0⟩] scope pos) 0 it acc env) R s := by
  refine codeAny_loop rfl I (fun n s hI => ?_) n h
  show wpAny _ A ((compTurn (.ListComp elt [⟨target, iter, ifs, 0⟩] scope pos) 0 it acc env).onRaise (fun x => do noteFrame x env; theTreesLotGoes x)) _ _ s
  refine wpAny_noted ?_
  rw [compTurn_list]
  refine wpAny_bind (wpAny_standAt (wpAny_bind (wpAny_mono (turn n s hI) (fun r s₁ h₁ => ?_) fun _ _ f => f.el)))
  cases r with
  | none => exact wpAny_pure h₁
  | some v =>
    refine wpAny_bind (wpAny_mono h₁ (fun _ s₁' h₁' => ?_) fun _ _ f => f.el)
    refine wpAny_bind (wpAny_mono h₁' (fun _ s₂ h₂ => wpAny_bind (wpAny_mono h₂ (fun ok s₃ h₃ => ?_) fun _ _ f => f.el)) fun _ _ f => f.el)
    cases ok with
    | false => exact wpAny_pure ⟨rfl, h₃⟩
    | true =>
      exact wpAny_bind (wpAny_bind (wpAny_mono h₃ (fun x s₄ h₄ => wpAny_bind (wpAny_mono h₄ (fun _ s₅ h₅ => wpAny_pure (wpAny_pure ⟨rfl, h₅⟩)) fun _ _ f => f.el)) fun _ _ f => f.el))
end

section
variable (C : Cx) (sc : Scope) (n : Nat)
def ATs (ifs : List Expr) (lo : Loc) (st : Store) (Q : Bool → Store → Prop) : Prop :=
  ∀ env A s, Room n A → StE C.B sc env s.heap lo st → wpAny (model C.prog C.w) A (testsOf ifs env) (PB C sc env lo st s Q) No s
end

section
variable {C : Cx} {sc : Scope} {n : Nat} {env : Env} {A : Around} {s : Shared} {lo : Loc} {st : Store} {E : Value → Shared → Prop}
theorem ATs_nil {Q : Bool → Store → Prop} (h : Q true st) : ATs C sc n [] lo st Q := fun env A s hA S => wpAny_tests_nil ⟨st, h, S, .refl, .refl _⟩
theorem ATs_one {c : Expr} {Q : Bool → Store → Prop} (h : AT C sc n c lo st Q) : ATs C sc n [c] lo st Q := fun env A s hA S => wpAny_tests_one (h env A s hA S)

theorem StE.forget {B h : Heap} {lo' : Loc} (S : StE B sc env h lo st) (k : ∀ y v, lo' y = some v → lo y = some v) : StE B sc env h lo' st := by
  refine { toStC := S.toStC, s := S.s, own := S.own, r := ?_ }
  obtain ⟨m, hn, hm⟩ := S.r.ns
  exact ⟨⟨m, hn, fun y d hy hk => hm y d (k y d hy) hk⟩, fun y d hy hk => S.r.cell y d (k y d hy) hk, S.r.cells⟩

theorem relS_lookup {scope sc : Scope} {x : Str} : (relS scope sc).names.lookup x = match scope.names.lookup x with
    | some k => some (if (k == .free && sc.kind == .function && sc.names.lookup x == some .cell) then .cell else k)
    | none => none := by
  show List.lookup x (scope.names.map _) = _
  induction scope.names with
  | nil => rfl
  | cons p r ih =>
    obtain ⟨y, k⟩ := p
    rw [List.map_cons]
    by_cases e : x = y
    · subst e
      rw [show List.lookup x ((x, k) :: r) = some k by simp]
      show List.lookup x ((if (k == NameKind.free && sc.kind == ScopeKind.function && List.lookup x sc.names == some NameKind.cell) = true then (x, NameKind.cell) else (x, k)) :: _) =
        some (if (k == NameKind.free && sc.kind == ScopeKind.function && List.lookup x sc.names == some NameKind.cell) = true then NameKind.cell else k)
      by_cases hc : (k == NameKind.free && sc.kind == ScopeKind.function && List.lookup x sc.names == some NameKind.cell) = true
      · rw [if_pos hc, if_pos hc, List.lookup_cons]; simp only [beq_self_eq_true]
      · rw [if_neg hc, if_neg hc, List.lookup_cons]; simp only [beq_self_eq_true]
    · have hb : (x == y) = false := by simpa using e
      rw [show List.lookup x ((y, k) :: r) = List.lookup x r by rw [List.lookup_cons, hb]]
      rw [← ih]
      show List.lookup x ((if (k == NameKind.free && sc.kind == ScopeKind.function && List.lookup y sc.names == some NameKind.cell) = true then (y, NameKind.cell) else (y, k)) :: _) = _
      by_cases hc : (k == NameKind.free && sc.kind == ScopeKind.function && List.lookup y sc.names == some NameKind.cell) = true
      · rw [if_pos hc, List.lookup_cons]; simp only [hb]
      · rw [if_neg hc, List.lookup_cons]; simp only [hb]

/-- the frame of a comprehension -/
theorem comp_env {scope : Scope} {h h₁ : Heap} {Cc : Addr} {st' : Store} (S : StE C.B sc env h lo st) (S' : StC C.B h₁ st') (x : Evo st h st' h₁) (hn : h₁.Ns Cc fun _ => none) (hC : h.get? Cc = none) (hst : st' Cc = none)
    (hkind : scope.kind = .function) (hcell : ∀ y ∈ scope.names, y.2 ≠ .cell) (hfree : ∀ y, (y, NameKind.free) ∈ scope.names → sc.names.lookup y = some .cell) (hdot : isFn (relS scope sc) = false) :
    StE C.B (relS scope sc) (compEnvC scope (clOf env.cells scope.names []) Cc env) h₁ (compLo scope lo) st' := by
  have he := S.s.scope
  have S₁ := S.evo S' x
  have hcl : ∀ y c, (clOf env.cells scope.names []).lookup y = some c → env.cells.lookup y = some c := clOf_mem _ _ (P := fun y c => env.cells.lookup y = some c) (fun y hy => by
    obtain ⟨c, hc⟩ := S.s.has y (hfree y hy)
    rw [hc]; rfl) fun _ _ h => by cases h
  have hrel : relabel scope env = relS scope sc := by rw [← he]; rfl
  have hCne : ∀ y c, env.cells.lookup y = some c → c ≠ Cc := fun y c hc => by
    rintro rfl
    obtain ⟨v, o, ho, _⟩ := S.r.cells y _ hc
    rw [hC] at ho; cases ho
  refine { toStC := S', s := ⟨hrel, hkind, S.s.globals, S.s.builtins, fun y c hc => hCne y c (hcl y c hc), fun y z c hy hz => S.s.apart y z c (hcl y c hy) (hcl z c hz), fun y hy => ?_, fun q => by rw [hdot] at q; cases q⟩, r := ?_, own := ?_ }
  · rw [relS_lookup] at hy
    split at hy
    · rename_i k hk
      refine clOf_has _ _ _ (.inl ?_)
      split at hy
      · rename_i q
        have : k = .free := by simp at q; exact q.1.1
        subst this
        exact mem_of_lookup hk
      · cases hy
        exact absurd rfl (hcell _ (mem_of_lookup hk))
    · cases hy
  · have hko : ∀ y, (compEnvC scope (clOf env.cells scope.names []) Cc env).kindOf y = (relS scope sc).names.lookup y := fun y => by show (relabel scope env).names.lookup y = _; rw [hrel]
    refine ⟨⟨_, hn, fun y d hy hk => ?_⟩, fun y d hy hk => ?_, fun y c hc => ?_⟩
    · exfalso
      rw [hko, relS_lookup] at hk
      unfold compLo at hy
      split at hy
      · rename_i q
        rw [q] at hk
        have hs := hfree y (mem_of_lookup q)
        simp [hs, S.s.kind] at hk
      · cases hy
    · unfold compLo at hy
      split at hy
      · rename_i q
        have hs := hfree y (mem_of_lookup q)
        have hke : env.kindOf y ≠ some .local := by show env.scope.names.lookup y ≠ _; rw [he, hs]; simp
        obtain ⟨c, v, hc, hv, hr⟩ := S₁.r.cell y d hy hke
        obtain ⟨c', hc'⟩ := clOf_has (cells := env.cells) scope.names [] y (.inl (mem_of_lookup q))
        have := hcl y c' hc'
        rw [hc] at this; cases this
        exact ⟨c, v, hc', hv, hr⟩
      · cases hy
    · exact S₁.r.cells y c (hcl y c hc)
  · rintro b (rfl | ⟨y, hy⟩)
    · exact ⟨hst, S.toStC.bnone hC⟩
    · have := S₁.own b (.inr ⟨y, hcl y b hy⟩)
      exact this

theorem StE.evoBut {B h h' : Heap} {I : Addr} {st' : Store} (S : StE B sc env h lo st) (S' : StC B h' st') (x : ∀ b o, b ≠ I → st b = none → h.get? b = some o → h'.get? b = some o ∧ st' b = none) (hI : ¬ Has env I) (hq : ∃ o, h.get? I = some o ∧ ¬ Quiet o) : StE B sc env h' lo st' := by
  have kp : Kp h st h' st' := fun b o e q h0 => x b o (fun hb => by
    subst hb
    obtain ⟨o', e', q'⟩ := hq
    rw [e] at e'; cases e'
    exact q' q) h0 e
  have up : ∀ b, Has env b → ∀ o, h.get? b = some o → h'.get? b = some o ∧ st' b = none := fun b hb o e => x b o (fun q => hI (q ▸ hb)) (S.own b hb).1 e
  have hown : ∀ b, Has env b → st' b = none ∧ B.get? b = none := fun b hb => by
    obtain ⟨o, ho⟩ := S.ownHas hb
    exact ⟨(up b hb o ho).2, (S.own b hb).2⟩
  refine { toStC := S', s := S.s, own := hown, r := ?_ }
  · obtain ⟨m, hn, hm⟩ := S.r.ns
    refine ⟨⟨m, hn.at' (fun o e => (up _ (.inl rfl) o e).1), fun y d hy hk => ?_⟩, fun y d hy hk => ?_, fun y c hc => ?_⟩
    · obtain ⟨v, hv, hr⟩ := hm y d hy hk
      exact ⟨v, hv, hr.tk kp⟩
    · obtain ⟨c, v, hc, hv, hr⟩ := S.r.cell y d hy hk
      exact ⟨c, v, hc, IsCell.at hv (fun o e => (up c (.inr ⟨y, hc⟩) o e).1), hr.tk kp⟩
    · obtain ⟨v, hv⟩ := S.r.cells y c hc
      exact ⟨v, IsCell.at hv (fun o e => (up c (.inr ⟨y, hc⟩) o e).1)⟩

/-- one turn of a comprehension, over any store -/
def Turn (C : Cx) (sc : Scope) (n : Nat) (t elt : Expr) (ifs : List Expr) (lo : Loc) (d : AV) (r : Option AV) : Prop :=
  ∀ st', ∃ lo2, AAs C sc n t lo st' d lo2 ∧ (∀ y v, lo y = some v → lo2 y = some v) ∧
    ATs C sc n ifs lo2 st' fun b st2 => st2 = st' ∧ (b = true → AE C sc n elt lo2 st' fun x st3 => st3 = st' ∧ r = some x) ∧ (b = false → r = none)

theorem comp_block {elt target iter : Expr} {ifs : List Expr} {scope : Scope} {pos : Pos} {st₀ : Store} {h₀ : Heap} {s₂ : Shared} {items : List AV} {it : Value} {I : Addr} {fp : List Addr} {P : Nat → Value → Prop} {Sg : Nat → Heap → Prop} {E : Value → Shared → Prop}
    {RR : Value → Addr → Result → Shared → Prop} (f : AV → Option AV) (hA : Room n A) (X : Itr C A env st₀ st h₀ s₂.heap items it I fp P Sg) (hB : C.B.get? I = none) (S : StE C.B sc env s₂.heap lo st)
    (hkind : scope.kind = .function) (hcell : ∀ y ∈ scope.names, y.2 ≠ .cell) (hfree : ∀ y, (y, NameKind.free) ∈ scope.names → sc.names.lookup y = some .cell) (hdot : isFn (relS scope sc) = false)
    (turn : ∀ d ∈ items, Turn C (relS scope sc) n target elt ifs (compLo scope lo) d (f d))
    (hRR : ∀ D Cc h' tk m', h'.Ns Cc m' → s₂.heap.get? D = none → s₂.heap.get? Cc = none → D ≠ Cc → StC C.B h' (upd st D (.list (items.filterMap f))) →
      (∀ b o, b ≠ I → st b = none → s₂.heap.get? b = some o → h'.get? b = some o) → upd st D (.list (items.filterMap f)) Cc = none → RR (.ref D) Cc (.ok .next) { s₂ with heap := h', toks := tk }) :
    wpAny (model C.prog C.w) A (newList []) (fun acc s₃ => wpAny (model C.prog C.w) A (newFunctionEnv scope env.globals (clOf env.cells scope.names []) [] env.qual none .none (some env)) (fun cenv s₄ =>
      codeAny (model C.prog C.w) A (.compStart (.ListComp elt [⟨target, iter, ifs, 0⟩] scope pos) 0 it acc { cenv with scope := relabel scope env }) (RR acc cenv.locals) s₄) E s₃) E s₂ := by
  have hit := X.is
  subst hit
  have W := X.walks
  have hIf : I ∈ fp := W.sub I (List.mem_singleton.mpr rfl)
  refine wpAny_newObj_type (wpAny_newFunctionEnv hcell (by intro y hy; simp at hy) (fun h₁ hns₁ hsb₁ => ?_) hkind)
  dsimp only at hns₁ hsb₁ ⊢
  generalize hH2 : s₂.heap.push { cls := .type "list", dict := none, data := .seq ([] : List Value).toArray } = H2 at hns₁ hsb₁ ⊢
  have hC : H2.objs.size = s₂.heap.objs.size + 1 := by rw [← hH2, Heap.size_push]
  generalize hDd : s₂.heap.objs.size = D at *
  generalize hCc : H2.objs.size = Cc at *
  have hDC : D ≠ Cc := by omega
  have lt : ∀ b o, s₂.heap.get? b = some o → b < D := fun b o e => hDd ▸ Heap.lt_size e
  have hD0 : s₂.heap.get? D = none := Heap.get?_none_of_le (Nat.le_of_eq hDd)
  have hC0 : s₂.heap.get? Cc = none := Heap.get?_none_of_le (by omega)
  have up2 : ∀ b o, s₂.heap.get? b = some o → H2.get? b = some o := fun b o e => hH2 ▸ Heap.get?_push_of_some _ e
  have ltC : ∀ b : Nat, b < D → b ≠ Cc := fun b h => by omega
  have old : ∀ b o, s₂.heap.get? b = some o → h₁.get? b = some o := fun b o e => hsb₁.extBut b o (ltC b (lt b o e)) (Heap.get?_push_of_some _ (up2 b o e))
  have hDl : h₁.PlainList D #[] := ⟨_, hsb₁.extBut _ _ hDC (Heap.get?_push_of_some _ (by rw [← hH2, ← hDd]; exact Heap.get?_push_size _ rfl))⟩
  have hnD : st D = none := S.toStC.none hD0
  have hnC : st Cc = none := S.toStC.none hC0
  have S₁C : StC C.B h₁ (upd st D (.list [])) := S.toStC.new hD0 old ⟨[], hDl, .nil⟩
  have ev₁ : Evo st s₂.heap (upd st D (.list [])) h₁ := .new hD0 old
  have hCn1 : ∀ ob, upd st D ob Cc = none := fun ob => by rw [upd_other (Ne.symm hDC)]; exact hnC
  have S₁ := comp_env (C := C) (scope := scope) S S₁C ev₁ (hns₁ : h₁.Ns Cc fun _ => none) hC0 (hCn1 _) hkind hcell hfree hdot
  have hI0 : st I = none := (X.foot I hIf).1
  have hID : I ≠ D := by obtain ⟨o, ho⟩ := (X.foot I hIf).2.2; exact Nat.ne_of_lt (lt _ _ ho)
  have hIC : I ≠ Cc := by obtain ⟨o, ho⟩ := (X.foot I hIf).2.2; exact ltC _ (lt _ _ ho)
  have hst₁ : Sg 0 h₁ := W.frame _ _ _ X.start fun b _ o e => old b o e
  have hasC : ∀ b, Has (compEnvC scope (clOf env.cells scope.names []) Cc env) b → b = Cc ∨ Has env b := by
    rintro b (rfl | ⟨y, hy⟩)
    · exact .inl rfl
    · exact .inr (.inr ⟨y, clOf_mem (cells := env.cells) scope.names [] (P := fun y c => env.cells.lookup y = some c) (fun y hy => by
        obtain ⟨c, hc⟩ := S.s.has y (hfree y hy)
        rw [hc]; rfl) (fun _ _ h => by cases h) y b hy⟩)
  have hIO : ¬ Has (compEnvC scope (clOf env.cells scope.names []) Cc env) I := fun ho => by
    rcases hasC I ho with q | q
    · exact hIC q
    · exact (X.foot I hIf).2.1 q
  have ownC : ∀ b, Own (compEnvC scope (clOf env.cells scope.names []) Cc env) b → b = Cc := by
    rintro b (rfl | ⟨q, _⟩)
    · rfl
    · cases q
  have hq₂ := (X.tame 0 _ X.start).2
  have loop : ∀ s₃ : Shared, s₃ = { s₂ with heap := h₁, toks := s₂.toks + ([] : List (Str × Value)).length } →
      codeAny (model C.prog C.w) A (.compLoop (.ListComp elt [⟨target, iter, ifs, 0⟩] scope pos) 0 (.ref I) (.ref D) (compEnvC scope (clOf env.cells scope.names []) Cc env)) (RR (.ref D) Cc) s₃ := by
    rintro s₃ rfl
    refine compLoop_turns (fun k s' => ∃ i out, k = items.length + 1 - i ∧ i ≤ items.length ∧ Sg i s'.heap ∧ StE C.B (relS scope sc) (compEnvC scope (clOf env.cells scope.names []) Cc env) s'.heap (compLo scope lo) (upd st D (.list out)) ∧
        out = (items.take i).filterMap f ∧ (∀ b o, b ≠ I → st b = none → s₂.heap.get? b = some o → s'.heap.get? b = some o) ∧ Same s₂ s') ?_ (items.length + 1)
      ⟨0, [], rfl, Nat.zero_le _, hst₁, S₁, rfl, fun b o _ _ e => old b o e, ⟨_, _, rfl⟩⟩
    rintro k s' ⟨i, out, rfl, hi, hst, S', hout, xC, e'⟩
    by_cases hlt : i < items.length
    · refine W.item i s' _ _ hlt hst fun v h' tk hP hst' hk => ?_
      have hq := (X.tame i _ hst).2
      have hI1 : upd st D (.list out) I = none := by rw [upd_other hID]; exact hI0
      have S1 := S'.but hk hI1 hIO hB hq
      have xC1 : ∀ b o, b ≠ I → st b = none → s₂.heap.get? b = some o → h'.get? b = some o := fun b o hb h0 e => hk b o (fun q => hb (List.mem_singleton.mp q)) (xC b o hb h0 e)
      have kp1 : Kp s₂.heap st h' (upd st D (.list out)) := fun b o e q h0 => by
        have hb : b ≠ I := by
          rintro rfl
          obtain ⟨o', e'', q'⟩ := hq₂
          rw [e] at e''; cases e''
          exact q' q
        exact ⟨xC1 b o hb h0 e, by rw [upd_other (Nat.ne_of_lt (lt b o e))]; exact h0⟩
      show wpAny _ A (letOwnedTupleGo target (.ref I) v) _ _ _
      refine letGo_tame (X.tame (i + 1) _ hst').1 ?_
      have hd : items[i]? = some items[i] := List.getElem?_eq_getElem hlt
      have hr : Rep h' (upd st D (.list out)) v items[i] := (X.item i v _ hP hd).tk kp1
      obtain ⟨lo2, ha, hlo, ht⟩ := turn items[i] (List.getElem_mem hlt) (upd st D (.list out))
      have take : (items.take (i + 1)).filterMap f = (items.take i).filterMap f ++ (match f items[i] with | some y => [y] | none => []) := by
        rw [List.take_add_one, hd, List.filterMap_append]
        simp only [Option.toList_some, List.filterMap_cons, List.filterMap_nil]
        cases f items[i] <;> rfl
      refine ha _ A { s' with heap := h', toks := tk } v _ _ hA S1 hr fun s3 S3 x3 e3 => ?_
      refine wpAny_mono (ht _ A s3 hA S3) (fun ok s4 p4 => ?_) fun _ _ f => f
      obtain ⟨st4, ⟨rfl, hok, hno⟩, S4, x4, e4⟩ := p4
      have xC4 : ∀ b o, b ≠ I → st b = none → s₂.heap.get? b = some o → s4.heap.get? b = some o := fun b o hb h0 e => by
        have hbD : upd st D (.list out) b = none := by rw [upd_other (Nat.ne_of_lt (lt b o e))]; exact h0
        have a1 := xC1 b o hb h0 e
        have a2 := (x3 b o (fun q => ltC b (lt b o e) (ownC b q)) hbD a1).1
        exact (x4 b o hbD a2).1
      have footD : ∀ b ∈ fp, upd st D (.list out) b = none ∧ b < D := fun b hb => by
        obtain ⟨a1, _, o, ho⟩ := X.foot b hb
        exact ⟨by rw [upd_other (Nat.ne_of_lt (lt b o ho))]; exact a1, lt b o ho⟩
      have hst4 : Sg (i + 1) s4.heap := W.frame _ _ _ hst' fun b hb o e => by
        have a2 := (x3 b o (fun q => ltC b (footD b hb).2 (ownC b q)) (footD b hb).1 e).1
        exact (x4 b o (footD b hb).1 a2).1
      have es : Same s₂ s4 := ((e'.trans ⟨_, _, rfl⟩).trans e3).trans e4
      cases ok with
      | false =>
        simp only [Bool.false_eq_true, if_false]
        refine ⟨items.length + 1 - (i + 1), by omega, i + 1, out, rfl, hlt, hst4, S4.forget hlo, ?_, xC4, es⟩
        rw [take, hno rfl, hout, List.append_nil]
      | true =>
        simp only [if_true]
        refine (hok rfl).use hA S4 fun y s5 d5 st5 h5 r5 S5 x5 e5 => ?_
        obtain ⟨rfl, hfd⟩ := h5
        obtain ⟨vs, hl, hrs⟩ := S5.objs D _ upd_self
        have hsz : vs.toArray.size ≤ sizeLine := by
          rw [List.size_toArray, hrs.length, hout]
          have a1 : ((items.take i).filterMap f).length ≤ (items.take i).length := List.length_filterMap_le _ _
          have a2 : (items.take i).length ≤ items.length := by simp; omega
          exact Nat.le_trans a1 (Nat.le_trans a2 X.small)
        refine wpAny_list_append_plain hl (fun h6 hl6 hs6 => ?_) hsz
        have k6 : ∀ b ob, b ≠ D → s5.heap.get? b = some ob → h6.get? b = some ob := fun b ob hb e => (hs6.2 b hb).trans e
        have ev6 : Evo (upd st D (.list out)) s5.heap (upd (upd st D (.list out)) D (.list (out ++ [d5]))) h6 := .turn upd_self k6
        have S6C : StC C.B h6 (upd (upd st D (.list out)) D (.list (out ++ [d5]))) := S5.toStC.turn upd_self k6 ⟨vs ++ [y], by simpa using hl6, ((hrs.append (.one r5))).tk ev6.kp⟩
        have S6 := S5.evo S6C ev6
        rw [upd_upd] at S6
        refine ⟨items.length + 1 - (i + 1), by omega, i + 1, out ++ [d5], rfl, hlt, ?_, S6.forget hlo, ?_, fun b o hb h0 e => ?_, es.trans (e5.trans ⟨_, _, rfl⟩)⟩
        · refine W.frame _ _ _ hst4 fun b hb o e => k6 b o (Nat.ne_of_lt (footD b hb).2) (x5 b o (footD b hb).1 e).1
        · rw [take, hfd, hout]
        · have hbD : upd st D (.list out) b = none := by rw [upd_other (Nat.ne_of_lt (lt b o e))]; exact h0
          exact k6 b o (Nat.ne_of_lt (lt b o e)) (x5 b o hbD (xC4 b o hb h0 e)).1
    · obtain rfl : i = items.length := Nat.le_antisymm hi (Nat.not_lt.mp hlt)
      refine W.done s' _ _ hst fun h' tk hk => ?_
      have hq := (X.tame _ _ hst).2
      have hI1 : upd st D (.list out) I = none := by rw [upd_other hID]; exact hI0
      have S1 := S'.but hk hI1 hIO hB hq
      rw [List.take_length] at hout
      subst hout
      obtain ⟨m', hn', _⟩ := S1.r.ns
      obtain ⟨h9, tk9, rfl⟩ := e'
      exact hRR D Cc h' tk m' hn' hD0 hC0 hDC S1.toStC (fun b o hb h0 e => hk b o (fun q => hb (List.mem_singleton.mp q)) (xC b o hb h0 e)) (hCn1 _)
  exact codeAny_compStart_list (loop _ rfl) (W.self 0 _ _ _ hst₁ (loop _ rfl))

theorem nsNot {h : Heap} {a : Addr} {m : Str → Option Value} (x : h.Ns a m) : ∃ o, h.get? a = some o ∧ ¬ Quiet o := by
  obtain ⟨o, es, ep, ho, hd, _⟩ := x
  refine ⟨o, ho, ?_⟩
  rintro (⟨_, _, q⟩ | ⟨_, _, q⟩) <;> (rw [hd] at q; cases q)

/-- what stands behind a comprehension: its list, turned no more -/
theorem comp_end {st₀ : Store} {s₂ : Shared} {items : List AV} {it : Value} {I D Cc : Addr} {fp : List Addr} {P : Nat → Value → Prop} {Sg : Nat → Heap → Prop} {h' h'' : Heap} {m' : Str → Option Value} {out : List AV}
    (X : Itr C A env st₀ st s.heap s₂.heap items it I fp P Sg) (S2 : StE C.B sc env s₂.heap lo st) (x2 : Evo st₀ s.heap st s₂.heap) (hn : h'.Ns Cc m') (hD : s₂.heap.get? D = none) (hC : s₂.heap.get? Cc = none)
    (S' : StC C.B h' (upd st D (.list out))) (x' : ∀ b o, b ≠ I → st b = none → s₂.heap.get? b = some o → h'.get? b = some o) (hCn : upd st D (.list out) Cc = none) (hs : Heap.SameBut Cc h' h'') :
    Rep h'' st (.ref D) (.lst out) ∧ StE C.B sc env h'' lo st ∧ Evo st₀ s.heap st h'' := by
  have hk : ∀ b o, b ∉ [Cc] → h'.get? b = some o → h''.get? b = some o := fun b o hb e => (hs.2 b (fun q => hb (List.mem_singleton.mpr q))).trans e
  have hBC : C.B.get? Cc = none := S2.toStC.bnone hC
  have S'' : StC C.B h'' (upd st D (.list out)) := S'.but hk hCn hBC (nsNot hn)
  have hDn : st D = none := S2.toStC.none hD
  have hw : ∀ b o, st b = some o → upd st D (.list out) b = some o := fun b o e => by
    rw [upd_other (by rintro rfl; rw [hDn] at e; cases e)]; exact e
  have SC : StC C.B h'' st := S''.weak hw
  obtain ⟨vs, hl, hr⟩ := S''.objs D _ upd_self
  have hIf : I ∈ fp := X.walks.sub I (List.mem_singleton.mpr rfl)
  have ex : ∀ b o, b ≠ I → st b = none → s₂.heap.get? b = some o → h''.get? b = some o ∧ st b = none := fun b o hb h0 e =>
    ⟨hk b o (fun q => by rw [List.mem_singleton.mp q, hC] at e; cases e) (x' b o hb h0 e), h0⟩
  refine ⟨.lst hl.isList hDn (hr.tk (.weak hw)), S2.evoBut SC ex (X.foot I hIf).2.1 (X.tame 0 _ X.start).2, fun b o h0 e => ?_⟩
  obtain ⟨a1, a2⟩ := x2 b o h0 e
  exact ex b o (fun q => X.new o (q ▸ h0) (q ▸ e)) a2 a1

theorem AE_comp {elt target iter : Expr} {ifs : List Expr} {scope : Scope} {pos : Pos} {Q : AV → Store → Prop} (f : AV → Option AV)
    (h : AIt C sc n iter lo st fun items st1 => (∀ d ∈ items, Turn C (relS scope sc) n target elt ifs (compLo scope lo) d (f d)) ∧ Q (.lst (items.filterMap f)) st1)
    (hkind : scope.kind = .function := by rfl) (hcell : ∀ y ∈ scope.names, y.2 ≠ .cell := by decide) (hfree : ∀ y ∈ scope.names, y.2 = .free → sc.names.lookup y.1 = some .cell := by decide)
    (hnames : ∀ y ∈ scope.names, y.2 = .local → scope.names.lookup y.1 = some .local := by decide) (hdot : isFn (relS scope sc) = false := by rfl)
    (hs : ∀ env x, foldedSetIterable iter env x = pure x := by intro _ _; rfl) : AE C sc n (.ListComp elt [⟨target, iter, ifs, 0⟩] scope pos) lo st Q := fun env A s hA S => by
  have hfree' : ∀ y, (y, NameKind.free) ∈ scope.names → sc.names.lookup y = some .cell := fun y hy => hfree _ hy rfl
  rw [eval_ListComp]
  refine wpAny_comprehension_free (use := none) rfl (hs env) (clos_ok fun y hy => S.s.has y (hfree' y hy)) hkind hnames (wpAny_mono (h env A s hA S) (fun x s₁ hx => wpAny_mono hx (fun it s₂ hit => ?_) fun _ _ f => f) fun _ _ f => f)
  obtain ⟨items, st1, I, fp, P, Sg, ⟨turn, hQ⟩, X, S2, x2, e2⟩ := hit
  refine comp_block (RR := fun acc Cc => compPost (model C.prog C.w) A No none (PE C sc env lo st s Q) acc Cc) f hA X (X.base S.toStC) S2 hkind hcell hfree' hdot turn ?_
  intro D Cc h' tk m' hn hD hC hDC S' x' hCn
  refine ⟨m', hn, fun h'' hs'' => ?_⟩
  obtain ⟨hr, SE, ev⟩ := comp_end X S2 x2 hn hD hC S' x' hCn hs''
  exact ⟨.lst _, st1, hQ, hr, SE, ev, e2.trans ⟨_, _, rfl⟩⟩

theorem AS_comp {elt target iter : Expr} {ifs : List Expr} {scope : Scope} {y : Str} {py pos spos : Pos} {Q : AFl → Loc → Store → Prop} (f : AV → Option AV)
    (h : AIt C sc n iter lo st fun items st1 => (∀ d ∈ items, Turn C (relS scope sc) n target elt ifs (compLo scope lo) d (f d)) ∧ Q .next (put lo y (.lst (items.filterMap f))) st1)
    (hsw : ∀ env : Env, env.scope = sc → swapsWith (.ListComp elt [⟨target, iter, ifs, 0⟩] scope pos) (some (.Name y py)) spos.line env = pure true := by exact fun env he => by (cases env; cases he; rfl))
    (hy : isSto sc y = true := by rfl)
    (hkind : scope.kind = .function := by rfl) (hcell : ∀ y ∈ scope.names, y.2 ≠ .cell := by decide) (hfree : ∀ y ∈ scope.names, y.2 = .free → sc.names.lookup y.1 = some .cell := by decide)
    (hnames : ∀ y ∈ scope.names, y.2 = .local → scope.names.lookup y.1 = some .local := by decide) (hdot : isFn (relS scope sc) = false := by rfl)
    (hs : ∀ env x, foldedSetIterable iter env x = pure x := by intro _ _; rfl) : AS C sc n (.Assign [.Name y py] (.ListComp elt [⟨target, iter, ifs, 0⟩] scope pos) spos) lo st Q := fun env A s hA S => by
  have hfree' : ∀ y, (y, NameKind.free) ∈ scope.names → sc.names.lookup y = some .cell := fun y hy => hfree _ hy rfl
  rw [exec_Assign_Name_used _ _ _ _ (hsw env S.s.scope)]
  refine wpAny_bind (wpAny_standAt (wpAny_bind ?_))
  show wpAny _ A (do let _ ← comprehension (.ListComp elt [⟨target, iter, ifs, 0⟩] scope pos) scope env (firstIterPos [⟨target, iter, ifs, 0⟩] pos) (newList []) false (eval iter env) (some (assign (.Name y py) env))) _ _ s
  refine wpAny_bind (wpAny_mono (wpAny_comprehension_free (use := some (assign (.Name y py) env)) (Q := fun _ s' => PX C sc env st s Q .next s') rfl (hs env) (clos_ok fun y hy => S.s.has y (hfree' y hy)) hkind hnames
    (wpAny_mono (h env A s hA S) (fun x s₁ hx => wpAny_mono hx (fun it s₂ hit => ?_) fun _ _ f => f) fun _ _ f => f)) (fun _ s' hq => wpAny_pure (wpAny_pure hq)) fun _ _ f => f)
  obtain ⟨items, st1, I, fp, P, Sg, ⟨turn, hQ⟩, X, S2, x2, e2⟩ := hit
  refine comp_block (RR := fun acc Cc => compPost (model C.prog C.w) A No (some (assign (.Name y py) env)) (fun _ s' => PX C sc env st s Q .next s') acc Cc) f hA X (X.base S.toStC) S2 hkind hcell hfree' hdot turn ?_
  intro D Cc h' tk m' hn hD hC hDC S' x' hCn
  obtain ⟨hr, SE, ev⟩ := comp_end X S2 x2 hn hD hC S' x' hCn (Heap.SameBut.refl Cc h')
  show wpAny _ A (assign (.Name y py) env (.ref D)) _ _ _
  refine PyProof.Rows.assign_Name (store_use (s := { s₂ with heap := h', toks := tk }) SE hr hy fun s6 S6 x6 e6 => ?_)
  have hCO : ¬ Own env Cc := fun ho => S2.ownNone hC ho.has
  have hC1 : st1 Cc = none := S2.toStC.none hC
  have hn6 : s6.heap.Ns Cc m' := hn.at' fun o e => (x6 Cc o hCO hC1 e).1
  refine ⟨m', hn6, fun h7 hs7 => ?_⟩
  have hk : ∀ b o, b ∉ [Cc] → s6.heap.get? b = some o → h7.get? b = some o := fun b o hb e => (hs7.2 b (fun q => hb (List.mem_singleton.mpr q))).trans e
  have S7 := S6.but hk hC1 (S2.ownNone hC) (S2.toStC.bnone hC) (nsNot hn6)
  refine ⟨.next, _, st1, hQ, .next, S7, fun b o hb h0 e => ?_, (e2.trans ⟨_, _, rfl⟩).trans (e6.trans ⟨_, _, rfl⟩)⟩
  obtain ⟨a1, a2⟩ := ev b o h0 e
  obtain ⟨b1, b2⟩ := x6 b o hb a2 a1
  refine ⟨hk b o (fun q => ?_) b1, b2⟩
  rw [List.mem_singleton.mp q] at e h0
  have := (x2 Cc o h0 e).1
  rw [hC] at this; cases this
end
end
section
/- data that may be compared -/
mutual
def toPy : AV → PyData
  | .none => .none
  | .bool b => .bool b
  | .int i => .int i
  | .str s => .str s
  | .tup ds => .tuple (toPys ds)
  | .lst ds => .list (toPys ds)
  | .rng _ _ => .none
  | .ref _ => .none
def toPys : List AV → List PyData
  | [] => []
  | d :: ds => toPy d :: toPys ds
end
/-- no reference, no range; depth at most n; plain texts -/
def okAV : Nat → AV → Bool
  | _, .none | _, .bool _ | _, .int _ => true
  | _, .str s => PyData.canLay0 (.str s)
  | n + 1, .tup ds => ds.all (okAV n)
  | n + 1, .lst ds => ds.all (okAV n)
  | _, _ => false

mutual
theorem Rep.reads {h : Heap} {st : Store} : ∀ {v : Value} {d : AV} (n : Nat), Rep h st v d → okAV n d = true → ∃ as, Reads h v (toPy d) as
  | _, _, _, .none, _ => ⟨[], .none⟩
  | _, _, _, .bool b, _ => ⟨[], .bool b⟩
  | _, _, _, .int i t, _ => ⟨[], .int i t⟩
  | _, _, _, .str x t, _ => ⟨[], .str x t⟩
  | _, _, 0, .tup _ _ _, h => by simp [okAV] at h
  | _, _, n + 1, .tup ⟨o, ho, hc, k, hd⟩ _ r, h => by
    obtain ⟨as, hr⟩ := Reps.reads n r (by simpa [okAV] using h)
    exact ⟨as, .tuple ho hc hd (by simpa using hr)⟩
  | _, _, 0, .lst _ _ _, h => by simp [okAV] at h
  | _, _, n + 1, .lst ⟨o, ho, hc, k, hd⟩ _ r, h => by
    obtain ⟨as, hr⟩ := Reps.reads n r (by simpa [okAV] using h)
    exact ⟨_, .list ho hc hd (by simpa using hr)⟩
  | _, _, _, .rng _ _, h => by simp [okAV] at h
  | _, _, _, .ref _, h => by simp [okAV] at h
theorem Reps.reads {h : Heap} {st : Store} : ∀ {vs : List Value} {ds : List AV} (n : Nat), Reps h st vs ds → (∀ d ∈ ds, okAV n d = true) → ∃ as, ReadsAll h vs (toPys ds) as
  | _, _, _, .nil, _ => ⟨[], .nil⟩
  | _, _, n, .cons x r, h => by
    obtain ⟨as, hx⟩ := Rep.reads n x (h _ List.mem_cons_self)
    obtain ⟨bs, hr⟩ := Reps.reads n r fun d hd => h d (List.mem_cons_of_mem _ hd)
    exact ⟨_, .cons hx hr⟩
end
theorem canLay_ok : ∀ (n : Nat) (d : AV), okAV n d = true → (toPy d).canLay0 = true ∧ (toPy d).depth ≤ n := by
  intro n
  induction n with
  | zero =>
    intro d h
    cases d <;> first | exact ⟨rfl, Nat.le_refl _⟩ | (simp [okAV] at h; done) | (simp only [okAV] at h; exact ⟨h, Nat.le_refl _⟩)
  | succ n ih =>
    have all : ∀ ds : List AV, ds.all (okAV n) = true → PyData.canLayAll0 (toPys ds) = true ∧ PyData.depthAll (toPys ds) ≤ n := by
      intro ds
      induction ds with
      | nil => intro _; exact ⟨rfl, Nat.zero_le _⟩
      | cons d ds ih2 =>
        intro h
        rw [List.all_cons, Bool.and_eq_true] at h
        obtain ⟨a1, a2⟩ := ih d h.1
        obtain ⟨b1, b2⟩ := ih2 h.2
        exact ⟨by simp [toPys, PyData.canLayAll0, a1, b1], by simp only [toPys, PyData.depthAll]; omega⟩
    intro d h
    cases d with
    | tup ds =>
      obtain ⟨a, b⟩ := all ds (by simpa [okAV] using h)
      exact ⟨by simpa [toPy, PyData.canLay0] using a, by simp only [toPy, PyData.depth]; omega⟩
    | lst ds =>
      obtain ⟨a, b⟩ := all ds (by simpa [okAV] using h)
      exact ⟨by simpa [toPy, PyData.canLay0] using a, by simp only [toPy, PyData.depth]; omega⟩
    | str s => simp only [okAV] at h; exact ⟨h, by simp [toPy, PyData.depth]⟩
    | none => exact ⟨rfl, Nat.zero_le _⟩
    | bool b => exact ⟨rfl, Nat.zero_le _⟩
    | int i => exact ⟨rfl, Nat.zero_le _⟩
    | rng a b => simp [okAV] at h
    | ref a => simp [okAV] at h

def eqAV (a b : AV) : Bool := PyData.eqv (toPy a) (toPy b)

section
variable {C : Cx} {n : Nat} {st : Store} {Q : AV → Store → Prop}

theorem op_int {t : Value → Value → Sem Value} {i j r : Int} (h : ∀ {A : Around} {E : Value → Shared → Prop} {s : Shared} {u v : Tok} {P : Value → Shared → Prop}, P (.int r s.toks) { s with toks := s.toks + 1 } → wpAny (model C.prog C.w) A (t (.int i u) (.int j v)) P E s)
    (hQ : Q (.int r) st) : AV2 C n t (.int i) (.int j) st Q := fun A s v u hA S ra rb => by
  cases ra
  cases rb
  exact h (PC.here S (.int _ _) hQ)
theorem op_bool {t : Value → Value → Sem Value} {i j : Int} {r : Bool} (h : ∀ {A : Around} {E : Value → Shared → Prop} {s : Shared} {u v : Tok} {P : Value → Shared → Prop}, P (.bool r) s → wpAny (model C.prog C.w) A (t (.int i u) (.int j v)) P E s)
    (hQ : Q (.bool r) st) : AV2 C n t (.int i) (.int j) st Q := fun A s v u hA S ra rb => by
  cases ra
  cases rb
  exact h (PC.here S (.bool _) hQ)
theorem add_i {i j : Int} (hQ : Q (.int (i + j)) st) : AV2 C n (binaryOp .Add) (.int i) (.int j) st Q := op_int (fun h => add_int h) hQ
theorem sub_i {i j : Int} (hQ : Q (.int (i - j)) st) : AV2 C n (binaryOp .Sub) (.int i) (.int j) st Q := op_int (fun h => sub_int h) hQ
theorem mul_i {i j : Int} (hm : IntMulOk i j) (hQ : Q (.int (i * j)) st) : AV2 C n (binaryOp .Mult) (.int i) (.int j) st Q := op_int (fun h => mul_int h hm) hQ
theorem mod_i {i j : Int} (hj : 0 < j) (hQ : Q (.int (i % j)) st) : AV2 C n (binaryOp .Mod) (.int i) (.int j) st Q := by
  have e : i.fmod j = i % j := Int.fmod_eq_emod_of_nonneg i (Int.le_of_lt hj)
  exact op_int (fun h => mod_int' (by omega) (by rw [e]; exact h)) hQ
theorem lt_i {i j : Int} (hQ : Q (.bool (decide (i < j))) st) : AV2 C n (compareOp .Lt) (.int i) (.int j) st Q := op_bool (fun h => lt_int h) hQ
theorem le_i {i j : Int} (hQ : Q (.bool (decide (i ≤ j))) st) : AV2 C n (compareOp .LtE) (.int i) (.int j) st Q := op_bool (fun h => le_int h) hQ
theorem gt_i {i j : Int} (hQ : Q (.bool (decide (j < i))) st) : AV2 C n (compareOp .Gt) (.int i) (.int j) st Q := op_bool (fun h => gt_int h) hQ
theorem ge_i {i j : Int} (hQ : Q (.bool (decide (j ≤ i))) st) : AV2 C n (compareOp .GtE) (.int i) (.int j) st Q := op_bool (fun h => ge_int h) hQ
theorem neg_i {i : Int} (hQ : Q (.int (-i)) st) : AV1 C n (unaryOp .USub) (.int i) st Q := fun A s v hA S ra => by
  cases ra
  exact neg_int (PC.here S (.int _ _) hQ)
theorem room_depth {A : Around} (hA : Room n A) {a b : Nat} (h : a ≤ 4) : A.units + min a b < cLine := by
  have := hA.2.2
  have : min a b ≤ a := Nat.min_le_left _ _
  omega
theorem eq_d {a b : AV} (ha : okAV 4 a = true) (hb : okAV 4 b = true) (hQ : Q (.bool (eqAV a b)) st) : AV2 C n (compareOp .Eq) a b st Q := fun A s v u hA S ra rb => by
  obtain ⟨as, xa⟩ := ra.reads 4 ha
  obtain ⟨bs, xb⟩ := rb.reads 4 hb
  obtain ⟨la, da⟩ := canLay_ok 4 a ha
  obtain ⟨lb, db⟩ := canLay_ok 4 b hb
  exact SeqAt.compareEq_reads xa xb la lb (room_depth hA da) (PC.here S (.bool _) hQ)
theorem ne_d {a b : AV} (ha : okAV 4 a = true) (hb : okAV 4 b = true) (hQ : Q (.bool (!eqAV a b)) st) : AV2 C n (compareOp .NotEq) a b st Q := fun A s v u hA S ra rb => by
  obtain ⟨as, xa⟩ := ra.reads 4 ha
  obtain ⟨bs, xb⟩ := rb.reads 4 hb
  obtain ⟨la, da⟩ := canLay_ok 4 a ha
  obtain ⟨lb, db⟩ := canLay_ok 4 b hb
  exact SeqAt.compareNe_reads xa xb la lb (room_depth hA da) (PC.here S (.bool _) hQ)
/-- a list of the store, looked at as a value -/
theorem ref_lst {B : Heap} {s : Shared} (S : StC B s.heap st) {a : Addr} {ds : List AV} (h : st a = some (.list ds)) : ∃ st', (∀ b o, st' b = some o → st b = some o) ∧ Rep s.heap st' (.ref a) (.lst ds) := by
  obtain ⟨vs, hl, hr⟩ := S.objs a _ h
  exact ⟨del st a, del_le, .lst hl.isList (by simp [del]) (hr.tk (.weak del_le))⟩
theorem eq_ref {a : Addr} {ds : List AV} {b : AV} (h : st a = some (.list ds)) (ha : okAV 4 (.lst ds) = true) (hb : okAV 4 b = true) (hQ : Q (.bool (eqAV (.lst ds) b)) st) : AV2 C n (compareOp .Eq) (.ref a) b st Q := fun A s v u hA S ra rb => by
  cases ra
  obtain ⟨st', hw, rl⟩ := ref_lst S h
  obtain ⟨as, xa⟩ := rl.reads 4 ha
  obtain ⟨bs, xb⟩ := rb.reads 4 hb
  obtain ⟨la, da⟩ := canLay_ok 4 _ ha
  obtain ⟨lb, db⟩ := canLay_ok 4 b hb
  exact SeqAt.compareEq_reads xa xb la lb (room_depth hA da) (PC.here S (.bool _) hQ)
theorem ne_ref {a : Addr} {ds : List AV} {b : AV} (h : st a = some (.list ds)) (ha : okAV 4 (.lst ds) = true) (hb : okAV 4 b = true) (hQ : Q (.bool (!eqAV (.lst ds) b)) st) : AV2 C n (compareOp .NotEq) (.ref a) b st Q := fun A s v u hA S ra rb => by
  cases ra
  obtain ⟨st', hw, rl⟩ := ref_lst S h
  obtain ⟨as, xa⟩ := rl.reads 4 ha
  obtain ⟨bs, xb⟩ := rb.reads 4 hb
  obtain ⟨la, da⟩ := canLay_ok 4 _ ha
  obtain ⟨lb, db⟩ := canLay_ok 4 b hb
  exact SeqAt.compareNe_reads xa xb la lb (room_depth hA da) (PC.here S (.bool _) hQ)

/- sums of sequences -/
theorem add_t {xs ys : List AV} (hz : xs.length + ys.length ≤ 100000) (hQ : Q (.tup (xs ++ ys)) st) : AV2 C n (binaryOp .Add) (.tup xs) (.tup ys) st Q := fun A s v u hA S ra rb => by
  cases ra with
  | tup ht hta hv =>
    rename_i t vs
    cases rb with
    | tup hb htb hw =>
      rename_i b ws
      have hsz : vs.length + ws.length ≤ sizeLine := by rw [hv.length, hw.length]; unfold sizeLine; omega
      have both := hv.append hw
      have F : Fr ⟨#[], {}⟩ mainGlobals s.heap C.mg := ⟨C.g.keeps S.base, fun b o e => by simp [Heap.get?] at e, Nat.zero_le _⟩
      obtain ⟨⟨cls, dd, data, sl⟩, ho, hc, n1, hd⟩ := id ht
      obtain ⟨⟨cls2, dd2, data2, sl2⟩, ho2, hc2, n2, hd2⟩ := id hb
      simp only at hc hd hc2 hd2
      subst hc hd hc2 hd2
      by_cases hv0 : vs = []
      · subst hv0
        have : xs = [] := by have := hv.length; exact List.length_eq_zero_iff.mp this.symm
        subst this
        exact concat_meets ⟨_, ho, rfl⟩ ⟨_, ho2, rfl⟩ noFill_tuple_add seq_tuple_add PySem.F.slot_tuple_add PySem.F.entry_tuple_add (PySem.F.args_tuple_add_2 _ _)
          (tuple_addW0 t b _ ws.toArray n1 n2 dd dd2 sl sl2 (by simp)) ⟨ho, ho2, PC.here S (.tup hb htb hw) hQ⟩
      · by_cases hw0 : ws = []
        · subst hw0
          have : ys = [] := by have := hw.length; exact List.length_eq_zero_iff.mp this.symm
          subst this
          rw [List.append_nil] at hQ
          exact concat_meets ⟨_, ho, rfl⟩ ⟨_, ho2, rfl⟩ noFill_tuple_add seq_tuple_add PySem.F.slot_tuple_add PySem.F.entry_tuple_add (PySem.F.args_tuple_add_2 _ _)
            (tuple_addW1 t b vs.toArray _ n1 n2 dd dd2 sl sl2 (by simpa using hv0) (by simp)) ⟨ho, ho2, PC.here S (.tup ht hta hv) hQ⟩
        · refine concat_meets ⟨_, ho, rfl⟩ ⟨_, ho2, rfl⟩ noFill_tuple_add seq_tuple_add PySem.F.slot_tuple_add PySem.F.entry_tuple_add (PySem.F.args_tuple_add_2 _ _)
            (tuple_addW2 t b vs.toArray ws.toArray n1 n2 dd dd2 sl sl2 (by simpa using hv0) (by simpa using hw0) (by rw [List.size_toArray, List.size_toArray]; exact hsz)) ⟨ho, ho2, ?_⟩
          rw [show vs.toArray ++ ws.toArray = (vs ++ ws).toArray by simp]
          have up : ∀ b o, s.heap.get? b = some o → (s.heap.push { cls := .type "tuple", data := .seq (vs ++ ws).toArray }).get? b = some o := fun b o e => Heap.get?_push_of_some _ e
          exact ⟨_, st, hQ, .tup (IsTup.new _ _) (S.none (size_none _)) (both.tk (.grow up)), S.grow up, .grow up, ⟨_, _, rfl⟩⟩
theorem add_l {xs ys : List AV} (hz : xs.length + ys.length ≤ 100000) (hQ : Q (.lst (xs ++ ys)) st) : AV2 C n (binaryOp .Add) (.lst xs) (.lst ys) st Q := fun A s v u hA S ra rb => by
  cases ra with
  | lst ht hta hv =>
    rename_i t vs
    cases rb with
    | lst hb htb hw =>
      rename_i b ws
      have hsz : vs.length + ws.length ≤ sizeLine := by rw [hv.length, hw.length]; unfold sizeLine; omega
      have both := hv.append hw
      obtain ⟨⟨cls, dd, data, sl⟩, ho, hc, n1, hd⟩ := id ht
      obtain ⟨⟨cls2, dd2, data2, sl2⟩, ho2, hc2, n2, hd2⟩ := id hb
      simp only at hc hd hc2 hd2
      subst hc hd hc2 hd2
      refine concat_meets ⟨_, ho, rfl⟩ ⟨_, ho2, rfl⟩ noFill_list_add seq_list_add PySem.F.slot_list_add PySem.F.entry_list_add (PySem.F.args_list_add_2 _ _) (list_addW t b vs.toArray ws.toArray n1 n2 dd dd2 sl sl2 (by simpa using hsz)) ⟨ho, ho2, ?_⟩
      rw [show vs.toArray ++ ws.toArray = (vs ++ ws).toArray by simp]
      have up : ∀ b o, s.heap.get? b = some o → (s.heap.push { cls := .type "list", data := .seq (vs ++ ws).toArray }).get? b = some o := fun b o e => Heap.get?_push_of_some _ e
      exact ⟨_, st, hQ, .lst ⟨_, Heap.get?_push_size _ rfl, rfl, _, rfl⟩ (S.none (size_none _)) (both.tk (.grow up)), S.grow up, .grow up, ⟨_, _, rfl⟩⟩
end
end
section
section
variable {C : Cx} {sc : Scope} {n : Nat} {env : Env} {A : Around} {s : Shared} {lo : Loc} {st : Store} {E : Value → Shared → Prop}

theorem seq_spec {k : Int} {n j : Nat} (h : seqIndex? k n = some j) : (0 ≤ k → k = j) ∧ (k < 0 → -(n : Int) ≤ k) ∧ j < n := by
  unfold seqIndex? at h
  by_cases q : k < 0
  · simp only [q, if_true] at h
    split at h
    · rename_i g
      simp only [Bool.and_eq_true, decide_eq_true_eq] at g
      have := Option.some.inj h
      omega
    · cases h
  · simp only [q, if_false] at h
    split at h
    · rename_i g
      simp only [Bool.and_eq_true, decide_eq_true_eq] at g
      have := Option.some.inj h
      omega
    · cases h
theorem setItem_plain {prog : Program} {w : World} {l : Addr} {items : Array Value} {k : Int} {t : Tok} {v : Value} {j : Nat} {Q : Unit → Shared → Prop} (hl : s.heap.PlainList l items)
    (h0 : -(2 ^ 63) ≤ k) (hfit : k < 2 ^ 63) (hj : seqIndex? k items.size = some j) (hn : j < items.size)
    (hQ : ∀ h', h'.PlainList l (items.setIfInBounds j v) → Heap.SameBut l s.heap h' → Q () { s with heap := h' }) :
    wpAny (model prog w) A (setItem (.ref l) (.int k t) v) Q E s := by
  have hL := hl.isList
  obtain ⟨ne, ho⟩ := hl
  unfold setItem
  try with_reducible refine wpAny_holding ?_
  first | refine wpAny_bind (wpAny_pure ?_) | skip
  refine wpAny_bind (wpAny_sequenceKey hL.typeIs (by decide) ?_)
  refine wpAny_bind (wpAny_callSpecial?_slot (name := Str.ofString "__setitem__") hL.typeIs slot_list_setitem
    (wpAny_call_entry slot_list_setitem hL.typeIs entry_list_setitem ?_ (args_list_setitem _ _ _)))
  show wpAny _ _ (Builtin.List.listSubscript? (.int k t) >>= _) _ _ s
  have hf : Builtin.List.listFitsIndex k = true := by
    by_cases q : 0 ≤ k
    · exact fitsIndex_of q hfit
    · exact fitsIndex_neg (by omega) h0
  refine wpAny_bind (wpAny_listSubscript_int hf ?_)
  have hx' : items[j]? = some items[j] := Array.getElem?_eq_getElem hn
  have hfin : (s.heap.update l (Obj.mapSeq (·.setIfInBounds j v))).PlainList l (items.setIfInBounds j v) := by
    have e : Obj.mapSeq (·.setIfInBounds j v) { cls := .type "list", data := .seq items ne } = { cls := .type "list", data := .seq (items.setIfInBounds j v) ne } := by simp [Obj.mapSeq]
    exact ⟨ne, by rw [Heap.get?_update_self _ ho (by rw [e]; rfl), e]⟩
  by_cases q : 0 ≤ k
  · obtain ⟨i, rfl⟩ := Int.eq_ofNat_of_zero_le q
    have : i = j := by have := (seq_spec hj).1 q; omega
    subst this
    show wpAny _ _ ((seqItemAt l i >>= fun r => pure (r.map (i, ·))) >>= _) _ _ s
    refine wpAny_bind (wpAny_bind (wpAny_seqItemAt ho rfl (wpAny_pure ?_)))
    rw [hx']
    show wpAny _ _ (setSeqItemAt l i v >>= _) _ _ s
    refine wpAny_bind (wpAny_setSeqItemAt ho rfl ?_)
    first
      | exact wpAny_bind (wpAny_pure (wpAny_pure ⟨.none, rfl, wpAny_pure (hQ _ hfin (Heap.SameBut.update ..))⟩))
      | exact wpAny_pure ⟨.none, rfl, wpAny_pure (hQ _ hfin (Heap.SameBut.update ..))⟩
  · obtain ⟨i, rfl⟩ : ∃ i : Nat, k = Int.negSucc i := by
      cases k with
      | ofNat n => exact absurd (Int.natCast_nonneg n) q
      | negSucc n => exact ⟨n, rfl⟩
    show wpAny _ _ ((Builtin.List.listItems (.ref l) >>= fun xs => pure ((seqIndex? (Int.negSucc i) xs.size).bind fun i => xs[i]?.map (i, ·))) >>= _) _ _ s
    refine wpAny_bind (wpAny_bind ?_)
    show wpAny _ _ (seqItems? (.ref l) >>= _) _ _ s
    refine wpAny_bind (wpAny_seqItems ho rfl (wpAny_pure (wpAny_pure ?_)))
    rw [hj]
    simp only [Option.bind_some, hx', Option.map_some]
    refine wpAny_bind (wpAny_setSeqItemAt ho rfl ?_)
    first
      | exact wpAny_bind (wpAny_pure (wpAny_pure ⟨.none, rfl, wpAny_pure (hQ _ hfin (Heap.SameBut.update ..))⟩))
      | exact wpAny_pure ⟨.none, rfl, wpAny_pure (hQ _ hfin (Heap.SameBut.update ..))⟩

theorem getItem_lst {prog : Program} {w : World} {l : Addr} {items : Array Value} {k : Int} {t : Tok} {x : Value} {j : Nat} {Q : Value → Shared → Prop} (hl : s.heap.IsList l items)
    (h0 : -(2 ^ 63) ≤ k) (hfit : k < 2 ^ 63) (hj : seqIndex? k items.size = some j) (hx : items[j]? = some x) (h : Q x s) : wpAny (model prog w) A (getItem (.ref l) (.int k t)) Q E s := by
  by_cases q : 0 ≤ k
  · refine wpAny_getItem_list hl q hfit ?_ h
    have e := (seq_spec hj).1 q
    have : k.toNat = j := by omega
    rw [this]; exact hx
  · have hb := (seq_spec hj).2.1 (by omega)
    refine wpAny_getItem_list_neg hl (by omega) hb h0 ?_ h
    rw [seqIndex_neg (by omega) hb] at hj
    rw [Option.some.inj hj]; exact hx

def AGet (C : Cx) (n : Nat) (a i : AV) (st : Store) (Q : AV → Store → Prop) : Prop :=
  ∀ A s v u, Room n A → StC C.B s.heap st → Rep s.heap st v a → Rep s.heap st u i → ∃ T id, s.TypeIs v T ∧ typeLookup (.type T) "__getitem__" = pure (some (.builtin id)) ∧ wpAny (model C.prog C.w) A (getItem v u) (PC C st s Q) No s

theorem AE_sub {value slice : Expr} {pos : Pos} {Q : AV → Store → Prop} (h : AE C sc n value lo st fun a st1 => AE C sc n slice lo st1 fun i st2 => AGet C n a i st2 Q)
    (hs : ∀ o i, subscripted slice false o i = operate [o, i] (getItem o i) := by intro _ _; rfl) : AE C sc n (.Subscript value slice pos) lo st Q := fun env A s hA S => by
  refine Subscript_ (h.use hA S fun va s1 a st1 h1 ra S1 x1 e1 => h1.use hA S1 fun vb s2 b st2 h2 rb S2 x2 e2 => ?_)
  obtain ⟨T, id, hT, hl, hg⟩ := h2 A s2 va vb hA S2.toStC (ra.tk x2.kp) rb
  exact tail_any hT hl (wpAny_mono hg (fun v s' p => p.toPE S2 (x1.trans x2) (e1.trans e2)) fun _ _ f => f.el) (hs _ _)

theorem get_t {ds : List AV} {k : Int} {j : Nat} {d : AV} {Q : AV → Store → Prop} (hj : seqIndex? k ds.length = some j) (hd : ds[j]? = some d) (hQ : Q d st) (h0 : -(2 ^ 63) ≤ k := by omega) (h1 : k < 2 ^ 63 := by omega) :
    AGet C n (.tup ds) (.int k) st Q := fun A s v u hA S ra ri => by
  cases ri
  cases ra with
  | tup ht hta hv =>
    obtain ⟨x, hx, hr⟩ := hv.get hd
    have hz := hv.length
    exact ⟨_, _, ht.typeIs, slot_tuple_getitem.lookup, PyProof.Rows.getItem_tuple ht h0 h1 (by rw [List.size_toArray, hz]; exact hj) (by simpa using hx) (PC.here S hr hQ)⟩
theorem get_l {ds : List AV} {k : Int} {j : Nat} {d : AV} {Q : AV → Store → Prop} (hj : seqIndex? k ds.length = some j) (hd : ds[j]? = some d) (hQ : Q d st) (h0 : -(2 ^ 63) ≤ k := by omega) (h1 : k < 2 ^ 63 := by omega) :
    AGet C n (.lst ds) (.int k) st Q := fun A s v u hA S ra ri => by
  cases ri
  cases ra with
  | lst ht hta hv =>
    obtain ⟨x, hx, hr⟩ := hv.get hd
    have hz := hv.length
    exact ⟨_, _, ht.typeIs, slot_list_getitem.lookup, getItem_lst ht h0 h1 (by rw [List.size_toArray, hz]; exact hj) (by simpa using hx) (PC.here S hr hQ)⟩
theorem get_r {a : Addr} {ds : List AV} {k : Int} {j : Nat} {d : AV} {Q : AV → Store → Prop} (ha : st a = some (.list ds)) (hj : seqIndex? k ds.length = some j) (hd : ds[j]? = some d) (hQ : Q d st) (h0 : -(2 ^ 63) ≤ k := by omega) (h1 : k < 2 ^ 63 := by omega) :
    AGet C n (.ref a) (.int k) st Q := fun A s v u hA S ra ri => by
  cases ri
  cases ra
  obtain ⟨vs, hl, hv⟩ := S.objs a _ ha
  obtain ⟨x, hx, hr⟩ := hv.get hd
  have hz := hv.length
  exact ⟨_, _, hl.isList.typeIs, slot_list_getitem.lookup, getItem_lst hl.isList h0 h1 (by rw [List.size_toArray, hz]; exact hj) (by simpa using hx) (PC.here S hr hQ)⟩
theorem get_cells {a : Addr} {p : Program} {w : World} {c : AV} {k : Int} {Q : AV → Store → Prop} (ha : st a = some (.tape C.prog C.w c k)) (hQ : Q c st) : AGet C n (.ref a) (.str (Str.ofString "cells")) st Q := fun A s v u hA S ra ri => by
  cases ri
  cases ra
  obtain ⟨v₁, v₂, hd, r₁, r₂⟩ := S.objs a _ ha
  exact ⟨_, _, hd.typeIs, slot_dict_getitem.lookup, wpAny_getItem_of (knd := strKind C.prog C.w) (strKind_is _ _ _ _) hd.mapOf (v := v₁) rfl (PC.here S r₁ hQ)⟩
theorem get_spot {a : Addr} {p : Program} {w : World} {c : AV} {k : Int} {Q : AV → Store → Prop} (ha : st a = some (.tape C.prog C.w c k)) (hQ : Q (.int k) st) : AGet C n (.ref a) (.str (Str.ofString "spot")) st Q := fun A s v u hA S ra ri => by
  cases ri
  cases ra
  obtain ⟨v₁, v₂, hd, r₁, r₂⟩ := S.objs a _ ha
  exact ⟨_, _, hd.typeIs, slot_dict_getitem.lookup, wpAny_getItem_of (knd := strKind C.prog C.w) (strKind_is _ _ _ _) hd.mapOf (v := v₂) rfl (PC.here S r₂ hQ)⟩
end
end
section
section
variable (C : Cx) (sc : Scope) (n : Nat)
def ATg (t : Expr) (lo : Loc) (st : Store) (d : AV) (K : Loc → Store → Prop) : Prop :=
  ∀ env A s v (P : Unit → Shared → Prop) (E : Value → Shared → Prop), Room n A → StE C.B sc env s.heap lo st → Rep s.heap st v d →
    (∀ s' lo' st', K lo' st' → StE C.B sc env s'.heap lo' st' → EvoX env st s.heap st' s'.heap → Same s s' → P () s') → wpAny (model C.prog C.w) A (assign t env v) P E s
def ASet (a i d : AV) (st : Store) (K : Store → Prop) : Prop :=
  ∀ A s v u x, Room n A → StC C.B s.heap st → Rep s.heap st v a → Rep s.heap st u i → Rep s.heap st x d →
    wpAny (model C.prog C.w) A (setItem v u x) (fun _ s' => ∃ st', K st' ∧ StC C.B s'.heap st' ∧ Evo st s.heap st' s'.heap ∧ Same s s') No s
end
section
variable {C : Cx} {sc : Scope} {n : Nat} {env : Env} {A : Around} {s : Shared} {lo : Loc} {st : Store} {E : Value → Shared → Prop}
theorem AAs.toT {t : Expr} {d : AV} {lo' : Loc} {K : Loc → Store → Prop} (h : AAs C sc n t lo st d lo') (hK : K lo' st) : ATg C sc n t lo st d K := fun env A s v P E hA S hr k =>
  h env A s v P E hA S hr fun s' S' x' e' => k s' lo' st hK S' x' e'
theorem ATg_sub {o i : Expr} {pos : Pos} {d : AV} {K : Loc → Store → Prop} (h : AE C sc n o lo st fun a st1 => AE C sc n i lo st1 fun k st2 => ASet C n a k d st2 fun st3 => K lo st3) : ATg C sc n (.Subscript o i pos) lo st d K := fun env A s v P E hA S hr kk => by
  rw [PySem.assign_Subscript]
  refine wpAny_bind (wpAny_holding (h.use hA S fun va s1 a st1 h1 ra S1 x1 e1 => wpAny_bind (wpAny_holding (h1.use hA S1 fun vb s2 b st2 h2 rb S2 x2 e2 => ?_))))
  refine wpAny_bind (wpAny_standAt (wpAny_bind (wpAny_holding ?_)))
  refine wpAny_mono (h2 A s2 va vb v hA S2.toStC (ra.tk x2.kp) rb ((hr.tk x1.kp).tk x2.kp)) (fun _ s' p => ?_) fun _ _ f => f.el
  refine wpAny_release' ?_
  obtain ⟨st', hK, hS, hx, hs⟩ := p
  exact kk s' lo st' hK (S2.evo hS hx) ((x1.trans x2).trans hx).toX ((e1.trans e2).trans hs)
theorem ATg_pair {t u : Expr} {k : Nat} {pos : Pos} {a b : AV} {K : Loc → Store → Prop} (h : ATg C sc n t lo st a fun lo1 st1 => ATg C sc n u lo1 st1 b K)
    (he : ∀ env, assignEach [t, u] env = [(false, assign t env), (false, assign u env)] := by intro _; rfl) : ATg C sc n (.Tuple [t, u] k pos) lo st (.tup [a, b]) K := fun env A s v P E hA S hr kk => by
  refine unpack_use hA S hr (by rw [he]; rfl) (by rw [he]; rfl) fun s₁ vs S₁ hv x₁ e₁ => ?_
  rw [he]
  cases hv with
  | cons ra hv => cases hv with
    | cons rb hv =>
      cases hv
      refine assignInOrder_cons (h env A s₁ _ _ _ hA S₁ ra fun s₂ lo₂ st₂ h₂ S₂ x₂ e₂ => ?_)
      refine assignInOrder_cons (h₂ env A s₂ _ _ _ hA S₂ (rb.tk (S₁.kpX x₂)) fun s₃ lo₃ st₃ h₃ S₃ x₃ e₃ => ?_)
      exact assignInOrder_nil (kk s₃ lo₃ st₃ h₃ S₃ ((x₁.toX.trans x₂).trans x₃) ((e₁.trans e₂).trans e₃))
theorem AS_asg {t e : Expr} {pos : Pos} {Q : AFl → Loc → Store → Prop} (h : AE C sc n e lo st fun d st' => ATg C sc n t lo st' d fun lo' st'' => Q .next lo' st'')
    (hs : ∀ env : Env, env.scope = sc → swapsWithSole [t] e pos.line env = pure false := by exact fun env he => by (cases env; cases he; rfl))
    (hw : ∀ env : Env, env.scope = sc → swappedStores [t] e env = pure none := by exact fun env he => by (cases env; cases he; rfl))
    (ha : ∀ env, (assignEach [t] env).map (·.2) = [assign t env] := by intro _; rfl) : AS C sc n (.Assign [t] e pos) lo st Q := fun env A s hA S => by
  rw [exec_Assign]
  refine wpAny_bind (wpAny_standAt ?_)
  rw [hs env S.s.scope]
  refine wpAny_bind (wpAny_pure ?_)
  rw [if_neg (by decide)]
  refine wpAny_bind (h.use hA S fun v s1 d st1 h2 r1 S1 x1 e1 => ?_)
  rw [hw env S.s.scope, ha]
  refine wpAny_bind (wpAny_pure ?_)
  show wpAny (model C.prog C.w) A (do assignAll v [assign t env]; pure Flow.next) (PX C sc env st s Q) No s1
  refine wpAny_bind (h2 env A s1 v _ _ hA S1 r1 fun s2 lo' st' hQ S2 x2 e2 => wpAny_pure ?_)
  exact ⟨.next, lo', st', hQ, .next, S2, x1.toX.trans x2, e1.trans e2⟩

theorem Reps.set {h : Heap} {st : Store} {vs : List Value} {ds : List AV} (r : Reps h st vs ds) {v : Value} {d : AV} (x : Rep h st v d) (j : Nat) : Reps h st (vs.set j v) (ds.set j d) := by
  induction ds generalizing vs j with
  | nil => cases r; exact .nil
  | cons d' ds ih =>
    cases r with
    | cons y r =>
      cases j with
      | zero => exact .cons x r
      | succ j => exact .cons y (ih r j)
theorem set_r {a : Addr} {ds : List AV} {k : Int} {j : Nat} {d : AV} {K : Store → Prop} (ha : st a = some (.list ds)) (hj : seqIndex? k ds.length = some j) (hK : K (upd st a (.list (ds.set j d)))) (h0 : -(2 ^ 63) ≤ k := by omega) (h1 : k < 2 ^ 63 := by omega) :
    ASet C n (.ref a) (.int k) d st K := fun A s v u x hA S ra ri rx => by
  cases ri
  cases ra
  obtain ⟨vs, hl, hv⟩ := S.objs a _ ha
  have hz := hv.length
  refine setItem_plain hl h0 h1 (by rw [List.size_toArray, hz]; exact hj) (by rw [List.size_toArray, hz]; exact (seq_spec hj).2.2) fun h' hl' hs' => ?_
  have k6 : ∀ b ob, b ≠ a → s.heap.get? b = some ob → h'.get? b = some ob := fun b ob hb e => (hs'.2 b hb).trans e
  have ev : Evo st s.heap (upd st a (.list (ds.set j d))) h' := .turn ha k6
  exact ⟨_, hK, S.turn ha k6 ⟨vs.set j x, by simpa using hl', (hv.set rx j).tk ev.kp⟩, ev, ⟨_, _, rfl⟩⟩
theorem set_spot {a : Addr} {c : AV} {k i : Int} {K : Store → Prop} (ha : st a = some (.tape C.prog C.w c k)) (hK : K (upd st a (.tape C.prog C.w c i))) : ASet C n (.ref a) (.str (Str.ofString "spot")) (.int i) st K := fun A s v u x hA S ra ri rx => by
  cases ri
  cases ra
  obtain ⟨v₁, v₂, hd, r₁, r₂⟩ := S.objs a _ ha
  refine wpAny_setItem_pairs (knd := strKind C.prog C.w) (k := Str.ofString "spot") (strKind_is _ _ _ _) hd (fun h' hd' hs' => ?_) (by show 2 ≤ sizeLine; decide)
  have k6 : ∀ b ob, b ≠ a → s.heap.get? b = some ob → h'.get? b = some ob := fun b ob hb e => (hs'.2 b hb).trans e
  have ev : Evo st s.heap (upd st a (.tape C.prog C.w c i)) h' := .turn ha k6
  exact ⟨_, hK, S.turn ha k6 ⟨v₁, x, hd', r₁.tk ev.kp, rx.tk ev.kp⟩, ev, ⟨_, _, rfl⟩⟩
end
end
section
abbrev nums (ns : List Int) : List AV := ns.map AV.int
theorem repInts {h : Heap} {st : Store} : ∀ {vs : List Value} {ns : List Int}, Reps h st vs (nums ns) → IntsAre vs ns
  | _, [], .nil => .nil
  | _, n :: ns, .cons a r => by cases a; exact .cons n _ (repInts r)
theorem intsRep {h : Heap} {st : Store} : ∀ {vs : List Value} {ns : List Int}, IntsAre vs ns → Reps h st vs (nums ns)
  | _, _, .nil => .nil
  | _, _, .cons n t r => .cons (.int n t) (intsRep r)
theorem intItems_of : ∀ {vs : List Value} {ns : List Int}, IntsAre vs ns → ∃ xs : Array (Int × Tok), vs.toArray = intItems xs ∧ xs.toList.map (·.1) = ns
  | _, _, .nil => ⟨#[], by simp [intItems], rfl⟩
  | _, _, .cons n t r => by
    obtain ⟨xs, h1, h2⟩ := intItems_of r
    refine ⟨((n, t) :: xs.toList).toArray, ?_, by simp [h2]⟩
    have := congrArg Array.toList h1
    simp only [intItems] at this ⊢
    simp only [List.map_toArray, List.map_cons]
    rw [← Array.toList_inj]
    simpa using this

section
variable {C : Cx} {sc : Scope} {n : Nat} {env : Env} {A : Around} {s : Shared} {lo : Loc} {st : Store} {E : Value → Shared → Prop} {Q : AV → Store → Prop}

theorem PC.up {v : Value} {d : AV} {h' : Heap} {tk : Nat} (S : StC C.B s.heap st) (k : ∀ b o, s.heap.get? b = some o → h'.get? b = some o) (hr : Rep h' st v d) (hQ : Q d st) : PC C st s Q v { s with heap := h', toks := tk } :=
  ⟨d, st, hQ, hr, S.grow k, .grow k, ⟨_, _, rfl⟩⟩

theorem len_t {ds : List AV} (hz : ds.length ≤ 1000000) (hQ : Q (.int ds.length) st) : ACall C n (.builtin "len") [.tup ds] st Q := fun A s vs hA S hr => by
  cases hr with
  | cons ra hr =>
    cases hr
    cases ra with
    | tup ht hta hv =>
      have hl := hv.length
      refine PyProof.Rows.len_tuple ht (by rw [List.size_toArray, hl]; omega) ?_
      rw [List.size_toArray, hl]
      exact PC.here S (.int _ _) hQ
theorem len_l {ds : List AV} (hz : ds.length ≤ 1000000) (hQ : Q (.int ds.length) st) : ACall C n (.builtin "len") [.lst ds] st Q := fun A s vs hA S hr => by
  cases hr with
  | cons ra hr =>
    cases hr
    cases ra with
    | lst ht hta hv =>
      have hl := hv.length
      refine PyProof.Rows.len_list ht (by rw [List.size_toArray, hl]; omega) ?_
      rw [List.size_toArray, hl]
      exact PC.here S (.int _ _) hQ
theorem len_r {a : Addr} {ds : List AV} (ha : st a = some (.list ds)) (hz : ds.length ≤ 1000000) (hQ : Q (.int ds.length) st) : ACall C n (.builtin "len") [.ref a] st Q := fun A s vs hA S hr => by
  cases hr with
  | cons ra hr =>
    cases hr
    cases ra
    obtain ⟨vs, hp, hv⟩ := S.objs a _ ha
    have hl := hv.length
    refine PyProof.Rows.len_list hp.isList (by rw [List.size_toArray, hl]; omega) ?_
    rw [List.size_toArray, hl]
    exact PC.here S (.int _ _) hQ
theorem max_i {a b : Int} (hQ : Q (.int (max a b)) st) : ACall C n (.builtin "max") [.int a, .int b] st Q := fun A s vs hA S hr => by
  cases hr with
  | cons ra hr => cases hr with
    | cons rb hr =>
      cases hr; cases ra; cases rb
      refine max_two_ints hA.1 fun h' tk k => ?_
      by_cases q : b > a
      · rw [if_pos q]
        rw [Int.max_eq_right (by omega)] at hQ
        exact PC.up S k (.int _ _) hQ
      · rw [if_neg q]
        rw [Int.max_eq_left (by omega)] at hQ
        exact PC.up S k (.int _ _) hQ
theorem min_i {a b : Int} (hQ : Q (.int (min a b)) st) : ACall C n (.builtin "min") [.int a, .int b] st Q := fun A s vs hA S hr => by
  cases hr with
  | cons ra hr => cases hr with
    | cons rb hr =>
      cases hr; cases ra; cases rb
      refine min_two_ints hA.1 fun h' tk k => ?_
      by_cases q : b < a
      · rw [if_pos q]
        rw [Int.min_eq_right (by omega)] at hQ
        exact PC.up S k (.int _ _) hQ
      · rw [if_neg q]
        rw [Int.min_eq_left (by omega)] at hQ
        exact PC.up S k (.int _ _) hQ
theorem sum_l {ns : List Int} (hQ : Q (.int ns.sum) st) : ACall C n (.builtin "sum") [.lst (nums ns)] st Q := fun A s vs hA S hr => by
  cases hr with
  | cons ra hr =>
    cases hr
    cases ra with
    | lst ht hta hv =>
      obtain ⟨xs, hx, hm⟩ := intItems_of (repInts hv)
      rw [hx] at ht
      refine sum_intListG hA.1 ht fun h' tk t' k => ?_
      have : preSum (numAt xs) xs.size = ns.sum := by
        rw [preSum_eq, hm, List.take_of_length_le (by rw [← hm]; simp)]
      rw [this]
      exact PC.up S k (.int _ _) hQ
theorem rng_1 {b : Int} (hQ : Q (.rng 0 b) st) : ACall C n (.type "range") [.int b] st Q := fun A s vs hA S hr => by
  cases hr with
  | cons ra hr =>
    cases hr; cases ra
    refine call_range_1 (PC.up S (fun b o e => Heap.get?_push_of_some _ e) (.rng (IsRange.new ..) (S.none (size_none _))) hQ)
theorem rng_2 {a b : Int} (hQ : Q (.rng a b) st) : ACall C n (.type "range") [.int a, .int b] st Q := fun A s vs hA S hr => by
  cases hr with
  | cons ra hr => cases hr with
    | cons rb hr =>
      cases hr; cases ra; cases rb
      refine call_range_2 (PC.up S (fun b o e => Heap.get?_push_of_some _ e) (.rng (IsRange.new ..) (S.none (size_none _))) hQ)
theorem tup_l {ds : List AV} (hz : ds.length ≤ 100000) (hQ : Q (.tup ds) st) : ACall C n (.type "tuple") [.lst ds] st Q := fun A s vs hA S hr => by
  cases hr with
  | cons ra hr =>
    cases hr
    cases ra with
    | lst ht hta hv =>
      rename_i a us
      have hl := hv.length
      refine call_tuple_list ht (fun h' k => ?_) (by rw [List.size_toArray, hl]; unfold sizeLine; omega)
      have k' : ∀ b o, s.heap.get? b = some o → (h'.push { cls := .type "tuple", data := .seq us.toArray }).get? b = some o := fun b o e => Heap.get?_push_of_some _ (k b o e)
      have hn : s.heap.get? h'.objs.size = none := by
        cases q : s.heap.get? h'.objs.size with
        | none => rfl
        | some o => exact absurd (Heap.lt_size (k _ _ q)) (Nat.lt_irrefl _)
      exact PC.up S k' (.tup (IsTup.new _ _) (S.none hn) (hv.tk (.grow k'))) hQ
theorem lst_l {ds : List AV} (hz : ds.length ≤ 100000) (hQ : Q (.lst ds) st) : ACall C n (.type "list") [.lst ds] st Q := fun A s vs hA S hr => by
  cases hr with
  | cons ra hr =>
    cases hr
    cases ra with
    | lst ht hta hv =>
      have hl := hv.length
      obtain ⟨o, ho, hc, m, hd⟩ := ht
      refine call_list_seq (hsz := by rw [List.size_toArray, hl]; unfold sizeLine; omega) _ (.inl rfl) ho hc hd fun h' c' k hD => ?_
      exact PC.up S k (.lst ⟨_, hD, rfl, c', rfl⟩ (S.none (size_none _)) (hv.tk (.grow k))) hQ
theorem lst_rng {a b : Int} (h1 : -1000 ≤ a) (h2 : a ≤ 1000) (h3 : -1000 ≤ b) (h4 : b ≤ 1000) (hQ : Q (.lst (intsFrom a (b - a).toNat)) st) : ACall C n (.type "list") [.rng a b] st Q := fun A s vs hA S hr => by
  cases hr with
  | cons ra hr =>
    cases hr
    cases ra with
    | rng hx hta =>
      refine call_list_range hA.1 hx (range_small (by omega) (by omega) (by omega) (by omega)) (rngSize _ _) (by omega) fun h' tk acc c' k hD hI => ?_
      refine PC.up S k (.lst (vs := acc.toList) ⟨_, by simpa using hD, rfl, c', rfl⟩ (S.none (size_none _)) ?_) hQ
      have : ∀ (m : Nat) (acc : List Value), acc.length = m → (∀ (j : Nat) (v : Value), acc[j]? = some v → ∃ t, v = Value.int (a + (j : Nat) * 1) t) → Reps h' st acc (intsFrom a m) := by
        intro m
        induction m with
        | zero => intro acc hl _; rw [List.length_eq_zero_iff.mp hl]; exact .nil
        | succ m ih =>
          intro acc hl hi
          have e : acc = acc.dropLast ++ [acc.getLast (by intro q; rw [q] at hl; cases hl)] := (List.dropLast_concat_getLast _).symm
          have e2 : intsFrom a (m + 1) = intsFrom a m ++ [AV.int (a + (m : Nat))] := by simp [intsFrom, List.range_succ]
          rw [e, e2]
          refine (ih _ (by simp [hl]) fun j v hj => ?_).append (.one ?_)
          · refine hi j v ?_
            rw [List.getElem?_dropLast] at hj
            split at hj
            · exact hj
            · cases hj
          · obtain ⟨t, ht⟩ := hi m (acc.getLast (by intro q; rw [q] at hl; cases hl)) (by rw [List.getLast_eq_getElem, List.getElem?_eq_getElem (by omega)]; simp [hl])
            rw [ht, Int.mul_one]
            exact .int _ _
      exact this _ _ (by simpa using hI.1) fun j v hj => hI.2 j v (by simpa using hj)

theorem in_l {k : Int} {ns : List Int} (hQ : Q (.bool (ns.any (· == k))) st) : AV2 C n (compareOp .In) (.int k) (.lst (nums ns)) st Q := fun A s v u hA S ra rb => by
  cases ra
  cases rb with
  | lst ht hta hv => exact in_list_ints ht (repInts hv) (PC.here S (.bool _) hQ)
theorem notin_l {k : Int} {ns : List Int} (hQ : Q (.bool (!(ns.any (· == k)))) st) : AV2 C n (compareOp .NotIn) (.int k) (.lst (nums ns)) st Q := fun A s v u hA S ra rb => by
  cases ra
  cases rb with
  | lst ht hta hv => exact notin_list_ints ht (repInts hv) (PC.here S (.bool _) hQ)

/- slices -/
theorem AE_upto {value : Expr} {k : Int} {w : Nat} {cp p pos : Pos} (h : AE C sc n value lo st fun d st1 => ∃ ds, d = .lst ds ∧ ds.length ≤ 100000 ∧ 0 ≤ k ∧ Q (.lst (ds.take k.toNat)) st1) :
    AE C sc n (.Subscript value (.Slice none (some (.Constant (.int k) w cp)) none p) pos) lo st Q := fun env A s hA S => by
  refine Subscript_ (h.use hA S fun v s1 d st1 h1 r1 S1 x1 e1 => ?_)
  obtain ⟨ds, rfl, hz, h0, hQ⟩ := h1
  cases r1 with
  | lst ht hta hv =>
    rename_i l vs
    refine wpAny_Slice ?_
    rw [evalPart_none]
    refine wpAny_pure ?_
    rw [evalPart_some]
    refine wpAny_Constant_int ?_
    refine wpAny_pure ?_
    have hl := hv.length
    refine tail_any (ht.push _).typeIs slot_list_getitem.lookup (wpAny_getItem_list_slice (ht.push _) (Heap.IsSliceOf.new ..) .none (.int _ _) .none (by simp) ?_ (by rw [List.size_toArray, hl]; unfold sizeLine; omega)) (ops := [_, _]) rfl
    have up : ∀ b o, s1.heap.get? b = some o → ((s1.heap.push { cls := .type "slice", data := .fields #[.none, .int k s1.toks, .none] }).push { cls := .type "list", data := .seq (slicePick vs.toArray none (some k) none) }).get? b = some o :=
      fun b o e => Heap.get?_push_of_some _ (Heap.get?_push_of_some _ e)
    have hn : s1.heap.get? (s1.heap.push { cls := .type "slice", data := .fields #[.none, .int k s1.toks, .none] }).objs.size = none := by
      rw [Heap.size_push]; exact Heap.get?_none_of_le (by omega)
    have hpick : slicePick vs.toArray none (some k) none = (vs.take k.toNat).toArray := by
      obtain ⟨b, rfl⟩ := Int.eq_ofNat_of_zero_le h0
      by_cases hb : b ≤ vs.length
      · exact slicePick_upto _ _ (by simpa using hb)
      · have := slicePick_upto vs.toArray vs.length (by simp)
        rw [show slicePick vs.toArray none (some (b : Int)) none = slicePick vs.toArray none (some (vs.length : Int)) none from ?_, this]
        · simp [List.take_of_length_le (show vs.length ≤ b by omega)]
        · have e : sliceBounds none (some (b : Int)) none vs.toArray.size = sliceBounds none (some (vs.length : Int)) none vs.toArray.size := by
            simp only [sliceBounds, Option.getD_none]
            have h1 : ¬ ((b : Int) < 0) := by omega
            have h2 : ¬ ((vs.length : Int) < 0) := by omega
            simp only [h1, h2, if_false, show (1 : Int) > 0 by decide, if_true, List.size_toArray]
            congr 2
            omega
          unfold slicePick
          rw [e]
    have take : ∀ (j : Nat) {h : Heap} {st : Store} {vs : List Value} {ds : List AV}, Reps h st vs ds → Reps h st (vs.take j) (ds.take j) := by
      intro j
      induction j with
      | zero => intros; simp only [List.take_zero]; exact .nil
      | succ j ih =>
        intro h st vs ds r
        cases r with
        | nil => exact .nil
        | cons a r => exact .cons a (ih r)
    refine ⟨_, st1, hQ, .lst (vs := vs.take k.toNat) ⟨_, Heap.get?_push_size _ rfl, rfl, 0, by rw [hpick]⟩ (S1.toStC.none hn) ((take _ hv).tk (.grow up)), S1.evo (S1.toStC.grow up) (.grow up), x1.trans (.grow up), e1.trans ⟨_, _, rfl⟩⟩
end
end
section
set_option maxRecDepth 100000

namespace RF
theorem owner_rev : Manifest.owners.lookup (String.ofList ['d', 'e', 's', 'r', 'e', 'v', 'e', 'r'].reverse) = some Manifest.sig_reversed := by kernel_rfl
theorem slot_rev_next : Slot "reversed" "__next__" "reversed.__next__" :=
  .of (owner := "reversed") (n := "__next__") (by rw [typeLookup_type, builtinLookup_eq_fast]; kernel_rfl) (by decide +kernel) (by decide +kernel) (by decide +kernel)
    (by first | exact .inl (by decide +kernel) | exact .inr (by decide +kernel)) (by rw [isSubtype_type]; kernel_rfl)
theorem entry_rev_next : entryFor table "reversed.__next__" = some Builtin.«reversed.__next__» := entryFor_of_tree (by kernel_rfl)
theorem args_rev_next_1 (a : Value) : argsOk "reversed.__next__" ⟨[a], []⟩ := by
  unfold argsOk; rw [signature?_of (id := "reversed.__next__") (n := ['_', '_', 't', 'x', 'e', 'n', '_', '_']) (o := ['d', 'e', 's', 'r', 'e', 'v', 'e', 'r']) (by kernel_rfl) owner_rev]; kernel_rfl
theorem slot_rev_iter : Slot "reversed" "__iter__" "reversed.__iter__" :=
  .of (owner := "reversed") (n := "__iter__") (by rw [typeLookup_type, builtinLookup_eq_fast]; kernel_rfl) (by decide +kernel) (by decide +kernel) (by decide +kernel)
    (by first | exact .inl (by decide +kernel) | exact .inr (by decide +kernel)) (by rw [isSubtype_type]; kernel_rfl)
theorem args_rev_iter_1 (a : Value) : argsOk "reversed.__iter__" ⟨[a], []⟩ := by
  unfold argsOk; rw [signature?_of (id := "reversed.__iter__") (n := ['_', '_', 'r', 'e', 't', 'i', '_', '_']) (o := ['d', 'e', 's', 'r', 'e', 'v', 'e', 'r']) (by kernel_rfl) owner_rev]; kernel_rfl
theorem entry_rev_iter : entryFor table "reversed.__iter__" = some Builtin.«dict_keyiterator.__iter__» :=
  entryFor_alias (id' := "dict_keyiterator.__iter__") (by rw [fastTable_eq_tree]; kernel_rfl) (by first | rfl | decide +kernel) (by decide +kernel) (by rw [fastTable_eq_tree]; kernel_rfl)
theorem tuple_no_reversed : typeLookup (.type "tuple") "__reversed__" = pure none := by rw [typeLookup_type, builtinLookup_eq_fast]; kernel_rfl
theorem slot_rev_init : Slot "reversed" "__init__" "object.__init__" :=
  .of (owner := "object") (n := "__init__") (by rw [typeLookup_type, builtinLookup_eq_fast]; kernel_rfl) (by decide +kernel) (by decide +kernel) (by decide +kernel)
    (by first | exact .inl (by decide +kernel) | exact .inr (by decide +kernel)) (by rw [isSubtype_type]; kernel_rfl)
theorem called_reversed : TypeCalled "reversed" "reversed.__new__" "object.__init__" :=
  ⟨by decide +kernel, by decide +kernel, ⟨_, _, F.mro_reversed⟩, F.made_reversed, by decide +kernel, F.sub_reversed_self, slot_rev_init⟩
end RF

def revT (t : Addr) (i : Int) : Obj := { cls := .type "reversed", data := .fields #[.ref t, rawInt i] }
section
variable {prog : Program} {w : World} {A : Around} {E : Value → Shared → Prop} {s : Shared}
theorem newClass_rev (a : Value) : Builtin.SmallTypes.newClass "reversed" ⟨[.type "reversed", a], []⟩ = pure (.type "reversed", [a]) := newClass_reversed a
theorem call_rev {t : Addr} {items : Array Value} {Q : Value → Shared → Prop} (ht : IsTup s.heap t items) (hz : items.size ≤ 100000)
    (h : ∀ tk, Q (.ref s.heap.objs.size) { s with heap := s.heap.push (revT t ((items.size : Int) - 1)), toks := tk }) : wpAny (model prog w) A (call (.type "reversed") [.ref t]) Q E s := by
  refine callType_new (S := fun _ R s => IsTup s.heap t items ∧ ∀ tk, R (.ok (.ret (.ref s.heap.objs.size))) { s with heap := s.heap.push (revT t ((items.size : Int) - 1)), toks := tk }) RF.called_reversed (by decide) (F.typeCall_reversed_1 _) (F.newCall_reversed_1 _) (fun obj => F.args_object_init_2 obj _) F.entry_reversed_new
    (.of_wp fun prog w A R s hs => ?_) ⟨ht, fun tk => ⟨⟨_, Heap.get?_push_size _ rfl, rfl⟩, h tk⟩⟩
  obtain ⟨ht, h⟩ := hs
  unfold Builtin.«reversed.__new__»
  refine wpAny_bind (wpAny_of_eq (newClass_reversed _) ?_)
  try dsimp only
  refine wpAny_bind (wpAny_of_eq (a := ()) (by first | rfl | kernel_rfl) ?_)
  refine wpAny_bind (wpAny_of_eq (a := ()) (by first | rfl | kernel_rfl) ?_)
  try dsimp only
  refine wpAny_bind (wpAny_specialOf ht.typeIs RF.tuple_no_reversed ?_)
  try dsimp only
  refine wpAny_bind ?_
  show wpAny _ _ (isInstance (.ref t) (.type "dict") >>= _) _ _ _
  refine wpAny_bind (wpAny_isInstance ht.typeIs F.sub_tuple_dict ?_)
  rw [if_neg (by decide)]
  refine wpAny_bind (wpAny_specialOf ht.typeIs slot_tuple_getitem.lookup ?_)
  try dsimp only
  rw [if_pos (by decide)]
  refine wpAny_pure ?_
  rw [if_neg (by decide)]
  refine wpAny_bind (PyProof.Rows.len_tuple ht (by omega) ?_)
  refine wpAny_bind (wpAny_of_eq (a := some (items.size : Int)) rfl ?_)
  try dsimp only
  refine wpAny_bind ?_
  show wpAny _ _ (newObj (.type "reversed") (.fields #[Value.ref t, rawInt ((items.size : Int) - 1)])) _ _ _
  refine wpAny_newObj_type ?_
  exact wpAny_pure ⟨_, rfl, h _⟩

theorem pyNext_revT_item {it t : Addr} {i : Nat} {items : Array Value} {x : Value} {Q : Option Value → Shared → Prop} (hit : s.heap.get? it = some (revT t (i : Int))) (ht : IsTup s.heap t items) (hx : items[i]? = some x) (hz : items.size ≤ 100000)
    (hQ : ∀ h' tk, h'.get? it = some (revT t ((i : Int) - 1)) → Heap.SameBut it s.heap h' → Q (some x) { s with heap := h', toks := tk }) : wpAny (model prog w) A (pyNext (.ref it)) Q E s := by
  have hT : s.TypeIs (.ref it) "reversed" := ⟨_, hit, rfl⟩
  have hlt : i < items.size := by
    by_cases q : i < items.size
    · exact q
    · rw [Array.getElem?_eq_none (by omega)] at hx; cases hx
  unfold pyNext
  refine wpAny_bind (wpAny_attempt (wpAny_callSpecial?_slot (name := Str.ofString "__next__") hT RF.slot_rev_next
    (wpAny_call_entry RF.slot_rev_next hT RF.entry_rev_next ?_ (RF.args_rev_next_1 _))))
  unfold Builtin.«reversed.__next__»
  refine wpAny_bind (wpAny_of_eq (a := (Value.ref it, [])) rfl ?_)
  try dsimp only
  refine wpAny_bind (wpAny_field hit rfl (x := .ref t) rfl ?_)
  refine wpAny_bind (wpAny_field hit rfl (x := rawInt (i : Int)) rfl ?_)
  show wpAny _ _ (if (i : Int) < 0 then _ else _) _ _ s
  rw [if_neg (by omega)]
  refine wpAny_bind (wpAny_specialOf ht.typeIs slot_tuple_getitem.lookup ?_)
  rw [if_neg (by decide)]
  refine wpAny_bind (wpAny_mkInt ?_)
  refine wpAny_bind (wpAny_attempt (PyProof.Rows.getItem_tuple (j := i) ht (by omega) (by omega) (by unfold seqIndex?; simp only [show ¬ ((i : Int) < 0) by omega, if_false]; rw [if_pos (by simp only [Bool.and_eq_true, decide_eq_true_eq]; omega)]; simp) hx ?_))
  try dsimp only
  refine wpAny_bind (wpAny_field hit rfl (x := rawInt (i : Int)) rfl ?_)
  show wpAny _ _ (setField (.ref it) 1 (rawInt ((i : Int) - 1)) >>= _) _ _ _
  refine wpAny_bind (wpAny_setField hit rfl (by simp) ?_)
  first
  | refine wpAny_pure ⟨x, rfl, wpAny_pure (hQ _ _ ?_ (Heap.SameBut.update ..))⟩
  | refine wpAny_bind (wpAny_pure (wpAny_pure ⟨x, rfl, wpAny_pure (hQ _ _ ?_ (Heap.SameBut.update ..))⟩))
  exact Heap.get?_update_self _ hit rfl

theorem pyNext_revT_end {it t : Addr} {Q : Option Value → Shared → Prop} (hh : A.handled = none) (hit : s.heap.get? it = some (revT t (-1)))
    (hQ : ∀ h' tk, Heap.ExtBut it s.heap h' → Q none { s with heap := h', toks := tk }) : wpAny (model prog w) A (pyNext (.ref it)) Q E s := by
  have hT : s.TypeIs (.ref it) "reversed" := ⟨_, hit, rfl⟩
  unfold pyNext
  refine wpAny_bind (wpAny_attempt (wpAny_callSpecial?_slot (name := Str.ofString "__next__") hT RF.slot_rev_next
    (wpAny_call_entry RF.slot_rev_next hT RF.entry_rev_next ?_ (RF.args_rev_next_1 _))))
  unfold Builtin.«reversed.__next__»
  refine wpAny_bind (wpAny_of_eq (a := (Value.ref it, [])) rfl ?_)
  try dsimp only
  refine wpAny_bind (wpAny_field hit rfl (x := .ref t) rfl ?_)
  refine wpAny_bind (wpAny_field hit rfl (x := rawInt (-1)) rfl ?_)
  show wpAny _ _ (if (-1 : Int) < 0 then _ else _) _ _ s
  rw [if_pos (by decide)]
  refine wpAny_bind (wpAny_rule ?_)
  show wpAny _ _ ((setField (.ref it) 1 (rawInt (-1)) >>= fun _ => setField (.ref it) 0 .none) >>= _) _ _ _
  refine wpAny_bind (wpAny_bind (wpAny_setField hit rfl (by simp) ?_))
  have hit2 : (s.heap.update it (Obj.mapFields (·.setIfInBounds 1 (rawInt (-1))))).get? it = some (revT t (-1)) := Heap.get?_update_self _ hit rfl
  refine wpAny_setField (s := { s with heap := s.heap.update it (Obj.mapFields (·.setIfInBounds 1 (rawInt (-1)))) }) hit2 rfl (by simp) ?_
  have e1 : Heap.ExtBut it s.heap (s.heap.update it (Obj.mapFields (·.setIfInBounds 1 (rawInt (-1))))) := (Heap.SameBut.update ..).extBut
  have e2 : Heap.ExtBut it s.heap ((s.heap.update it (Obj.mapFields (·.setIfInBounds 1 (rawInt (-1))))).update it (Obj.mapFields (·.setIfInBounds 0 .none))) := fun b o hb e => (Heap.SameBut.update ..).extBut b o hb (e1 b o hb e)
  refine wpAny_bind ?_
  show wpAny _ _ (newExc (.type "StopIteration") [] >>= _) _ _ _
  refine wpAny_bind ?_
  simp only [newExc, newTuple]
  refine wpAny_bind (wpAny_newObj_type ?_ (by size_fits))
  refine wpAny_bind (m := firstArgMember _ _) (wpAny_of_eq (a := Value.none) (by first | rfl | (simp only [firstArgMember]; rfl)) ?_)
  refine wpAny_newObj_type ?_ (by size_fits)
  simp only [raiseNew]
  refine wpAny_bind (wpAny_handled ?_)
  first | rw [show A.in1.handled = none from hh] | rw [hh]
  refine wpAny_bind (wpAny_pure (wpAny_throw ?_))
  refine wpAny_bind (wpAny_isInstance (T := "StopIteration") (b := true) ⟨_, Heap.get?_push_size _ rfl, rfl⟩ isSubtype_stop ?_)
  exact wpAny_pure (hQ _ _ ((e2.push _).push _))

theorem pyIter_revT {it t : Addr} {i : Int} {Q : Value → Shared → Prop} (hit : s.heap.get? it = some (revT t i)) (h : Q (.ref it) s) : wpAny (model prog w) A (pyIter (.ref it)) Q E s := by
  have hT : s.TypeIs (.ref it) "reversed" := ⟨_, hit, rfl⟩
  refine wpAny_pyIter_slot hT RF.slot_rev_iter (wpAny_call_entry RF.slot_rev_iter hT RF.entry_rev_iter ?_ (RF.args_rev_iter_1 _))
  show wpAny _ _ (ret (.ref it)) _ _ s
  exact wpAny_pure ⟨_, rfl, "reversed", _, hT, RF.slot_rev_next.lookup, h⟩

theorem Walks.revT (hh : A.handled = none) (I l : Addr) (hne : l ≠ I) (items : Array Value) (hz : items.size ≤ 100000) :
    Walks prog w A I [I, l] [I] items.size (fun i v => items[items.size - 1 - i]? = some v) (fun i h => i ≤ items.size ∧ h.get? I = some (revT l ((items.size : Int) - 1 - (i : Int))) ∧ IsTup h l items) where
  sub := fun b hb => by simp at hb; simp [hb]
  frame := fun _ _ _ x hk => ⟨x.1, hk I (by simp) _ x.2.1, let ⟨o, ho, r⟩ := x.2.2; ⟨o, hk l (by simp) _ ho, r⟩⟩
  item := fun i s Q E hi x hQ => by
    have e : (items.size : Int) - 1 - (i : Int) = ((items.size - 1 - i : Nat) : Int) := by omega
    have hit := x.2.1
    rw [e] at hit
    have hx : items[items.size - 1 - i]? = some (items[items.size - 1 - i]'(by omega)) := Array.getElem?_eq_getElem (by omega)
    refine pyNext_revT_item hit x.2.2 hx hz fun h' tk hit' hs' => ?_
    have e2 : ((items.size - 1 - i : Nat) : Int) - 1 = (items.size : Int) - 1 - ((i + 1 : Nat) : Int) := by omega
    rw [e2] at hit'
    exact hQ _ h' tk hx ⟨hi, hit', let ⟨o, ho, r⟩ := x.2.2; ⟨o, (hs'.2 l hne).trans ho, r⟩⟩ fun b o hb eo => hs'.extBut b o (fun h => hb (by simp [h])) eo
  done := fun s Q E x hQ => by
    have e : (items.size : Int) - 1 - (items.size : Int) = -1 := by omega
    have hit := x.2.1
    rw [e] at hit
    exact pyNext_revT_end hh hit fun h' tk he' => hQ h' tk fun b o hb eo => he' b o (fun h => hb (by simp [h])) eo
  self := fun _ _ _ _ x hQ => pyIter_revT x.2.1 hQ
end

section
variable {C : Cx} {sc : Scope} {n : Nat} {env : Env} {A : Around} {s : Shared} {lo : Loc} {st : Store} {E : Value → Shared → Prop}
theorem AIt_rev {x : Str} {xp pos : Pos} {e : Expr} {K : List AV → Store → Prop} (R : Res C sc x (.type "reversed"))
    (h : AE C sc n e lo st fun d st' => ∃ ds, d = .tup ds ∧ ds.length ≤ 10000 ∧ K ds.reverse st')
    (he : ∀ env, starEach [e] env = (false, eval e env) :: starEach [] env := by intro _; rfl)
    (hd : (x == ("__debug__" : Str)) = false := by decide) : AIt C sc n (.Call (.Name x xp) [e] [] pos) lo st K := fun env A s hA S => by
  show wpAny _ A (eval (.Name x xp) env >>= fun f => callWith pos f [] (backTo pos (starEach [e] env)) []) _ _ s
  refine wpAny_bind (wpAny_Name (load_res S R ?_) hd)
  have h' := (AEs_cons (es := []) (Q := fun l st1 => ∃ ds, l = [.tup ds] ∧ ds.length ≤ 10000 ∧ K ds.reverse st1) (AE.mono h fun d st1 ⟨ds, h1, h2, h3⟩ => AEs_nil ⟨ds, by rw [h1], h2, h3⟩) he).use (pos := pos) (env := env) (A := A) (s := s)
    (P := fun vs s₁ => True ∧ wpAny (model C.prog C.w) A (call (.type "reversed") ([] ++ vs)) (fun x s₁ => wpAny (model C.prog C.w) A (pyIter x) (fun it s₂ =>
    ∃ items st' I fp P Str, K items st' ∧ Itr C A env st st' s.heap s₂.heap items it I fp P Str ∧ StE C.B sc env s₂.heap lo st' ∧ Evo st s.heap st' s₂.heap ∧ Same s s₂) No s₁) No s₁) (E := No) hA S fun vs s1 ds st1 h1 r1 S1 x1 e1 => ⟨trivial, by
      obtain ⟨ds, rfl, hz, hK⟩ := h1
      cases r1 with
      | cons ra hr =>
        cases hr
        cases ra with
        | tup ht hta hv =>
          rename_i a us
          have hl := hv.length
          have hsz : us.toArray.size = ds.length := by rw [List.size_toArray, hl]
          refine call_rev ht (by omega) fun tk => ?_
          have up : ∀ b o, s1.heap.get? b = some o → (s1.heap.push (revT a ((us.toArray.size : Int) - 1))).get? b = some o := fun b o e => Heap.get?_push_of_some _ e
          have hnew := Heap.get?_push_size s1.heap (o := revT a ((us.toArray.size : Int) - 1)) rfl
          refine pyIter_revT hnew ?_
          have hne : a ≠ s1.heap.objs.size := by obtain ⟨o, ho, _⟩ := ht; exact lt_ne ho
          have W := Walks.revT (prog := C.prog) (w := C.w) hA.1 s1.heap.objs.size a hne us.toArray (by omega)
          rw [hsz, ← List.length_reverse] at W
          refine ⟨ds.reverse, st1, s1.heap.objs.size, _, _, _, hK, ⟨rfl, W, ⟨Nat.zero_le _, ?_, ?_⟩, ?_, x1.newer (size_none _), ?_, ?_, ?_⟩, S1.evo (S1.toStC.grow up) (.grow up), x1.trans (.grow up), e1.trans ⟨_, _, rfl⟩⟩
          · rw [hnew, hsz, List.length_reverse]; simp
          · obtain ⟨o, ho, r⟩ := ht; exact ⟨o, up _ _ ho, r⟩
          · intro b hb
            rcases List.mem_cons.mp hb with rfl | hb
            · exact ⟨S1.toStC.none (size_none _), S1.ownNone (size_none _), _, hnew⟩
            · rw [List.mem_singleton.mp hb]
              obtain ⟨o, ho, hc, k, hd⟩ := ht
              refine ⟨hta, fun hown => ?_, o, up _ _ ho⟩
              exact S1.ownNot hown ho (.inl ⟨_, _, hd⟩)
          · rw [List.length_reverse]; unfold sizeLine; omega
          · intro i u d hP he
            have hi : i < ds.length := by
              have := (List.getElem?_eq_some_iff.mp he).1
              simpa using this
            rw [List.getElem?_reverse hi] at he
            obtain ⟨u', hu', hr'⟩ := hv.get he
            rw [List.length_reverse] at hP
            have : u' = u := by simpa [hu'] using hP
            subst this
            exact hr'.tk (.grow up)
          · intro i h' q
            refine ⟨⟨_, _, q.2.1, rfl, by decide⟩, _, q.2.1, ?_⟩
            rintro (⟨_, _, q⟩ | ⟨q, _⟩)
            · cases q
            · exact absurd q (by simp [revT])⟩
  rw [he] at h' ⊢
  refine callWith_of (P := fun h => True) ?_ (fun h _ => ?_) (evalArgs_plain h')
  · rfl
  · obtain ⟨k, hk, L⟩ := (Kept.type (C := C) (id := "reversed")) C.B fun _ _ e => e
    exact ⟨.machine, .inr (.inl rfl), .now⟩
end
end
section
set_option maxRecDepth 100000

section
variable {C : Cx} {sc : Scope} {n : Nat} {env : Env} {A : Around} {s : Shared} {lo : Loc} {st : Store} {E : Value → Shared → Prop} {Q : AV → Store → Prop}

/-- a method of a list of the store, with one argument -/
theorem AE_meth {x : Str} {o : Expr} {apos pos : Pos} {e : Expr} {id : String} (slot : Slot "list" x id) (hty : typeOf (.builtin id) = pure (.type "method_descriptor"))
    (h : AE C sc n o lo st fun d st1 => ∃ a ds, d = .ref a ∧ st1 a = some (.list ds) ∧ AE C sc n e lo st1 fun b st2 => (∃ ds', st2 a = some (.list ds')) ∧ ACall C n (.builtin id) [.ref a, b] st2 Q)
    (he : ∀ env, starEach [e] env = (false, eval e env) :: starEach [] env := by intro _; rfl)
    (hp : ∀ env, eval (.Call (.Attribute o x apos) [e] [] pos) env = (do
      let ov ← eval o env
      standAt apos.atName
      let (f, first) ← holding [ov] (getMethod ov x (pure true))
      callWith pos f first (backTo pos (starEach [e] env)) []) ∨ ∃ pl, eval (.Call (.Attribute o x apos) [e] [] pos) env = (do
      let ov ← eval o env
      standAt apos.atName
      let (f, first) ← holding [ov] (getMethod ov x pl)
      callWith pos f first (backTo pos (starEach [e] env)) []) := by intro _; exact .inr ⟨_, rfl⟩) :
    AE C sc n (.Call (.Attribute o x apos) [e] [] pos) lo st Q := fun env A s hA S => by
  obtain ⟨pl, hq⟩ : ∃ pl, eval (.Call (.Attribute o x apos) [e] [] pos) env = (do
      let ov ← eval o env
      standAt apos.atName
      let (f, first) ← holding [ov] (getMethod ov x pl)
      callWith pos f first (backTo pos (starEach [e] env)) []) := by
    rcases hp env with q | q
    · exact ⟨_, q⟩
    · exact q
  refine MethodCall_ (pl := pl) (h.use hA S fun v s1 d st1 h1 r1 S1 x1 e1 => ?_) hq
  obtain ⟨a, ds, rfl, ha, h2⟩ := h1
  cases r1
  obtain ⟨vs, hl, hr⟩ := S1.objs a _ ha
  have hno : s1.heap.NoDictAt (.ref a) := by obtain ⟨k, e⟩ := hl; exact ⟨_, e, rfl⟩
  refine getMethod_list_of slot hty hl.isList hno ?_
  refine callWith_method1 (rest := []) ?_ (he env) rfl
  have h3 := (AEs_cons (es := []) (Q := fun l st2 => ∃ b, l = [b] ∧ ACall C n (.builtin id) [.ref a, b] st2 Q) (AE.mono h2 fun d st1 ⟨_, q⟩ => AEs_nil ⟨d, rfl, q⟩) he)
  refine h3.use hA S1 fun us s2 bs st2 h4 r2 S2 x2 e2 => ?_
  obtain ⟨b, rfl, h4⟩ := h4
  cases r2 with
  | cons rb r2 =>
    cases r2
    exact wpAny_mono (h4 A s2 _ hA S2.toStC (.cons (.ref a) (.cons rb .nil))) (fun v s' p => p.toPE S2 (x1.trans x2) (e1.trans e2)) fun _ _ f => f.el

theorem append_r {a : Addr} {ds : List AV} {d : AV} (ha : st a = some (.list ds)) (hz : ds.length ≤ 100000) (hQ : Q .none (upd st a (.list (ds ++ [d])))) : ACall C n (.builtin "list.append") [.ref a, d] st Q := fun A s vs hA S hr => by
  cases hr with
  | cons ra hr => cases hr with
    | cons rb hr =>
      cases hr; cases ra
      rename_i x
      obtain ⟨us, hl, hv⟩ := S.objs a _ ha
      have hz' := hv.length
      refine wpAny_list_append_plain hl (fun h' hl' hs' => ?_) (by rw [List.size_toArray, hz']; unfold sizeLine; omega)
      have k6 : ∀ b ob, b ≠ a → s.heap.get? b = some ob → h'.get? b = some ob := fun b ob hb e => (hs'.2 b hb).trans e
      have ev : Evo st s.heap (upd st a (.list (ds ++ [d]))) h' := .turn ha k6
      exact ⟨.none, _, hQ, .none, S.turn ha k6 ⟨us ++ [x], by simpa using hl', (hv.append (.one rb)).tk ev.kp⟩, ev, ⟨_, _, rfl⟩⟩

theorem Walks.shift {prog : Program} {w : World} {I : Addr} {fp wr : List Addr} {G : Array GenState → Array GenState → Prop} {k : Nat} {P : Nat → Value → Prop} {St : Nat → Shared → Prop} (W : WalksS prog w A I fp wr G k P St) (m : Nat) (P0 : Nat → Value → Prop) :
    WalksS prog w A I fp wr G (m + k) (fun i v => if i < m then P0 i v else P (i - m) v) (fun i s => m ≤ i ∧ St (i - m) s) where
  sub := W.sub
  grefl := W.grefl
  gtrans := W.gtrans
  frame := fun i s h' tk x ht hk => ⟨x.1, W.frame _ s h' tk x.2 ht hk⟩
  item := fun i s Q E hi x hQ => W.item (i - m) s Q E (by have := x.1; omega) x.2 fun v s' hP hst hm => hQ v s' (by rw [if_neg (by have := x.1; omega)]; exact hP) ⟨by have := x.1; omega, by rw [show i + 1 - m = i - m + 1 by have := x.1; omega]; exact hst⟩ hm
  done := fun s Q E x hQ => W.done s Q E (by rw [show k = m + k - m by omega]; exact x.2) hQ
  self := fun i s Q E x hQ => W.self (i - m) s Q E x.2 hQ

theorem extend_range {prog : Program} {w : World} {R : Result → Shared → Prop} {r : Addr} {a b : Int} {t u v : Tok} {k : Nat} (hh : A.handled = none) (hr : IsRange s.heap r a b 1 t u v) (hsmall : Builtin.Range.small a b 1 = true)
    (hn : Builtin.Range.rangeSize a b 1 = k) (S : Addr) (res : Value) {items : Array Value} (hlen : items.size + k ≤ 1000000) (hS : s.heap.PlainList S items)
    (hR : ∀ h' tk acc', (∀ b o, b ≠ S → s.heap.get? b = some o → h'.get? b = some o) → h'.PlainList S acc' →
      ItemsOf (fun i v => if i < items.size then items[i]? = some v else ∃ t, v = .int (a + ((i - items.size : Nat) : Int) * 1) t) acc' (items.size + k) → R (.ok (.ret res)) { s with heap := h', toks := tk }) :
    wpAny (model prog w) A.in1 (Builtin.List.listExtendWith (.ref S) (.ref r) res)
      (fun fin s' => match fin with | .done f => R (.ok f) s' | .again c' => c'.quiet = true ∧ codeAny (model prog w) A c' R s') (fun e s' => R (.error e) s') s := by
  obtain ⟨c₀, hS⟩ := hS
  have hSr : S ≠ r := fun e => by rw [e, hr] at hS; simp at hS
  have hSlt : S < s.heap.objs.size := Heap.lt_size hS
  have hSI : S ≠ s.heap.objs.size := Nat.ne_of_lt hSlt
  have hSf : S ∉ [s.heap.objs.size] := fun hm => hSI (List.mem_singleton.mp hm)
  have W := Walks.shift (Walks.range (prog := prog) (w := w) (A := A.in1) hh s.heap.objs.size a 1 k).toS items.size fun i v => items[i]? = some v
  have key : ∀ (h : Heap) (c₁ tk : Nat), IsRangeIter h s.heap.objs.size (a + ((0 : Nat) : Int) * 1) ((k : Int) - ((0 : Nat) : Int)) 1 → (∀ b o, b ≠ S → s.heap.get? b = some o → h.get? b = some o) →
      h.get? S = some { cls := .type "list", data := .seq items c₁ } → codeAny (model prog w) A (.builtin "list.extend.loop" ⟨[.ref S, .ref s.heap.objs.size, res], []⟩) R { s with heap := h, toks := tk } := by
    intro h c₁ tk hit hk hS₁
    refine codeAny_extend_loopS W (by rw [sizeLine_eq]; omega) S hSf res k items.size _ items c₁ (by omega) (by omega) ⟨Nat.le_refl _, by rw [Nat.sub_self]; exact hit⟩ hS₁ ⟨rfl, fun j v hj => ?_⟩ fun s' acc' c' hm hS' hacc => ?_
    · have : j < items.size := by
        by_cases q : j < items.size
        · exact q
        · rw [Array.getElem?_eq_none (by omega)] at hj; cases hj
      show if j < items.size then _ else _
      rw [if_pos this]; exact hj
    rw [Moved.eq_with hm]
    refine hR s'.heap s'.toks acc' (fun b o hb e => hm.heap b o (fun hmem => ?_) (hk b o hb e)) ⟨c', hS'⟩ hacc
    rcases List.mem_cons.mp hmem with e' | hmem
    · exact hb e'
    · exact absurd (Heap.lt_size e) (by rw [List.mem_singleton.mp hmem]; exact Nat.lt_irrefl _)
  unfold Builtin.List.listExtendWith
  refine wpAny_bind (wpAny_typeOf (T := "range") ⟨_, hr, rfl⟩ ?_)
  have h1 : Builtin.List.listSameRef (.ref S) (.ref r) = false := by simp [Builtin.List.listSameRef, hSr]
  have h2 : (Value.type "range" == Value.type "list") = false := by decide
  have h3 : (Value.type "range" == Value.type "tuple") = false := by decide
  simp only [h1, h2, h3, Bool.or_false, Bool.false_eq_true, if_false]
  refine wpAny_bind (wpAny_pyIter_range hr hsmall ?_)
  refine wpAny_bind (wpAny_holding (wpAny_hint_range (n := k) (Heap.get?_push_of_some _ hr) hn (by omega) ?_))
  have hit₁ : IsRangeIter (s.heap.push { cls := .type "range_iterator", data := .fields #[rawInt a, rawInt (Builtin.Range.rangeSize a b 1), rawInt 1] }) s.heap.objs.size (a + ((0 : Nat) : Int) * 1) ((k : Int) - ((0 : Nat) : Int)) 1 := by
    show IsRangeIter _ _ _ _ _; rw [hn]; simpa using Heap.get?_push_size _ rfl
  have hS₁ := Heap.get?_push_of_some { cls := .type "range_iterator", data := .fields #[rawInt a, rawInt (Builtin.Range.rangeSize a b 1), rawInt 1] } hS
  refine wpAny_ite_split (fun _ => ?_) (fun _ => wpAny_pure ⟨plainId_quiet F.plain_extend_loop _, key _ c₀ _ hit₁ (fun b o _ e => Heap.get?_push_of_some _ e) hS₁⟩)
  refine wpAny_bind (wpAny_rule ?_)
  refine wpAny_bind ?_
  show wpAny _ _ (updateSeq S (·.push .none) >>= fun _ => updateSeq S (·.pop)) _ _ _
  have hsz : items.size ≤ sizeLine := by rw [sizeLine_eq]; omega
  refine wpAny_bind (wpAny_updateSeq hS₁ rfl ?_ hsz (by show (items.push Value.none).size ≤ _; rw [Array.size_push]; omega))
  have hS₂ := Heap.get?_update_self (Obj.mapSeq (·.push Value.none)) hS₁ rfl
  refine wpAny_updateSeq hS₂ rfl ?_ (by show (items.push Value.none).size ≤ _; rw [Array.size_push, sizeLine_eq]; omega) (by show ((items.push Value.none).pop).size ≤ _; rw [Array.size_pop, Array.size_push]; omega)
  have hS₃ := Heap.get?_update_self (Obj.mapSeq (·.pop)) hS₂ rfl
  refine wpAny_pure ⟨plainId_quiet F.plain_extend_loop _, key _ _ _ ?_ (fun b o hb e => ?_) (hS₃.trans (by simp [Obj.mapSeq]; rfl))⟩
  · exact (Heap.get?_update_other _ _ hSI).trans ((Heap.get?_update_other _ _ hSI).trans hit₁)
  · exact (Heap.get?_update_other _ _ (Ne.symm hb)).trans ((Heap.get?_update_other _ _ (Ne.symm hb)).trans (Heap.get?_push_of_some _ e))

theorem extend_r {f : Addr} {ds : List AV} {a b : Int} (ha : st f = some (.list ds)) (hz : ds.length ≤ 100000) (h1 : -1000 ≤ a) (h2 : a ≤ 1000) (h3 : -1000 ≤ b) (h4 : b ≤ 1000)
    (hQ : Q .none (upd st f (.list (ds ++ intsFrom a (b - a).toNat)))) : ACall C n (.builtin "list.extend") [.ref f, .rng a b] st Q := fun A s vs hA S hr => by
  cases hr with
  | cons ra hr => cases hr with
    | cons rb hr =>
      cases hr; cases ra
      cases rb with
      | rng hx hta =>
        obtain ⟨us, hl, hv⟩ := S.objs f _ ha
        have hz' := hv.length
        have hL := hl
        obtain ⟨c0, hl0⟩ := hl
        refine wpAny_call (codeAny_call_builtin PySem.F.slot_list_extend.plain PySem.F.entry_list_extend (PySem.F.slot_list_extend.check _ _ _ _ _ _ _ _ ⟨_, hl0, rfl⟩ (PySem.F.args_list_extend_2 _ _) ?_))
        show wpAny _ _ (Builtin.List.listExtendWith (.ref f) (.ref _) .none) _ _ s
        refine extend_range (R := wants (PC C st s Q) No) hA.1 hx (range_small (by omega) (by omega) (by omega) (by omega)) (rngSize _ _) f .none (by rw [List.size_toArray, hz']; omega) hL fun h' tk acc k hl' hI => ?_
        have ev : Evo st s.heap (upd st f (.list (ds ++ intsFrom a (b - a).toNat))) h' := .turn ha k
        refine ⟨.none, _, hQ, .none, S.turn ha k ⟨acc.toList, by simpa using hl', ?_⟩, ev, ⟨_, _, rfl⟩⟩
        have hv' := hv.tk ev.kp
        have hacc : ∀ (m : Nat) (acc : List Value), acc.length = us.length + m → (∀ (j : Nat) (v : Value), acc[j]? = some v → if j < us.length then us[j]? = some v else ∃ t, v = Value.int (a + ((j - us.length : Nat) : Int) * 1) t) → ∃ ws, acc = us ++ ws ∧ Reps h' (upd st f (.list (ds ++ intsFrom a (b - a).toNat))) ws (intsFrom a m) := by
          intro m
          induction m with
          | zero =>
            intro acc hl hi
            refine ⟨[], ?_, .nil⟩
            rw [List.append_nil]
            refine List.ext_getElem? fun j => ?_
            by_cases q : j < us.length
            · obtain ⟨y, hy⟩ : ∃ y, acc[j]? = some y := ⟨_, List.getElem?_eq_getElem (by omega)⟩
              have := hi j y hy
              rw [if_pos q] at this
              rw [hy, this]
            · rw [List.getElem?_eq_none (by omega), List.getElem?_eq_none (by omega)]
          | succ m ih =>
            intro acc hl hi
            have hne : acc ≠ [] := by intro q; rw [q] at hl; simp at hl
            have e : acc = acc.dropLast ++ [acc.getLast hne] := (List.dropLast_concat_getLast _).symm
            have e2 : intsFrom a (m + 1) = intsFrom a m ++ [AV.int (a + (m : Nat))] := by simp [intsFrom, List.range_succ]
            obtain ⟨ws, hw, hr⟩ := ih acc.dropLast (by simp [hl]) fun j v hj => by
              refine hi j v ?_
              rw [List.getElem?_dropLast] at hj
              split at hj
              · exact hj
              · cases hj
            refine ⟨ws ++ [acc.getLast hne], by rw [← List.append_assoc, ← hw]; exact e, ?_⟩
            rw [e2]
            refine hr.append (.one ?_)
            have := hi (us.length + m) (acc.getLast hne) (by rw [List.getLast_eq_getElem, List.getElem?_eq_getElem (by omega)]; simp [hl])
            rw [if_neg (by omega)] at this
            obtain ⟨t, ht⟩ := this
            rw [ht, Int.mul_one, show us.length + m - us.length = m by omega]
            exact .int _ _
        obtain ⟨ws, hw, hrw⟩ := hacc _ acc.toList (by simpa using hI.1) fun j v hj => by simpa using hI.2 j v (by simpa using hj)
        rw [hw]
        exact hv'.append hrw

/-- the display of the tape -/
theorem AE_tape {v₁ v₂ : Expr} {k1 k2 : Nat} {p1 p2 pos : Pos} (h : AE C sc n v₁ lo st fun c st1 => AE C sc n v₂ lo st1 fun d st2 => ∃ k, d = .int k ∧ ∀ a, st2 a = Option.none → Q (.ref a) (upd st2 a (.tape C.prog C.w c k))) :
    AE C sc n (.Dict [some (.Constant (.str (Str.ofString "cells")) k1 p1), some (.Constant (.str (Str.ofString "spot")) k2 p2)] [v₁, v₂] pos) lo st Q := fun env A s hA S => by
  refine wpAny_Dict_walk (knd := PySem.strKind C.prog C.w) rfl rfl (by simp) (by simp) ?_
  have hD : s.heap.get? s.heap.objs.size = none := size_none _
  have hnew := Heap.get?_push_size s.heap (o := { cls := .type "dict", data := .dict #[] }) rfl
  have up : ∀ b o, s.heap.get? b = some o → (s.heap.push { cls := .type "dict", data := .dict #[] }).get? b = some o := fun b o e => Heap.get?_push_of_some _ e
  have S0 : StE C.B sc env ({ s with heap := s.heap.push { cls := .type "dict", data := .dict #[] } } : Shared).heap lo st := S.evo (S.toStC.grow up) (.grow up)
  refine pairTrees_cons_walk (Constant_str ?_)
  refine h.use (s := { s with heap := s.heap.push { cls := .type "dict", data := .dict #[] }, toks := s.toks + 1 }) hA S0 fun c s1 d st1 h1 r1 S1 x1 e1 => ?_
  refine pairTrees_cons_walk (Constant_str ?_)
  refine h1.use (s := { s1 with toks := s1.toks + 1 }) hA S1 fun c2 s2 d2 st2 h2 r2 S2 x2 e2 => pairTrees_nil_walk ?_
  obtain ⟨k, rfl, hQ⟩ := h2
  obtain ⟨a1, a2⟩ := x1 _ _ (S.toStC.none hD) hnew
  obtain ⟨b1, b2⟩ := x2 _ _ a2 a1
  have r1' := r1.tk x2.kp
  have hdict : s2.heap.DictOf (PySem.strKind C.prog C.w) s.heap.objs.size [] := (Heap.DictOf.new s.heap).at fun o e => by rw [hnew] at e; cases e; exact b1
  refine display_done_str (by rfl) (by simp [strPairs]; decide) hdict fun h' hd hs => ?_
  have k6 : ∀ b ob, b ≠ s.heap.objs.size → s2.heap.get? b = some ob → h'.get? b = some ob := fun b ob hb e => (hs.2 b hb).trans e
  have hBD : C.B.get? s.heap.objs.size = none := S.toStC.bnone hD
  have hq : ∀ o, s2.heap.get? s.heap.objs.size = some o → ¬ Quiet o := fun o e => by
    rw [b1] at e; cases e
    rintro (⟨_, _, q⟩ | ⟨q, _⟩)
    · cases q
    · exact absurd q (by simp)
  have kp : Kp s2.heap st2 h' (upd st2 s.heap.objs.size (.tape C.prog C.w d k)) := fun b o e qd q => by
    have hb : b ≠ s.heap.objs.size := by rintro rfl; exact hq o e qd
    exact ⟨k6 b o hb e, by rw [upd_other hb]; exact q⟩
  have SC : StC C.B h' (upd st2 s.heap.objs.size (.tape C.prog C.w d k)) := by
    refine ⟨fun b o e => ?_, fun b o e => ?_, fun b o e => ?_⟩
    · exact k6 b o (by rintro rfl; rw [hBD] at e; cases e) (S2.base b o e)
    · by_cases hb : b = s.heap.objs.size
      · subst hb
        rw [upd_self] at e; cases e
        exact ⟨c, c2, hd, r1'.tk kp, r2.tk kp⟩
      · rw [upd_other hb] at e
        exact (S2.objs b o e).at kp fun x hx => k6 b x hb hx
    · by_cases hb : b = s.heap.objs.size
      · subst hb; exact hBD
      · rw [upd_other hb] at e; exact S2.fresh b o e
  have ev : Evo st s.heap (upd st2 s.heap.objs.size (.tape C.prog C.w d k)) h' := fun b o h0 e => by
    have hb : b ≠ s.heap.objs.size := by rintro rfl; rw [hD] at e; cases e
    obtain ⟨q1, q2⟩ := x1 b o h0 (up b o e)
    obtain ⟨q3, q4⟩ := x2 b o q2 q1
    exact ⟨k6 b o hb q3, by rw [upd_other hb]; exact q4⟩
  exact ⟨.ref _, _, hQ _ b2, .ref _, S.evo SC ev, ev, (Same.trans ⟨_, _, rfl⟩ e1).trans ((Same.trans ⟨_, _, rfl⟩ e2).trans ⟨_, _, rfl⟩)⟩
end
end
section
theorem pick_rev (vs : List Value) : slicePick vs.toArray none none (some (-1)) = vs.reverse.toArray := by
  have e : sliceBounds none none (some (-1)) vs.toArray.size = ((vs.length : Int) - 1, -1, -1) := by
    simp [sliceBounds]
  unfold slicePick
  rw [e]
  congr 1
  show ((sliceRange ((vs.length : Int) - 1) (-1) (-1)).filterMap (vs.toArray[·]?)) = _
  unfold sliceRange
  simp only [show ¬ ((-1 : Int) > 0) by decide, if_false]
  have hc : (if (vs.length : Int) - 1 > -1 then ((vs.length : Int) - 1 - -1 - -1 - 1) / (- -1) else 0) = (vs.length : Int) := by
    split
    · rw [show (- -1 : Int) = 1 by decide, Int.ediv_one]; omega
    · omega
  rw [hc, Int.toNat_natCast]
  have key : ∀ m, m ≤ vs.length → ((List.range m).map fun (k : Nat) => ((vs.length : Int) - 1 + -1 * (k : Int)).toNat).filterMap (vs.toArray[·]?) = vs.reverse.take m := by
    intro m
    induction m with
    | zero => intro _; simp
    | succ m ih =>
      intro hm
      rw [List.range_succ, List.map_append, List.filterMap_append, ih (by omega), List.take_add_one]
      congr 1
      have h1 : ((vs.length : Int) - 1 + -1 * (m : Int)).toNat = vs.length - 1 - m := by omega
      simp only [List.map_cons, List.map_nil, h1]
      have h2 : vs.reverse[m]? = vs[vs.length - 1 - m]? := List.getElem?_reverse (by omega)
      rw [h2]
      obtain ⟨y, hy⟩ : ∃ y, vs[vs.length - 1 - m]? = some y := ⟨_, List.getElem?_eq_getElem (by omega)⟩
      simp [hy]
  rw [key _ (Nat.le_refl _), List.take_of_length_le (by simp)]

section
variable {C : Cx} {sc : Scope} {n : Nat} {env : Env} {A : Around} {s : Shared} {lo : Loc} {st : Store} {E : Value → Shared → Prop} {Q : AV → Store → Prop}
theorem AE_revs {value : Expr} {w : Nat} {cp up p pos : Pos} (h : AE C sc n value lo st fun d st1 => ∃ ds, d = .lst ds ∧ ds.length ≤ 100000 ∧ Q (.lst ds.reverse) st1) :
    AE C sc n (.Subscript value (.Slice none none (some (.UnaryOp .USub (.Constant (.int 1) w cp) up)) p) pos) lo st Q := fun env A s hA S => by
  refine Subscript_ (h.use hA S fun v s1 d st1 h1 r1 S1 x1 e1 => ?_)
  obtain ⟨ds, rfl, hz, hQ⟩ := h1
  cases r1 with
  | lst ht hta hv =>
    rename_i l vs
    refine wpAny_Slice ?_
    rw [evalPart_none]
    refine wpAny_pure (wpAny_pure ?_)
    rw [evalPart_some]
    have hneg : AE C sc n (.UnaryOp .USub (.Constant (.int 1) w cp) up) lo st1 fun d st' => d = .int (-1) ∧ st' = st1 := AE_un (AE_int (neg_i ⟨rfl, rfl⟩))
    refine hneg.use hA S1 fun v s2 d st2 h2 r2 S2 x2 e2 => ?_
    obtain ⟨rfl, rfl⟩ := h2
    cases r2
    rename_i tk
    have ht := (x2.kp.lst ht hta).1
    have hv := hv.tk x2.kp
    have hl := hv.length
    refine tail_any (ht.push _).typeIs slot_list_getitem.lookup (wpAny_getItem_list_slice (ht.push _) (Heap.IsSliceOf.new ..) .none .none (.int _ _) (by simp) ?_ (by rw [List.size_toArray, hl]; unfold sizeLine; omega)) (ops := [_, _]) rfl
    have up : ∀ b o, s2.heap.get? b = some o → ((s2.heap.push { cls := .type "slice", data := .fields #[.none, .none, .int (-1) tk] }).push { cls := .type "list", data := .seq (slicePick vs.toArray none none (some (-1))) }).get? b = some o :=
      fun b o e => Heap.get?_push_of_some _ (Heap.get?_push_of_some _ e)
    have hn : s2.heap.get? (s2.heap.push { cls := .type "slice", data := .fields #[.none, .none, .int (-1) tk] }).objs.size = none := by
      rw [Heap.size_push]; exact Heap.get?_none_of_le (by omega)
    have rev : ∀ {h : Heap} {st : Store} {vs : List Value} {ds : List AV}, Reps h st vs ds → Reps h st vs.reverse ds.reverse := by
      intro h st vs ds r
      induction ds generalizing vs with
      | nil => cases r; exact .nil
      | cons d ds ih =>
        cases r with
        | cons a r => rw [List.reverse_cons, List.reverse_cons]; exact (ih r).append (.one a)
    refine ⟨_, st2, hQ, .lst (vs := vs.reverse) ⟨_, Heap.get?_push_size _ rfl, rfl, 0, by rw [pick_rev]⟩ (S2.toStC.none hn) ((rev hv).tk (.grow up)), S2.evo (S2.toStC.grow up) (.grow up), (x1.trans x2).trans (.grow up), (e1.trans e2).trans ⟨_, _, rfl⟩⟩
end
end
section
def KOk {α : Type} (n : Nat) (K : Nat → Int) : KasT α → (α → Prop) → Prop
  | .ret a, Q => Q a
  | .ask i j k, Q => i < n ∧ j < n ∧ KOk n K (k (decide (K i < K j))) Q
theorem KOk.bind {α β : Type} {n : Nat} {K : Nat → Int} {f : α → KasT β} {Q : β → Prop} : ∀ (t : KasT α), KOk n K t (fun a => KOk n K (f a) Q) → KOk n K (t.bind f) Q
  | .ret _, h => h
  | .ask i j k, h => ⟨h.1, h.2.1, KOk.bind (k _) h.2.2⟩
theorem KOk.mono {α : Type} {n : Nat} {K : Nat → Int} {Q Q' : α → Prop} (hq : ∀ a, Q a → Q' a) : ∀ (t : KasT α), KOk n K t Q → KOk n K t Q'
  | .ret _, h => hq _ h
  | .ask i j k, h => ⟨h.1, h.2.1, KOk.mono hq (k _) h.2.2⟩

def at' (p : Array Nat) (i : Nat) : Nat := p.getD i 0
theorem getD_eq (p : Array Nat) (i : Nat) : p.getD i 0 = (p[i]?).getD 0 := by
  simp [Array.getD_eq_getD_getElem?]
theorem rev_at {p : Array Nat} {i j : Nat} (hj : j ≤ p.size) (k : Nat) : (kas_rev p i j).getD k 0 = if i ≤ k ∧ k < j then p.getD (i + j - 1 - k) 0 else p.getD k 0 := by
  simp only [getD_eq]
  unfold kas_rev
  rw [getElem?_mirror_all hj]
  split <;> rfl
theorem rev_perm (p : Array Nat) (i j : Nat) : (kas_rev p i j).Perm p := mirror_perm _ _ _ _
theorem bub_at {p : Array Nat} {src : Nat} (hs : src < p.size) (d : Nat) (hd : d ≤ src) (k : Nat) :
    (bubble p src d).getD k 0 = if k = src - d then p.getD src 0 else if src - d < k ∧ k ≤ src then p.getD (k - 1) 0 else p.getD k 0 := by
  simp only [getD_eq]
  rw [getElem?_bubble hs d hd]
  split
  · rfl
  · split <;> rfl

section
variable {n : Nat} {K : Nat → Int}
structure PP (n : Nat) (p : Array Nat) : Prop where
  perm : p.Perm (List.range n).toArray
theorem PP.size {p : Array Nat} (h : PP n p) : p.size = n := by have := h.perm.size_eq; simpa using this
theorem PP.lt {p : Array Nat} (h : PP n p) (hn : 0 < n) (i : Nat) : p.getD i 0 < n := by
  rw [getD_eq]
  cases q : p[i]? with
  | none => exact hn
  | some v =>
    have hm : v ∈ p := Array.mem_of_getElem? q
    have := (h.perm.mem_iff).mp hm
    simpa using this
theorem PP.rev {p : Array Nat} (h : PP n p) (i j : Nat) : PP n (kas_rev p i j) := ⟨(rev_perm p i j).trans h.perm⟩
theorem PP.bub {p : Array Nat} (h : PP n p) (i j : Nat) : PP n (bubble p i j) := ⟨(bubble_perm p i j).trans h.perm⟩

def Up (K : Nat → Int) (p : Array Nat) (m : Nat) : Prop := ∀ i j, i < j → j < m → K (p.getD i 0) ≤ K (p.getD j 0)
def Dn (K : Nat → Int) (p : Array Nat) (m : Nat) : Prop := ∀ i j, i < j → j < m → K (p.getD j 0) ≤ K (p.getD i 0)

theorem ok_asc {p : Array Nat} (hp : PP n p) : ∀ (f m : Nat) (Q : Nat → Prop), 1 ≤ m → m + f ≤ n → Up K p m → (∀ m', m ≤ m' → m' ≤ m + f → Up K p m' → (m' = m + f ∨ K (p.getD m' 0) < K (p.getD (m' - 1) 0)) → Q m') → KOk n K (kas_asc p f m) Q
  | 0, m, Q, h1, hf, hu, hQ => hQ m (Nat.le_refl _) (Nat.le_refl _) hu (.inl rfl)
  | f + 1, m, Q, h1, hf, hu, hQ => by
    refine ⟨hp.lt (by omega) _, hp.lt (by omega) _, ?_⟩
    by_cases c : K (p.getD m 0) < K (p.getD (m - 1) 0)
    · rw [decide_eq_true c]; dsimp only; rw [if_pos rfl]
      exact hQ m (Nat.le_refl _) (by omega) hu (.inr c)
    · rw [decide_eq_false c]; dsimp only; rw [if_neg Bool.false_ne_true]
      refine ok_asc hp f (m + 1) Q (by omega) (by omega) (fun i j hij hj => ?_) fun m' a b c d => hQ m' (by omega) (by omega) c (by rcases d with d | d; exact .inl (by omega); exact .inr d)
      by_cases hjm : j = m
      · subst hjm
        by_cases hi : i = j - 1
        · subst hi; omega
        · have := hu i (j - 1) (by omega) (by omega); omega
      · exact hu i j hij (by omega)

theorem dn_rev {p : Array Nat} {m a b : Nat} (hp : PP n p) (hb : b ≤ m) (hm : m ≤ n) (hd : Dn K p m) (he : ∀ i j, a ≤ i → i < b → a ≤ j → j < b → K (p.getD i 0) = K (p.getD j 0)) : Dn K (kas_rev p a b) m := fun i j hij hj => by
  rw [rev_at (by rw [hp.size]; omega), rev_at (by rw [hp.size]; omega)]
  have key : ∀ x, x < m → ∃ y, (if a ≤ x ∧ x < b then p.getD (a + b - 1 - x) 0 else p.getD x 0) = y ∧ K y = K (p.getD x 0) := fun x hx => by
    split
    · exact ⟨_, rfl, he _ _ (by omega) (by omega) (by omega) (by omega)⟩
    · exact ⟨_, rfl, rfl⟩
  obtain ⟨y, hy, ky⟩ := key i (by omega)
  obtain ⟨z, hz, kz⟩ := key j hj
  rw [hy, hz, ky, kz]
  exact hd i j hij hj

/-- the last q + 1 of the first m are alike -/
def Eqs (K : Nat → Int) (p : Array Nat) (m q : Nat) : Prop := q + 1 ≤ m ∧ ∀ i, m - (q + 1) ≤ i → i < m → K (p.getD i 0) = K (p.getD (m - 1) 0)

theorem ok_desc : ∀ (f : Nat) (p : Array Nat) (m q : Nat) (Q : Array Nat × Nat × Nat → Prop), PP n p → m + f ≤ n → Dn K p m → Eqs K p m q →
    (∀ p' m' q', PP n p' → m ≤ m' → m' ≤ n → Dn K p' m' → Eqs K p' m' q' → Q (p', m', q')) → KOk n K (kas_desc f p m q) Q
  | 0, p, m, q, Q, hp, hf, hd, he, hQ => hQ p m q hp (Nat.le_refl _) (by omega) hd he
  | f + 1, p, m, q, Q, hp, hf, hd, he, hQ => by
    have hm1 : 1 ≤ m := by have := he.1; omega
    refine ⟨hp.lt (by omega) _, hp.lt (by omega) _, ?_⟩
    have ext : ∀ p', Dn K p' m → K (p'.getD m 0) ≤ K (p'.getD (m - 1) 0) → Dn K p' (m + 1) := fun p' hd' hle i j hij hj => by
      by_cases hjm : j = m
      · subst hjm
        by_cases hi : i = j - 1
        · subst hi; exact hle
        · have := hd' i (j - 1) (by omega) (by omega); omega
      · exact hd' i j hij (by omega)
    by_cases c : K (p.getD m 0) < K (p.getD (m - 1) 0)
    · rw [decide_eq_true c]; dsimp only; rw [if_pos rfl]
      split
      · have hd2 : Dn K (kas_rev p (m - (q + 1)) m) m := dn_rev hp (Nat.le_refl _) (by omega) hd fun i j a b c d => by rw [he.2 i a b, he.2 j c d]
        refine ok_desc f _ (m + 1) 0 Q (hp.rev _ _) (by omega) (ext _ hd2 ?_) ⟨by omega, fun i a b => by rw [show i = m + 1 - 1 by omega]⟩ fun p' m' q' a b c d e => hQ p' m' q' a (by omega) c d e
        rw [rev_at (by rw [hp.size]; omega), rev_at (by rw [hp.size]; omega), if_neg (by omega), if_pos (by have := he.1; omega)]
        have := he.2 (m - (q + 1) + m - 1 - (m - 1)) (by have := he.1; omega) (by have := he.1; omega)
        omega
      · exact ok_desc f _ (m + 1) 0 Q hp (by omega) (ext _ hd (by omega)) ⟨by omega, fun i a b => by rw [show i = m + 1 - 1 by omega]⟩ fun p' m' q' a b c d e => hQ p' m' q' a (by omega) c d e
    · rw [decide_eq_false c]; dsimp only; rw [if_neg Bool.false_ne_true]
      refine ⟨hp.lt (by omega) _, hp.lt (by omega) _, ?_⟩
      by_cases d : K (p.getD (m - 1) 0) < K (p.getD m 0)
      · rw [decide_eq_true d]; dsimp only; rw [if_pos rfl]
        exact hQ p m q hp (Nat.le_refl _) (by omega) hd he
      · rw [decide_eq_false d]; dsimp only; rw [if_neg Bool.false_ne_true]
        refine ok_desc f _ (m + 1) (q + 1) Q hp (by omega) (ext _ hd (by omega)) ⟨by have := he.1; omega, fun i a b => ?_⟩ fun p' m' q' a b c d e => hQ p' m' q' a (by omega) c d e
        by_cases hi : i = m
        · subst hi; rfl
        · have := he.2 i (by omega) (by omega)
          rw [Nat.add_sub_cancel]; omega

theorem ok_tail3 {m : Nat} {p : Array Nat} {Q : Nat × Array Nat → Prop} (hp : PP n p) (h1 : 1 ≤ m) (hm : m ≤ n) (hd : Dn K p m) (hQ : ∀ m' p', PP n p' → 1 ≤ m' → m' ≤ n → Up K p' m' → Q (m', p')) : KOk n K (kas_tail3 m n p) Q := by
  unfold kas_tail3
  refine KOk.bind _ (ok_asc (hp.rev _ _) _ _ _ h1 (by omega) (fun i j hij hj => ?_) fun m' a b c d => hQ m' _ (hp.rev _ _) (by omega) (by omega) c)
  rw [rev_at (by rw [hp.size]; omega), rev_at (by rw [hp.size]; omega), if_pos (by omega), if_pos (by omega)]
  exact hd _ _ (by omega) (by omega)
theorem ok_descPart {m : Nat} {p : Array Nat} {Q : Nat × Array Nat → Prop} (hp : PP n p) (h1 : 1 ≤ m) (hm : m < n) (he : ∀ i j, i < m → j < m → K (p.getD i 0) = K (p.getD j 0)) (hl : K (p.getD m 0) < K (p.getD (m - 1) 0))
    (hQ : ∀ m' p', PP n p' → 1 ≤ m' → m' ≤ n → Up K p' m' → Q (m', p')) : KOk n K (kas_descPart m n p) Q := by
  unfold kas_descPart
  refine KOk.bind _ (ok_desc _ p (m + 1) 0 _ hp (by omega) (fun i j hij hj => ?_) ⟨by omega, fun i a b => by rw [show i = m + 1 - 1 by omega]⟩ fun p' m' q' hp' a b hd he' => ?_)
  · by_cases hjm : j = m
    · subst hjm; have := he i (j - 1) (by omega) (by omega); omega
    · have := he i j (by omega) (by omega); omega
  · dsimp only
    split
    · refine ok_tail3 (hp'.rev _ _) (by omega) b (dn_rev hp' (Nat.le_refl _) b hd fun i j a b c d => by rw [he'.2 i a b, he'.2 j c d]) hQ
    · exact ok_tail3 hp' (by omega) b hd hQ
theorem ok_count {p : Array Nat} {Q : Nat × Array Nat → Prop} (hn : 1 ≤ n) (hp : PP n p) (hQ : ∀ m' p', PP n p' → 1 ≤ m' → m' ≤ n → Up K p' m' → Q (m', p')) : KOk n K (kas_count n p) Q := by
  unfold kas_count
  refine KOk.bind _ (ok_asc hp _ _ _ (Nat.le_refl _) (by omega) (fun i j _ _ => by omega) fun m a b hu hs => ?_)
  by_cases hmn : m = n
  · rw [if_pos (by simpa using hmn)]
    exact hQ m p hp a (by omega) hu
  · rw [if_neg (by simpa using hmn)]
    have hs' : K (p.getD m 0) < K (p.getD (m - 1) 0) := by rcases hs with hs | hs; omega; exact hs
    split
    · refine ⟨hp.lt (by omega) _, hp.lt (by omega) _, ?_⟩
      by_cases c : K (p.getD 0 0) < K (p.getD (m - 1) 0)
      · rw [decide_eq_true c]; dsimp only; rw [if_pos rfl]
        exact hQ m p hp a (by omega) hu
      · rw [decide_eq_false c]; dsimp only; rw [if_neg Bool.false_ne_true]
        have all : ∀ i, i < m → K (p.getD i 0) = K (p.getD 0 0) := fun i hi => by
          have h1 : K (p.getD 0 0) ≤ K (p.getD i 0) := by
            by_cases q : i = 0
            · subst q; omega
            · exact hu 0 i (by omega) hi
          have h2 : K (p.getD i 0) ≤ K (p.getD (m - 1) 0) := by
            by_cases q : i = m - 1
            · subst q; omega
            · exact hu i (m - 1) (by omega) (by omega)
          omega
        refine ok_descPart (hp.rev _ _) a (by omega) (fun i j hi hj => ?_) ?_ hQ
        · rw [rev_at (by rw [hp.size]; omega), rev_at (by rw [hp.size]; omega), if_pos (by omega), if_pos (by omega)]
          exact (all _ (by omega)).trans (all _ (by omega)).symm
        · rw [rev_at (by rw [hp.size]; omega), rev_at (by rw [hp.size]; omega), if_neg (by omega), if_pos (by omega)]
          have := all (0 + m - 1 - (m - 1)) (by omega)
          have := all (m - 1) (by omega)
          omega
    · have hm1 : m = 1 := by omega
      subst hm1
      exact ok_descPart hp (by omega) (by omega) (fun i j hi hj => by rw [show i = 0 by omega, show j = 0 by omega]) hs' hQ

theorem ok_place {p : Array Nat} {k : Nat} (hp : PP n p) (hk : k < n) : ∀ (f l r : Nat) (Q : Nat → Prop), l ≤ r → r ≤ k → r - l ≤ f → (∀ i, i < l → K (p.getD i 0) ≤ K (p.getD k 0)) → (∀ i, r ≤ i → i < k → K (p.getD k 0) ≤ K (p.getD i 0)) →
    (∀ l', l' ≤ k → (∀ i, i < l' → K (p.getD i 0) ≤ K (p.getD k 0)) → (∀ i, l' ≤ i → i < k → K (p.getD k 0) ≤ K (p.getD i 0)) → Q l') → Up K p k → KOk n K (kas_place p k f l r) Q
  | 0, l, r, Q, h1, h2, h3, hl, hr, hQ, hu => hQ l (by omega) hl fun i a b => hr i (by omega) b
  | f + 1, l, r, Q, h1, h2, h3, hl, hr, hQ, hu => by
    unfold kas_place
    split
    · exact hQ l (by omega) hl fun i a b => hr i (by omega) b
    · refine ⟨hp.lt (by omega) _, hp.lt (by omega) _, ?_⟩
      by_cases c : K (p.getD k 0) < K (p.getD ((l + r) / 2) 0)
      · rw [decide_eq_true c]; dsimp only; rw [if_pos rfl]
        refine ok_place hp hk f l _ Q (by omega) (by omega) (by omega) hl (fun i a b => ?_) hQ hu
        by_cases q : i = (l + r) / 2
        · subst q; omega
        · have := hu ((l + r) / 2) i (by omega) b; omega
      · rw [decide_eq_false c]; dsimp only; rw [if_neg Bool.false_ne_true]
        refine ok_place hp hk f _ r Q (by omega) (by omega) (by omega) (fun i a => ?_) hr hQ hu
        by_cases q : i = (l + r) / 2
        · subst q; omega
        · have := hu i ((l + r) / 2) (by omega) (by omega); omega
theorem ok_bin : ∀ (f : Nat) (p : Array Nat) (k : Nat) (Q : Array Nat → Prop), PP n p → k + f = n → Up K p k → (∀ p', PP n p' → Up K p' n → Q p') → KOk n K (kas_bin f p k) Q
  | 0, p, k, Q, hp, hf, hu, hQ => hQ p hp (by rw [← hf]; exact hu)
  | f + 1, p, k, Q, hp, hf, hu, hQ => by
    unfold kas_bin
    refine KOk.bind _ (ok_place hp (by omega) _ _ _ _ (Nat.zero_le _) (Nat.le_refl _) (by omega) (fun i a => by omega) (fun i a b => by omega) (fun l hl h1 h2 => ?_) hu)
    refine ok_bin f _ (k + 1) Q (hp.bub _ _) (by omega) (fun i j hij hj => ?_) hQ
    rw [bub_at (by rw [hp.size]; omega) _ (by omega), bub_at (by rw [hp.size]; omega) _ (by omega)]
    have e : k - (k - l) = l := by omega
    rw [e]
    by_cases a1 : i = l
    · rw [if_pos a1, if_neg (by omega)]
      rw [if_pos (by omega)]
      exact h2 _ (by omega) (by omega)
    · rw [if_neg a1]
      by_cases a2 : j = l
      · rw [if_pos a2, if_neg (by omega)]
        exact h1 _ (by omega)
      · rw [if_neg a2]
        split
        · split
          · exact hu _ _ (by omega) (by omega)
          · omega
        · split
          · by_cases q : i = j - 1
            · omega
            · exact hu _ _ (by omega) (by omega)
          · exact hu _ _ (by omega) (by omega)
theorem ok_sort {Q : Array Nat → Prop} (hn : 1 ≤ n) (hQ : ∀ p', PP n p' → Up K p' n → Q p') : KOk n K (kas_sort n) Q := by
  unfold kas_sort
  refine KOk.bind _ (ok_count hn ⟨.refl _⟩ fun m p hp h1 hm hu => ?_)
  dsimp only
  split
  · rw [Nat.max_eq_left h1]
    exact ok_bin _ _ _ _ hp (by omega) hu hQ
  · exact hQ p hp (by rw [show n = m by omega]; exact hu)
end
end
section
abbrev AVp (p : Int × Int) : AV := .tup [.int p.1, .int p.2]
abbrev enc (d : List (Int × Int)) : List AV := d.map AVp
def pkey (p : Int × Int) : Int := p.1 * 100000 + p.2

section
variable {prog : Program} {w : World} {A : Around} {E : Value → Shared → Prop} {s : Shared}
def TI (s s' : Shared) : Prop := ∃ tk, s' = { s with toks := tk }
theorem kas_det {α : Type} {n : Nat} {K : Nat → Int} {cmp : Nat → Nat → (Bool → Shared → Prop) → Shared → Prop} {Qp : α → Prop}
    (hc : ∀ i j C s', TI s s' → i < n → j < n → (∀ s'', TI s s'' → C (decide (K i < K j)) s'') → cmp i j C s') : ∀ (t : KasT α) (s' : Shared), KOk n K t Qp → TI s s' → t.kasWp cmp (fun a s'' => Qp a ∧ TI s s'') s'
  | .ret a, s', h, hi => ⟨h, hi⟩
  | .ask i j k, s', h, hi => hc i j _ s' hi h.1 h.2.1 fun s'' h'' => kas_det hc (k _) s'' h.2.2 h''

theorem ask_pair {x y : Addr} {a b c d : Int} {t1 t2 t3 t4 : Tok} {C : Bool → Shared → Prop} (hx : IsTup s.heap x #[.int a t1, .int b t2]) (hy : IsTup s.heap y #[.int c t3, .int d t4])
    (hb : -10000 ≤ b ∧ b ≤ 10000) (hd : -10000 ≤ d ∧ d ≤ 10000) (h : ∀ tk, C (decide (pkey (a, b) < pkey (c, d))) { s with toks := tk }) : wpAny (model prog w) A (keyLt' (tuples' true) (.ref x) (.ref y)) C E s := by
  obtain ⟨ox, ho, _, n1, dx⟩ := hx
  obtain ⟨oy, ho2, _, n2, dy⟩ := hy
  have h' : ∀ v, v = decide (pkey (a, b) < pkey (c, d)) → C v s := fun v e => by rw [e]; exact h s.toks
  refine kat_lt ho dx ho2 dy ?_
  refine kat_cons (wpAny_eqBool_int ?_)
  by_cases e1 : a = c
  · rw [show (a == c) = true by simpa using e1]
    refine kat_yes (kat_cons (wpAny_eqBool_int ?_))
    by_cases e2 : b = d
    · rw [show (b == d) = true by simpa using e2]
      refine kat_yes (kat_nil (h' _ ?_))
      unfold pkey
      simp [e1, e2]
    · rw [show (b == d) = false by simpa using e2]
      refine kat_no (kat_one _ _ (PyProof.Rows.lt_int (h' _ ?_)))
      unfold pkey
      simp only [decide_eq_decide]
      omega
  · rw [show (a == c) = false by simpa using e1]
    refine kat_no (oneLt_int (h' _ ?_))
    unfold pkey
    simp only [decide_eq_decide]
    omega

def isPair (h : Heap) (v : Value) (p : Int × Int) : Prop := ∃ x t u, v = .ref x ∧ IsTup h x #[.int p.1 t, .int p.2 u]
theorem range_id (vs : List Value) : (List.range vs.length).map (fun i => vs.getD i Value.none) = vs := by
  refine List.ext_getElem? fun i => ?_
  rw [List.getElem?_map]
  by_cases h : i < vs.length
  · rw [List.getElem?_range h]; simp [h]
  · rw [List.getElem?_eq_none (by simp; omega), List.getElem?_eq_none (by omega)]; rfl

theorem sort_pairs {a : Addr} {vs : List Value} {prs : List (Int × Int)} {n : Nat} {P : PySem.Fin → Shared → Prop} (ho : s.heap.get? a = some (seqObj "list" vs.toArray n)) (hl : vs.length = prs.length)
    (hp : ∀ i, i < vs.length → isPair s.heap (vs.getD i Value.none) (prs.getD i (0, 0))) (hb : ∀ p ∈ prs, -10000 ≤ p.2 ∧ p.2 ≤ 10000) (h64 : vs.length < 64)
    (h : ∀ p : Array Nat, PP vs.length p → Up (fun i => pkey (prs.getD i (0, 0))) p vs.length → ∀ h' tk, (∀ b o, b ≠ a → s.heap.get? b = some o → h'.get? b = some o) → (∃ e, h'.get? a = some (seqObj "list" (p.toList.map fun i => vs.getD i Value.none).toArray e)) → P (.done (.ret .none)) { s with heap := h', toks := tk }) :
    wpAny (model prog w) A (Builtin.«list.sort» ⟨[.ref a], []⟩) P E s := by
  have ha : a < s.heap.objs.size := Heap.lt_size ho
  obtain ⟨e1, ho1⟩ : ∃ e1, (s.heap.update a (Obj.mapSeq fun _ => (#[] : Array Value))).get? a = some (seqObj "list" #[] e1) := ⟨_, get?_update_seq ho fun _ => #[]⟩
  have ho6 : (((s.heap.update a (Obj.mapSeq fun _ => #[])).push (seqObj "tuple" vs.toArray 0)).push (seqObj "list" #[] 0)).get? a = some (seqObj "list" #[] e1) := Heap.get?_push_of_some _ (Heap.get?_push_of_some _ ho1)
  have keep : ∀ b o, b ≠ a → s.heap.get? b = some o → (((s.heap.update a (Obj.mapSeq fun _ => #[])).push (seqObj "tuple" vs.toArray 0)).push (seqObj "list" #[] 0)).get? b = some o := fun b o hb e =>
    Heap.get?_push_of_some _ (Heap.get?_push_of_some _ ((Heap.get?_update_other _ _ (Ne.symm hb)).trans e))
  rw [list_sort_plain]
  refine wpAny_bind (listItems_at ho rfl ?_)
  refine wpAny_bind (listUpdate_at ho rfl ?_ (by rw [List.size_toArray, sizeLine_eq]; omega) (Nat.zero_le _))
  refine wpAny_bind (seqEpoch_at ho1 rfl ?_)
  refine wpAny_bind (wpAny_newTuple ?_ (by show vs.length ≤ _; rw [sizeLine_eq]; omega))
  refine wpAny_bind (wpAny_newList ?_ (Nat.zero_le _))
  refine wpAny_holding ?_
  show wpAny (model prog w) A _ P E { s with heap := ((s.heap.update a (Obj.mapSeq fun _ => (#[] : Array Value))).push (seqObj "tuple" vs.toArray 0)).push (seqObj "list" #[] 0) }
  dsimp only
  have fin : ∀ (p : Array Nat) (tk : Nat), PP vs.length p → Up (fun i => pkey (prs.getD i (0, 0))) p vs.length → ∀ out, out = (p.toList.map fun i => vs.getD i Value.none).toArray →
      P (.done (.ret .none)) { s with heap := (((s.heap.update a (Obj.mapSeq fun _ => (#[] : Array Value))).push (seqObj "tuple" vs.toArray 0)).push (seqObj "list" #[] 0)).update a (Obj.mapSeq fun _ => out), toks := tk } := fun p tk h1 h2 out hout =>
    h p h1 h2 _ _ (fun b o hb e => (Heap.get?_update_other _ _ (Ne.symm hb)).trans (keep b o hb e)) ⟨_, by rw [← hout]; exact get?_update_seq ho6 fun _ => out⟩
  by_cases h2 : vs.toArray.size < 2
  · rw [if_pos h2, if_pos h2]
    refine wpAny_bind (wpAny_pure ?_)
    rw [StateT.run_pure]
    refine wpAny_bind (wpAny_pure ?_)
    dsimp only
    refine wpAny_bind (seqEpoch_at ho6 rfl ?_)
    refine wpAny_bind (listUpdate_at ho6 rfl ?_ (Nat.zero_le _) (hsz2 := by rw [Array.size_map]; show (pairsOf vs).size ≤ _; rw [pairsOf_size, sizeLine_eq]; omega))
    simp only [bne_self_eq_false, Bool.false_eq_true, if_false]
    refine wpAny_pure (fin (List.range vs.length).toArray _ ⟨.refl _⟩ (fun i j hij hj => absurd hj (by rw [List.size_toArray] at h2; omega)) _ ?_)
    show (arrOf (SortSt.mk' general' (vs.toArray.zip vs.toArray) #[] 7 none)).map (·.2) = _
    rw [show (List.range vs.length).toArray.toList = List.range vs.length from rfl, range_id]
    show (pairsOf vs).map (·.2) = _
    unfold pairsOf
    apply Array.toList_inj.mp
    simp [List.map_snd_zip]
  · rw [if_neg h2, if_neg h2]
    have hn2 : 2 ≤ vs.length := by rw [List.size_toArray] at h2; omega
    have hpair : ∀ i, i < vs.length → isPair (((s.heap.update a (Obj.mapSeq fun _ => #[])).push (seqObj "tuple" vs.toArray 0)).push (seqObj "list" #[] 0)) (vs.getD i Value.none) (prs.getD i (0, 0)) := fun i hi => by
      obtain ⟨x, t, u, e, o, ho', hc, r⟩ := hp i hi
      refine ⟨x, t, u, e, o, keep x o ?_ ho', hc, r⟩
      rintro rfl
      rw [ho] at ho'; cases ho'; exact absurd hc (by simp)
    have tups : ∀ (m : Nat), m ≤ vs.length → ∃ fs, KatTups (((s.heap.update a (Obj.mapSeq fun _ => #[])).push (seqObj "tuple" vs.toArray 0)).push (seqObj "list" #[] 0)) (vs.drop (vs.length - m)) fs ∧ fs.length = m ∧ ∀ v ∈ fs, ∃ z t, v = Value.int z t := by
      intro m
      induction m with
      | zero => intro _; exact ⟨[], by rw [Nat.sub_zero, List.drop_length]; exact .nil, rfl, fun v hv => by cases hv⟩
      | succ m ih =>
        intro hm
        have hlt : vs.length - (m + 1) < vs.length := by omega
        obtain ⟨x, t, u, e, o, ho', hc, k, hd⟩ := hpair _ hlt
        have ed : vs.drop (vs.length - (m + 1)) = vs.getD (vs.length - (m + 1)) Value.none :: vs.drop (vs.length - m) := by
          rw [List.drop_eq_getElem_cons hlt]
          congr 1
          · simp [hlt]
          · rw [show vs.length - (m + 1) + 1 = vs.length - m by omega]
        obtain ⟨fs, h1, h2, h3⟩ := ih (by omega)
        refine ⟨_ :: fs, by rw [ed, e]; exact KatTups.cons ho' hc hd rfl h1, by simp [h2], fun v hv => ?_⟩
        rcases List.mem_cons.mp hv with rfl | hv
        · exact ⟨_, _, rfl⟩
        · exact h3 v hv
    obtain ⟨fs, tf, hfl, hfi⟩ := tups vs.length (Nat.le_refl _)
    rw [Nat.sub_self, List.drop_zero] at tf
    refine wpAny_bind (kat_kind (T := .type "int") tf (by omega) (fun v hv => ?_) rfl ?_)
    · obtain ⟨z, t, rfl⟩ := hfi v hv
      exact .now
    have hbi : ∀ i, i < vs.length → -10000 ≤ (prs.getD i (0, 0)).2 ∧ (prs.getD i (0, 0)).2 ≤ 10000 := fun i hi => by
      refine hb _ ?_
      have : i < prs.length := by omega
      simp [List.getD, this]
    have run := kas_det (s := { s with heap := ((s.heap.update a (Obj.mapSeq fun _ => (#[] : Array Value))).push (seqObj "tuple" vs.toArray 0)).push (seqObj "list" #[] 0) }) (n := vs.length) (K := fun i => pkey (prs.getD i (0, 0))) (cmp := kas_ask prog w A (tuples' true) vs) (Qp := fun p => PP vs.length p ∧ Up (fun i => pkey (prs.getD i (0, 0))) p vs.length) (fun i j C s' hi h1 h2 hC => by
      obtain ⟨tk, rfl⟩ := hi
      obtain ⟨x, t1, t2, e1, hx⟩ := hpair i h1
      obtain ⟨y, t3, t4, e2, hy⟩ := hpair j h2
      unfold kas_ask
      rw [e1, e2]
      refine ask_pair hx hy (hbi i h1) (hbi j h2) fun tk' => hC _ ⟨tk', rfl⟩) (kas_sort vs.length) _ (ok_sort (by omega) fun p h1 h2 => ⟨h1, h2⟩) ⟨s.toks, rfl⟩
    refine wpAny_bind (wpAny_mono (kat_run (Q := fun st' s' => ∃ p : Array Nat, p.size = vs.length ∧ arrOf st' = p.map (kas_item (vs.toArray.zip vs.toArray)) ∧ failedOf st' = none ∧ (PP vs.length p ∧ Up (fun i => pkey (prs.getD i (0, 0))) p vs.length) ∧ TI { s with heap := ((s.heap.update a (Obj.mapSeq fun _ => (#[] : Array Value))).push (seqObj "tuple" vs.toArray 0)).push (seqObj "list" #[] 0) } s')
      rfl hn2 h64 (fun p' st' s' a1 a2 a3 a4 => ⟨p', a1, a2, a3, a4⟩) run) ?_ fun _ _ e => e)
    rintro ⟨⟨⟩, st'⟩ s' ⟨p, hp, har, hf, ⟨hpp, hup⟩, tk, rfl⟩
    dsimp only
    have hout := kat_snds rfl har
    have hsz : (List.toArray (p.toList.map fun i => vs.getD i Value.none)).size = vs.length := by rw [List.size_toArray, List.length_map, Array.length_toList, hp]
    rw [hout]
    refine wpAny_bind (seqEpoch_at ho6 rfl ?_)
    refine wpAny_bind (listUpdate_at ho6 rfl ?_ (Nat.zero_le _) (Nat.le_trans (Nat.le_of_eq hsz) (by rw [sizeLine_eq]; omega)))
    rw [hf]
    simp only [bne_self_eq_false, Bool.false_eq_true, if_false]
    exact wpAny_pure (fin p tk hpp hup _ rfl)
end
end
section
section
variable {C : Cx} {sc : Scope} {n : Nat} {env : Env} {A : Around} {s : Shared} {lo : Loc} {st : Store} {E : Value → Shared → Prop} {Q : AV → Store → Prop}
theorem sorted_i {ns : List Int} (hz : ns.length < 64) (hQ : ∀ ns', ns'.Perm ns → ns'.Pairwise (· ≤ ·) → Q (.lst (nums ns')) st) : ACall C n (.builtin "sorted") [.lst (nums ns)] st Q := fun A s vs hA S hr => by
  cases hr with
  | cons ra hr =>
    cases hr
    cases ra with
    | lst ht hta hv =>
      rename_i a us
      have hl := hv.length
      refine sorted_ints ht (repInts hv) (by rw [hl]; simpa using hz) fun out ns' h1 h2 h3 => ?_
      obtain ⟨e, he⟩ := sortedAll_at s.heap us out
      refine PC.up (tk := s.toks) S (fun b o q => sortedAll_old q) (.lst (vs := out.toList) ⟨_, he, rfl, _, rfl⟩ (S.none (Heap.get?_none_of_le (Nat.le_succ _))) (intsRep h1)) (hQ ns' h2 h3)

theorem repPair {h : Heap} {v : Value} {p : Int × Int} (r : Rep h st v (AVp p)) : isPair h v p ∧ ∃ x, v = .ref x ∧ st x = none := by
  cases r with
  | tup ht hta hv =>
    cases hv with
    | cons ra hv => cases hv with
      | cons rb hv =>
        cases hv; cases ra; cases rb
        exact ⟨⟨_, _, _, rfl, ht⟩, _, rfl, hta⟩

theorem sorted_p {d : List (Int × Int)} (hz : d.length < 64) (hb : ∀ p ∈ d, -10000 ≤ p.2 ∧ p.2 ≤ 10000) (hQ : ∀ d', d'.Perm d → d'.Pairwise (fun x y => pkey x ≤ pkey y) → Q (.lst (enc d')) st) : ACall C n (.builtin "sorted") [.tup (enc d)] st Q := fun A s vs hA S hr => by
  cases hr with
  | cons ra hr =>
    cases hr
    cases ra with
    | tup ht hta hv =>
      rename_i a us
      have hl : us.length = d.length := by rw [hv.length]; simp
      obtain ⟨o, ho, hc, k, hd⟩ := id ht
      refine Calls.call_function_entry kind_sorted plain_sorted entry_sorted (args_sorted1 _) ?_
      unfold Builtin.«sorted»
      refine wpAny_bind (m := checkCount "sorted" 1 1 _) (wpAny_pure ?_)
      refine wpAny_bind (wpAny_collect_seq a (.inr rfl) ho hc hd (fun h' up => ?_) (by rw [List.size_toArray, sizeLine_eq]; omega))
      refine wpAny_bind (wpAny_newList ?_ (by rw [sizeLine_eq]; show us.length ≤ _; omega))
      have hnew : (h'.push (seqObj "list" us.toArray 0)).get? h'.objs.size = some (seqObj "list" us.toArray 0) := Heap.get?_push_size _ rfl
      have up2 : ∀ b o, s.heap.get? b = some o → (h'.push (seqObj "list" us.toArray 0)).get? b = some o := fun b o e => Heap.get?_push_of_some _ (up b o e)
      have hn : s.heap.get? h'.objs.size = none := by
        cases q : s.heap.get? h'.objs.size with
        | none => rfl
        | some o => exact absurd (Heap.lt_size (up _ _ q)) (Nat.lt_irrefl _)
      have kp1 : Kp s.heap st (h'.push (seqObj "list" us.toArray 0)) st := .grow up2
      have hv1 := hv.tk kp1
      refine wpAny_bind (wpAny_holding (wpAny_call_entry slot_list_sort ⟨_, hnew, rfl⟩ entry_list_sort (sort_pairs (s := { s with heap := h'.push (seqObj "list" us.toArray 0) }) (prs := d) hnew hl (fun i hi => ?_) hb (by omega) fun p hp hu h'' tk k2 hh => ?_) (args_list_sort _)))
      · have hd' : (enc d)[i]? = some (AVp (d.getD i (0, 0))) := by
          have : i < d.length := by omega
          simp [List.getElem?_map, this]
        obtain ⟨v, hv', hrv⟩ := hv1.get hd'
        rw [show us.getD i Value.none = v by simp [List.getD, hv']]
        exact (repPair hrv).1
      · obtain ⟨e, he⟩ := hh
        refine ⟨_, rfl, wpAny_pure ⟨_, rfl, ?_⟩⟩
        have up3 : ∀ b o, s.heap.get? b = some o → h''.get? b = some o := fun b o e => k2 b o (by rintro rfl; rw [hn] at e; cases e) (up2 b o e)
        have hpl : p.toList.Perm (List.range us.length) := by simpa using hp.perm.toList
        have hperm : (p.toList.map fun i => d.getD i (0, 0)).Perm d := by
          refine (hpl.map _).trans ?_
          rw [hl]
          refine List.Perm.of_eq (List.ext_getElem? fun i => ?_)
          rw [List.getElem?_map]
          by_cases h : i < d.length
          · rw [List.getElem?_range h]; simp [h]
          · rw [List.getElem?_eq_none (by simp; omega), List.getElem?_eq_none (by omega)]; rfl
        have hrep : Reps h'' st (p.toList.map fun i => us.getD i Value.none) (enc (p.toList.map fun i => d.getD i (0, 0))) := by
          have all : ∀ l : List Nat, (∀ i ∈ l, i < us.length) → Reps h'' st (l.map fun i => us.getD i Value.none) (enc (l.map fun i => d.getD i (0, 0))) := by
            intro l
            induction l with
            | nil => intro _; exact .nil
            | cons i l ih =>
              intro hi
              refine .cons ?_ (ih fun j hj => hi j (List.mem_cons_of_mem _ hj))
              have hi' := hi i List.mem_cons_self
              have hd' : (enc d)[i]? = some (AVp (d.getD i (0, 0))) := by
                have : i < d.length := by omega
                simp [List.getElem?_map, this]
              obtain ⟨v, hv', hrv⟩ := hv.get hd'
              show Rep h'' st (us.getD i Value.none) (AVp (d.getD i (0, 0)))
              rw [show us.getD i Value.none = v by simp [List.getD, hv']]
              exact hrv.tk (.grow up3)
          exact all _ fun i hi => by simpa using hpl.mem_iff.mp hi
        refine PC.up (h' := h'') (tk := tk) S up3 (.lst (vs := p.toList.map fun i => us.getD i Value.none) ⟨_, he, rfl, _, rfl⟩ (S.none hn) hrep) (hQ _ hperm ?_)
        rw [List.pairwise_iff_getElem]
        intro i j hi hj hij
        have hs : p.size = us.length := hp.size
        simp only [List.length_map, Array.length_toList] at hi hj
        have := hu i j hij (by omega)
        simp only [List.getElem_map]
        simpa [Array.getD, hi, hj] using this
end
end
section
/-- the k-th statement of the program, a def: its name, its parameters, its body and its scope -/
def fnBody (k : Nat) : List Stmt := match PySem.Challenge.pw_no0303_01.main.body[k]? with
  | some (.FunctionDef _ _ b _ _ _ _ _ _ _) => b
  | _ => []
def fnScope (k : Nat) : Scope := match PySem.Challenge.pw_no0303_01.main.body[k]? with
  | some (.FunctionDef _ _ _ _ _ _ sc _ _ _) => sc
  | _ => { kind := .module, names := [], isGenerator := false, isCoroutine := false, more := [] }
def fnName (k : Nat) : Str := match PySem.Challenge.pw_no0303_01.main.body[k]? with
  | some (.FunctionDef x _ _ _ _ _ _ _ _ _) => x
  | _ => Str.ofString ""
def fnArgs (k : Nat) : List Str := match PySem.Challenge.pw_no0303_01.main.body[k]? with
  | some (.FunctionDef _ as _ _ _ _ _ _ _ _) => as.args.map (·.arg)
  | _ => []
def isDef (k : Nat) : Bool := match PySem.Challenge.pw_no0303_01.main.body[k]? with
  | some (.FunctionDef _ _ _ _ _ _ _ _ _ _) => true
  | _ => false

theorem put_hit {β : Type} {lo : Str → Option β} {x : Str} {d : β} : put lo x d x = some d := by simp [put]
theorem put_skip {β : Type} {lo : Str → Option β} {x y : Str} {d e : β} (h : (y == x) = false) (k : lo y = some d) : put lo x e y = some d := by
  have : y ≠ x := fun q => by rw [q] at h; simp at h
  simp [put, this, k]
theorem comp_free {scope : Scope} {lo : Loc} {x : Str} {d : AV} (k : lo x = some d) (h : scope.names.lookup x = some .free := by rfl) : compLo scope lo x = some d := by simp [compLo, h, k]
theorem comp_put2 {scope : Scope} {lo : Loc} {x z : Str} {d e : AV} (h : scope.names.lookup x = some .local := by rfl) (h' : scope.names.lookup z = some .local := by rfl) : ∀ y v, compLo scope lo y = some v → put (put (compLo scope lo) x d) z e y = some v := fun y v k => by
  have a := compLo_put h (d := d) y v k
  by_cases q : y = z
  · subst q; simp [compLo, h'] at k
  · simp only [put, q, if_false]; exact a
abbrev lo0 : Loc := fun _ => none

def biNames : List (Str × Value) := [(Str.ofString "len", .builtin "len"), (Str.ofString "sorted", .builtin "sorted"), (Str.ofString "max", .builtin "max"), (Str.ofString "min", .builtin "min"), (Str.ofString "sum", .builtin "sum"),
  (Str.ofString "tuple", .type "tuple"), (Str.ofString "list", .type "list"), (Str.ofString "range", .type "range"), (Str.ofString "reversed", .type "reversed")]
/-- where the defs stand, and what the names say -/
structure Env0 (C : Cx) (f : Nat → Addr) : Prop where
  fn : ∀ k, k < 31 → isDef k = true → ∃ o fd, FnOk C (f k) (fnArgs k) (fnBody k) (fnScope k) o fd
  nm : ∀ k, k < 31 → isDef k = true → C.mg (fnName k) = some (.ref (f k))
  bi : ∀ p ∈ biNames, C.mg p.1 = none ∧ C.mb p.1 = some p.2
section
variable {C : Cx} {f : Nat → Addr} {sc : Scope}
theorem Env0.res (H : Env0 C f) (k : Nat) (hk : k < 31 := by decide) (hd : isDef k = true := by rfl) (h : sc.names.lookup (fnName k) = some .globalImplicit := by rfl) : Res C sc (fnName k) (.ref (f k)) := ⟨h, .inl (H.nm k hk hd)⟩
theorem Env0.kept (H : Env0 C f) (k : Nat) (hk : k < 31 := by decide) (hd : isDef k = true := by rfl) : Kept C (.ref (f k)) := let ⟨_, _, F⟩ := H.fn k hk hd; F.kept
theorem Env0.bres (H : Env0 C f) (k : Nat) (v : Value) {x : Str} (e : biNames[k]? = some (x, v) := by rfl) (h : sc.names.lookup x = some .globalImplicit := by rfl) : Res C sc x v :=
  ⟨h, .inr (H.bi (x, v) (List.mem_of_getElem? e))⟩
end

theorem ATg_name {C : Cx} {sc : Scope} {n : Nat} {lo : Loc} {st : Store} {x : Str} {pos : Pos} {d : AV} {K : Loc → Store → Prop} (h : K (put lo x d) st) (hk : isSto sc x = true := by rfl) : ATg C sc n (.Name x pos) lo st d K := AAs.toT (AAs_name hk) h
/- equality of what the program compares -/
section
variable {C : Cx} {n : Nat} {st : Store} {Q : AV → Store → Prop}
def optI : Option Int → AV
  | some i => .int i
  | none => .none
theorem okAV_nums (k : Nat) (ns : List Int) : okAV (k + 1) (.lst (nums ns)) = true := by
  simp only [okAV, List.all_eq_true]
  intro x hx
  obtain ⟨i, _, rfl⟩ := List.mem_map.mp hx
  cases k <;> rfl
theorem okAV_enc (k : Nat) (d : List (Int × Int)) : okAV (k + 2) (.tup (enc d)) = true := by
  simp only [okAV, List.all_eq_true]
  intro x hx
  obtain ⟨i, _, rfl⟩ := List.mem_map.mp hx
  simp only [okAV, List.all_eq_true]
  intro x hx
  simp only [List.mem_cons, List.not_mem_nil, or_false] at hx
  rcases hx with rfl | rfl <;> (cases k <;> rfl)
theorem okAV_encl (k : Nat) (d : List (Int × Int)) : okAV (k + 2) (.lst (enc d)) = true := by
  have := okAV_enc k d
  simpa only [okAV] using this
theorem okAV_opt (k : Nat) (o : Option Int) : okAV k (optI o) = true := by cases o <;> (cases k <;> rfl)
theorem eqAV_nums : ∀ ns ms : List Int, eqAV (.lst (nums ns)) (.lst (nums ms)) = decide (ns = ms)
  | [], [] => by simp [eqAV, toPy, toPys, PyData.eqv, PyData.eqvAll]
  | [], _ :: _ => by simp [eqAV, toPy, toPys, PyData.eqv, PyData.eqvAll]
  | _ :: _, [] => by simp [eqAV, toPy, toPys, PyData.eqv, PyData.eqvAll]
  | a :: ns, b :: ms => by
    have ih := eqAV_nums ns ms
    simp only [eqAV, toPy, PyData.eqv] at ih
    simp only [eqAV, toPy, toPys, PyData.eqv, PyData.eqvAll, List.map_cons, ih]
    rw [Bool.eq_iff_iff]
    simp
theorem eqAV_enc : ∀ d e : List (Int × Int), eqAV (.tup (enc d)) (.tup (enc e)) = decide (d = e)
  | [], [] => by simp [eqAV, toPy, toPys, PyData.eqv, PyData.eqvAll]
  | [], _ :: _ => by simp [eqAV, toPy, toPys, PyData.eqv, PyData.eqvAll]
  | _ :: _, [] => by simp [eqAV, toPy, toPys, PyData.eqv, PyData.eqvAll]
  | a :: ns, b :: ms => by
    have ih := eqAV_enc ns ms
    simp only [eqAV, toPy, PyData.eqv] at ih
    simp only [eqAV, toPy, toPys, PyData.eqv, PyData.eqvAll, List.map_cons, ih]
    rw [Bool.eq_iff_iff]
    simp [Prod.ext_iff]
theorem eqAV_opt (a b : Option Int) : eqAV (optI a) (optI b) = decide (a = b) := by
  cases a <;> cases b <;> (rw [Bool.eq_iff_iff]; simp [eqAV, optI, toPy, PyData.eqv])
theorem eqAV_l0 (ds : List AV) : eqAV (.lst ds) (.lst []) = ds.isEmpty := by cases ds <;> simp [eqAV, toPy, toPys, PyData.eqv, PyData.eqvAll]
theorem eqAV_t0 (ds : List AV) : eqAV (.tup ds) (.tup []) = ds.isEmpty := by cases ds <;> simp [eqAV, toPy, toPys, PyData.eqv, PyData.eqvAll]
theorem eqAV_int (i j : Int) : eqAV (.int i) (.int j) = decide (i = j) := by rw [Bool.eq_iff_iff]; simp [eqAV, toPy, PyData.eqv]
theorem eqAV_bool (i j : Bool) : eqAV (.bool i) (.bool j) = (i == j) := by simp [eqAV, toPy, PyData.eqv]
theorem eqAV_str (i j : Str) : eqAV (.str i) (.str j) = (i == j) := by simp [eqAV, toPy, PyData.eqv]

theorem eq_ii {i j : Int} (hQ : Q (.bool (decide (i = j))) st) : AV2 C n (compareOp .Eq) (.int i) (.int j) st Q := eq_d rfl rfl (by rw [eqAV_int]; exact hQ)
theorem ne_ii {i j : Int} (hQ : Q (.bool (!decide (i = j))) st) : AV2 C n (compareOp .NotEq) (.int i) (.int j) st Q := ne_d rfl rfl (by rw [eqAV_int]; exact hQ)
theorem eq_bb {i j : Bool} (hQ : Q (.bool (i == j)) st) : AV2 C n (compareOp .Eq) (.bool i) (.bool j) st Q := eq_d rfl rfl (by rw [eqAV_bool]; exact hQ)
theorem ne_bb {i j : Bool} (hQ : Q (.bool (!(i == j))) st) : AV2 C n (compareOp .NotEq) (.bool i) (.bool j) st Q := ne_d rfl rfl (by rw [eqAV_bool]; exact hQ)
theorem eq_oo {i j : Option Int} (hQ : Q (.bool (decide (i = j))) st) : AV2 C n (compareOp .Eq) (optI i) (optI j) st Q := eq_d (okAV_opt _ _) (okAV_opt _ _) (by rw [eqAV_opt]; exact hQ)
theorem ne_oo {i j : Option Int} (hQ : Q (.bool (!decide (i = j))) st) : AV2 C n (compareOp .NotEq) (optI i) (optI j) st Q := ne_d (okAV_opt _ _) (okAV_opt _ _) (by rw [eqAV_opt]; exact hQ)
theorem eq_tt {i j : List (Int × Int)} (hQ : Q (.bool (decide (i = j))) st) : AV2 C n (compareOp .Eq) (.tup (enc i)) (.tup (enc j)) st Q := eq_d (okAV_enc _ _) (okAV_enc _ _) (by rw [eqAV_enc]; exact hQ)
theorem ne_tt {i j : List (Int × Int)} (hQ : Q (.bool (!decide (i = j))) st) : AV2 C n (compareOp .NotEq) (.tup (enc i)) (.tup (enc j)) st Q := ne_d (okAV_enc _ _) (okAV_enc _ _) (by rw [eqAV_enc]; exact hQ)
theorem eq_ll {i j : List Int} (hQ : Q (.bool (decide (i = j))) st) : AV2 C n (compareOp .Eq) (.lst (nums i)) (.lst (nums j)) st Q := eq_d (okAV_nums _ _) (okAV_nums _ _) (by rw [eqAV_nums]; exact hQ)
theorem ne_ll {i j : List Int} (hQ : Q (.bool (!decide (i = j))) st) : AV2 C n (compareOp .NotEq) (.lst (nums i)) (.lst (nums j)) st Q := ne_d (okAV_nums _ _) (okAV_nums _ _) (by rw [eqAV_nums]; exact hQ)
theorem eq_l0 {i : List Int} (hQ : Q (.bool (decide (i = []))) st) : AV2 C n (compareOp .Eq) (.lst (nums i)) (.lst []) st Q := eq_ll (j := []) hQ
theorem ne_l0 {i : List Int} (hQ : Q (.bool (!decide (i = []))) st) : AV2 C n (compareOp .NotEq) (.lst (nums i)) (.lst []) st Q := ne_ll (j := []) hQ
theorem eq_t0 {i : List (Int × Int)} (hQ : Q (.bool (decide (i = []))) st) : AV2 C n (compareOp .Eq) (.tup (enc i)) (.tup []) st Q := eq_tt (j := []) hQ
theorem eq_r0 {a : Addr} {i : List Int} (ha : st a = some (.list (nums i))) (hQ : Q (.bool i.isEmpty) st) : AV2 C n (compareOp .Eq) (.ref a) (.lst []) st Q := eq_ref ha (okAV_nums _ _) rfl (by rw [eqAV_l0, List.isEmpty_map]; exact hQ)
theorem ne_r0 {a : Addr} {i : List (Int × Int)} (ha : st a = some (.list (enc i))) (hQ : Q (.bool (!i.isEmpty)) st) : AV2 C n (compareOp .NotEq) (.ref a) (.lst []) st Q := ne_ref ha (okAV_encl _ _) rfl (by rw [eqAV_l0, List.isEmpty_map]; exact hQ)
theorem eq_ss {i j : Str} (hi : PyData.canLay0 (.str i) = true) (hj : PyData.canLay0 (.str j) = true) (hQ : Q (.bool (i == j)) st) : AV2 C n (compareOp .Eq) (.str i) (.str j) st Q := eq_d hi hj (by rw [eqAV_str]; exact hQ)
end
end
section
/-- which def a name is -/
def fnIdx : List (Str × Nat) := [(Str.ofString "has", 8), (Str.ofString "next_from", 7), (Str.ofString "up_to", 10), (Str.ofString "from_on", 11), (Str.ofString "meet", 13), (Str.ofString "minus", 15),
  (Str.ofString "put_behind", 2), (Str.ofString "struck", 20), (Str.ofString "_law_draw", 23), (Str.ofString "_law_runs", 24), (Str.ofString "_law_plain", 25), (Str.ofString "_law_truth", 26),
  (Str.ofString "range_of", 1), (Str.ofString "from_values", 3), (Str.ofString "least", 4), (Str.ofString "greatest", 5), (Str.ofString "size", 6), (Str.ofString "values", 9), (Str.ofString "without", 12),
  (Str.ofString "join", 14), (Str.ofString "is_within", 16), (Str.ofString "shifted", 17), (Str.ofString "negated", 18), (Str.ofString "negation", 19), (Str.ofString "said_of", 21),
  (Str.ofString "_law_done", 27), (Str.ofString "_law_asked", 28), (Str.ofString "_law_said", 29), (Str.ofString "law", 30)]
theorem fnIdx_ok : ∀ p ∈ fnIdx, p.2 < 31 ∧ isDef p.2 = true ∧ fnName p.2 = p.1 := by decide +kernel
theorem AE_fn {C : Cx} {f : Nat → Addr} {sc : Scope} {n : Nat} {lo : Loc} {st : Store} {Q : AV → Store → Prop} {x : Str} {xp pos : Pos} {e : Expr} {es : List Expr} (H : Env0 C f) (k : Nat) (hk : fnIdx.lookup x = some k)
    (hl : sc.names.lookup x = some .globalImplicit) (h : AEs C sc n (e :: es) lo st fun ds st1 => ACall C n (.ref (f k)) ds st1 Q)
    (he : ∀ env, starEach (e :: es) env = (false, eval e env) :: starEach es env := by intro _; rfl) (hplain : ∀ env, (backTo pos (starEach es env)).any (·.1) = false := by intro _; rfl)
    (hd : (x == ("__debug__" : Str)) = false := by decide) : AE C sc n (.Call (.Name x xp) (e :: es) [] pos) lo st Q := by
  obtain ⟨h1, h2, h3⟩ : k < 31 ∧ isDef k = true ∧ fnName k = x := fnIdx_ok _ (mem_of_lookup hk)
  subst h3
  exact AE_call (H.res k h1 h2 hl) (H.kept k h1 h2) h he hplain hd
end
section
/- the plain law: rows and lists say the same -/
def mem (d : Rows) (x : Int) : Prop := ∃ p ∈ d, p.1 ≤ x ∧ x ≤ p.2
structure WF (d : Rows) : Prop where
  le : ∀ p ∈ d, p.1 ≤ p.2
  gap : d.Pairwise fun p q => p.2 + 1 < q.1
def Asc (ns : List Int) : Prop := ns.Pairwise (· < ·)
/-- d is what the ascending list says -/
structure Dm (d : Rows) (ns : List Int) : Prop where
  wf : WF d
  asc : Asc ns
  same : ∀ x, mem d x ↔ x ∈ ns

theorem WF.nil : WF [] := ⟨fun _ h => (by cases h), .nil⟩
theorem wf_cons {p : Int × Int} {d : Rows} : WF (p :: d) ↔ p.1 ≤ p.2 ∧ (∀ q ∈ d, p.2 + 1 < q.1) ∧ WF d := by
  constructor
  · rintro ⟨h1, h2⟩
    rw [List.pairwise_cons] at h2
    exact ⟨h1 p List.mem_cons_self, h2.1, fun q hq => h1 q (List.mem_cons_of_mem _ hq), h2.2⟩
  · rintro ⟨h1, h2, h3⟩
    refine ⟨fun q hq => ?_, List.pairwise_cons.mpr ⟨h2, h3.gap⟩⟩
    rcases List.mem_cons.mp hq with rfl | hq
    · exact h1
    · exact h3.le q hq
theorem wf_append {d e : Rows} : WF (d ++ e) ↔ WF d ∧ WF e ∧ ∀ p ∈ d, ∀ q ∈ e, p.2 + 1 < q.1 := by
  constructor
  · rintro ⟨h1, h2⟩
    rw [List.pairwise_append] at h2
    exact ⟨⟨fun p hp => h1 p (List.mem_append_left _ hp), h2.1⟩, ⟨fun p hp => h1 p (List.mem_append_right _ hp), h2.2.1⟩, h2.2.2⟩
  · rintro ⟨h1, h2, h3⟩
    refine ⟨fun p hp => ?_, List.pairwise_append.mpr ⟨h1.gap, h2.gap, h3⟩⟩
    rcases List.mem_append.mp hp with hp | hp
    · exact h1.le p hp
    · exact h2.le p hp
theorem wf_one {l h : Int} (k : l ≤ h) : WF [(l, h)] := wf_cons.mpr ⟨k, fun _ h => (by cases h), .nil⟩
theorem mem_nil (x : Int) : ¬ mem [] x := fun ⟨_, h, _⟩ => by cases h
theorem mem_cons {p : Int × Int} {d : Rows} {x : Int} : mem (p :: d) x ↔ (p.1 ≤ x ∧ x ≤ p.2) ∨ mem d x := by
  simp [mem]
theorem mem_append {d e : Rows} {x : Int} : mem (d ++ e) x ↔ mem d x ∨ mem e x := by
  simp only [mem, List.mem_append]
  constructor
  · rintro ⟨p, hp | hp, h⟩
    · exact .inl ⟨p, hp, h⟩
    · exact .inr ⟨p, hp, h⟩
  · rintro (⟨p, hp, h⟩ | ⟨p, hp, h⟩)
    · exact ⟨p, .inl hp, h⟩
    · exact ⟨p, .inr hp, h⟩
theorem mem_one {l h x : Int} : mem [(l, h)] x ↔ l ≤ x ∧ x ≤ h := by simp [mem]
theorem row_mem {d : Rows} (w : WF d) {p : Int × Int} (hp : p ∈ d) : mem d p.1 ∧ mem d p.2 := ⟨⟨p, hp, Int.le_refl _, w.le p hp⟩, ⟨p, hp, w.le p hp, Int.le_refl _⟩⟩

/-- rows that have the same members are the same -/
theorem wf_ext : ∀ {d e : Rows}, WF d → WF e → (∀ x, mem d x ↔ mem e x) → d = e
  | [], [], _, _, _ => rfl
  | [], q :: e, _, we, h => absurd ((h q.1).mpr (row_mem we List.mem_cons_self).1) (mem_nil _)
  | p :: d, [], wd, _, h => absurd ((h p.1).mp (row_mem wd List.mem_cons_self).1) (mem_nil _)
  | (a, b) :: d, (c, f) :: e, wd, we, h => by
    obtain ⟨d1, d2, d3⟩ := wf_cons.mp wd
    obtain ⟨e1, e2, e3⟩ := wf_cons.mp we
    simp only at d1 d2 e1 e2
    have low : ∀ x, mem d x → b + 1 < x := fun x ⟨p, hp, h1, h2⟩ => by have := d2 p hp; omega
    have low' : ∀ x, mem e x → f + 1 < x := fun x ⟨p, hp, h1, h2⟩ => by have := e2 p hp; omega
    have hac : a = c := by
      have h1 := mem_cons.mp ((h a).mp (mem_cons.mpr (.inl ⟨Int.le_refl _, d1⟩)))
      have h2 := mem_cons.mp ((h c).mpr (mem_cons.mpr (.inl ⟨Int.le_refl _, e1⟩)))
      simp only at h1 h2
      rcases h1 with h1 | h1
      · rcases h2 with h2 | h2
        · omega
        · have := low c h2; omega
      · have := low' a h1
        rcases h2 with h2 | h2
        · omega
        · have := low c h2; omega
    subst hac
    have hbf : b = f := by
      have up : ∀ {u v : Int} {d e : Rows}, a ≤ u → u < v → (∀ x, mem d x → u + 1 < x) → (∀ x, mem ((a, u) :: d) x ↔ mem ((a, v) :: e) x) → False := fun {u v d e} h1 h2 h3 h4 => by
        have := mem_cons.mp ((h4 (u + 1)).mpr (mem_cons.mpr (.inl ⟨by simp only; omega, by simp only; omega⟩)))
        simp only at this
        rcases this with this | this
        · omega
        · have := h3 _ this; omega
      rcases Int.lt_trichotomy b f with q | q | q
      · exact (up d1 q low h).elim
      · exact q
      · exact (up e1 q low' fun x => (h x).symm).elim
    subst hbf
    congr 1
    refine wf_ext d3 e3 fun x => ?_
    constructor
    · intro hx
      have := mem_cons.mp ((h x).mp (mem_cons.mpr (.inr hx)))
      have l := low x hx
      simp only at this
      rcases this with this | this
      · omega
      · exact this
    · intro hx
      have := mem_cons.mp ((h x).mpr (mem_cons.mpr (.inr hx)))
      have l := low' x hx
      simp only at this
      rcases this with this | this
      · omega
      · exact this
theorem asc_ext : ∀ {a b : List Int}, Asc a → Asc b → (∀ x, x ∈ a ↔ x ∈ b) → a = b
  | [], [], _, _, _ => rfl
  | [], y :: b, _, _, h => absurd ((h y).mpr List.mem_cons_self) (by simp)
  | x :: a, [], _, _, h => absurd ((h x).mp List.mem_cons_self) (by simp)
  | x :: a, y :: b, ha, hb, h => by
    obtain ⟨a1, a2⟩ := List.pairwise_cons.mp ha
    obtain ⟨b1, b2⟩ := List.pairwise_cons.mp hb
    have hxy : x = y := by
      have h1 := (h x).mp List.mem_cons_self
      have h2 := (h y).mpr List.mem_cons_self
      rcases List.mem_cons.mp h1 with q | q
      · exact q
      · rcases List.mem_cons.mp h2 with r | r
        · exact r.symm
        · have := a1 y r; have := b1 x q; omega
    subst hxy
    congr 1
    refine asc_ext a2 b2 fun z => ?_
    constructor
    · intro hz
      have := (h z).mp (List.mem_cons_of_mem _ hz)
      rcases List.mem_cons.mp this with q | q
      · have := a1 z hz; omega
      · exact q
    · intro hz
      have := (h z).mpr (List.mem_cons_of_mem _ hz)
      rcases List.mem_cons.mp this with q | q
      · have := b1 z hz; omega
      · exact q
theorem Dm.unique {d e : Rows} {ns : List Int} (h : Dm d ns) (h' : Dm e ns) : d = e := wf_ext h.wf h'.wf fun x => (h.same x).trans (h'.same x).symm

theorem span_asc (l h : Int) : Asc (span l h) := by
  unfold Asc span
  rw [List.pairwise_map]
  exact List.Pairwise.imp (fun h => by omega) (List.pairwise_lt_range (n := _))
theorem span_mem (l h x : Int) : x ∈ span l h ↔ l ≤ x ∧ x ≤ h := by
  simp only [span, List.mem_map, List.mem_range]
  constructor
  · rintro ⟨i, hi, rfl⟩; omega
  · rintro ⟨h1, h2⟩; exact ⟨(x - l).toNat, by omega, by omega⟩
theorem dm_range (l h : Int) : Dm (rangeOf l h) (span l h) := by
  refine ⟨?_, span_asc l h, fun x => ?_⟩
  · unfold rangeOf; split
    · rename_i q; exact wf_one q
    · exact .nil
  · rw [span_mem]
    unfold rangeOf; split
    · exact mem_one
    · exact ⟨fun k => (mem_nil _ k).elim, fun k => by omega⟩

theorem putB_nil' (l h : Int) : putB [] l h = [(l, h)] := by simp [putB]
theorem putB_snoc' (o : Rows) (x y l h : Int) : putB (o ++ [(x, y)]) l h = if l ≤ y + 1 then (if y < h then o ++ [(x, h)] else o ++ [(x, y)]) else o ++ [(x, y)] ++ [(l, h)] := by simp [putB]
theorem putB_ok {f : Rows} {l h : Int} (w : WF f) (hb : ∀ p ∈ f, p.1 ≤ l) (hl : l ≤ h) : WF (putB f l h) ∧ (∀ p ∈ putB f l h, p.1 ≤ l) ∧ ∀ x, mem (putB f l h) x ↔ mem f x ∨ (l ≤ x ∧ x ≤ h) := by
  rcases List.eq_nil_or_concat f with rfl | ⟨o, ⟨x, y⟩, rfl⟩
  · rw [putB_nil']
    exact ⟨wf_one hl, fun p hp => by rw [List.mem_singleton.mp hp]; exact Int.le_refl _, fun x => by simp [mem_one, mem_nil]⟩
  · rw [List.concat_eq_append] at *
    obtain ⟨w1, w2, w3⟩ := wf_append.mp w
    have hxy : x ≤ y := (wf_cons.mp w2).1
    have hxl : x ≤ l := hb (x, y) (by simp)
    have hold : ∀ p ∈ o, p.1 ≤ l := fun p hp => hb p (List.mem_append_left _ hp)
    rw [putB_snoc']
    split
    · rename_i c
      split
      · rename_i c2
        refine ⟨wf_append.mpr ⟨w1, wf_one (by omega), fun p hp q hq => ?_⟩, fun p hp => ?_, fun z => ?_⟩
        · rw [List.mem_singleton.mp hq]; exact w3 p hp (x, y) (by simp)
        · rcases List.mem_append.mp hp with hp | hp
          · exact hold p hp
          · rw [List.mem_singleton.mp hp]; exact hxl
        · rw [mem_append, mem_append, mem_one, mem_one]
          constructor
          · rintro (k | k)
            · exact .inl (.inl k)
            · by_cases z ≤ y
              · exact .inl (.inr (by omega))
              · exact .inr (by omega)
          · rintro ((k | k) | k)
            · exact .inl k
            · exact .inr (by omega)
            · exact .inr (by omega)
      · rename_i c2
        refine ⟨w, hb, fun z => ?_⟩
        rw [mem_append, mem_one]
        constructor
        · exact .inl
        · rintro (k | k)
          · exact k
          · exact .inr (by omega)
    · rename_i c
      refine ⟨wf_append.mpr ⟨w, wf_one hl, fun p hp q hq => ?_⟩, fun p hp => ?_, fun z => ?_⟩
      · rw [List.mem_singleton.mp hq]
        rcases List.mem_append.mp hp with hp | hp
        · have := w3 p hp (x, y) (by simp)
          simp only at this ⊢; omega
        · rw [List.mem_singleton.mp hp]; simp only; omega
      · rcases List.mem_append.mp hp with hp | hp
        · exact hb p hp
        · rw [List.mem_singleton.mp hp]; exact Int.le_refl _
      · rw [mem_append, mem_one]
theorem putAll_ok : ∀ (rs : Rows) (f : Rows), WF f → (∀ p ∈ rs, p.1 ≤ p.2) → rs.Pairwise (fun p q => p.1 ≤ q.1) → (∀ p ∈ f, ∀ q ∈ rs, p.1 ≤ q.1) → WF (putAll f rs) ∧ ∀ x, mem (putAll f rs) x ↔ mem f x ∨ mem rs x
  | [], f, w, _, _, _ => ⟨w, fun x => by simp [putAll, mem_nil]⟩
  | r :: rs, f, w, hl, hs, hb => by
    obtain ⟨s1, s2⟩ := List.pairwise_cons.mp hs
    obtain ⟨a, b, c⟩ := putB_ok w (fun p hp => hb p hp r List.mem_cons_self) (hl r List.mem_cons_self)
    obtain ⟨d, e⟩ := putAll_ok rs (putB f r.1 r.2) a (fun p hp => hl p (List.mem_cons_of_mem _ hp)) s2 fun p hp q hq => Int.le_trans (b p hp) (s1 q hq)
    refine ⟨d, fun x => ?_⟩
    show mem (putAll (putB f r.1 r.2) rs) x ↔ _
    rw [e, c, mem_cons, or_assoc]
end
section
theorem mem_perm {d e : Rows} (h : d.Perm e) (x : Int) : mem d x ↔ mem e x := by
  simp only [mem]
  exact ⟨fun ⟨p, hp, k⟩ => ⟨p, h.mem_iff.mp hp, k⟩, fun ⟨p, hp, k⟩ => ⟨p, h.mem_iff.mpr hp, k⟩⟩
theorem values_mem (d : Rows) (x : Int) : x ∈ valuesOf d ↔ mem d x := by
  simp only [valuesOf, List.mem_flatMap, span_mem, mem]
theorem values_asc : ∀ {d : Rows}, WF d → Asc (valuesOf d)
  | [], _ => .nil
  | p :: d, w => by
    obtain ⟨h1, h2, h3⟩ := wf_cons.mp w
    show Asc (span p.1 p.2 ++ valuesOf d)
    refine List.pairwise_append.mpr ⟨span_asc _ _, values_asc h3, fun x hx y hy => ?_⟩
    have := (span_mem _ _ _).mp hx
    obtain ⟨q, hq, k1, k2⟩ := (values_mem d y).mp hy
    have := h2 q hq
    omega
theorem Dm.values {d : Rows} {ns : List Int} (h : Dm d ns) : valuesOf d = ns := asc_ext (values_asc h.wf) h.asc fun x => (values_mem d x).trans (h.same x)
theorem span_length (l h : Int) (k : l ≤ h) : ((span l h).length : Int) = h - l + 1 := by simp [span]; omega
theorem size_values : ∀ {d : Rows}, WF d → sizeOf' d = (valuesOf d).length
  | [], _ => rfl
  | p :: d, w => by
    obtain ⟨h1, h2, h3⟩ := wf_cons.mp w
    have ih := size_values h3
    have := span_length _ _ h1
    show (p.2 - p.1 + 1) + sizeOf' d = ((span p.1 p.2 ++ valuesOf d).length : Int)
    rw [List.length_append]; omega
theorem Dm.size {d : Rows} {ns : List Int} (h : Dm d ns) : sizeOf' d = ns.length := by rw [size_values h.wf, h.values]

theorem nextF_nil (v : Int) : nextF [] v = none := rfl
theorem nextF_cons (p : Int × Int) (d : Rows) (v : Int) : nextF (p :: d) v = if v ≤ p.2 then some (max p.1 v) else nextF d v := by
  unfold nextF
  rw [List.find?_cons]
  split
  · rename_i h; rw [if_pos (of_decide_eq_true h)]; rfl
  · rename_i h; rw [if_neg (of_decide_eq_false h)]
/-- the least from v on -/
def Least (S : Int → Prop) (v : Int) : Option Int → Prop
  | some y => S y ∧ v ≤ y ∧ ∀ z, S z → v ≤ z → y ≤ z
  | none => ∀ z, S z → z < v
theorem Least.unique {S : Int → Prop} {v : Int} : ∀ {a b : Option Int}, Least S v a → Least S v b → a = b
  | none, none, _, _ => rfl
  | some y, none, h, k => by have := k y h.1; have := h.2.1; omega
  | none, some y, k, h => by have := k y h.1; have := h.2.1; omega
  | some y, some z, h, k => by
    have := h.2.2 z k.1 k.2.1
    have := k.2.2 y h.1 h.2.1
    congr 1; omega
theorem nextF_least : ∀ {d : Rows} (v : Int), WF d → Least (mem d) v (nextF d v)
  | [], v, _ => fun z hz => (mem_nil z hz).elim
  | (a, b) :: d, v, w => by
    obtain ⟨h1, h2, h3⟩ := wf_cons.mp w
    simp only at h1 h2
    rw [nextF_cons]
    split
    · rename_i c
      simp only at c
      refine ⟨mem_cons.mpr (.inl ⟨by simp only; omega, by simp only; omega⟩), by omega, fun z hz hv => ?_⟩
      rcases mem_cons.mp hz with k | ⟨q, hq, k1, k2⟩
      · simp only at k; omega
      · have := h2 q hq; omega
    · rename_i c
      simp only at c
      have ih := nextF_least (d := d) v h3
      cases q : nextF d v with
      | none =>
        rw [q] at ih
        intro z hz
        rcases mem_cons.mp hz with k | k
        · simp only at k; omega
        · exact ih z k
      | some y =>
        rw [q] at ih
        refine ⟨mem_cons.mpr (.inr ih.1), ih.2.1, fun z hz hv => ?_⟩
        rcases mem_cons.mp hz with k | k
        · simp only at k; omega
        · exact ih.2.2 z k hv
theorem head_least {ns : List Int} (h : Asc ns) (v : Int) : Least (· ∈ ns) v ((ns.filter fun x => decide (v ≤ x)).head?) := by
  cases q : ns.filter fun x => decide (v ≤ x) with
  | nil =>
    intro z hz
    have : ¬ (v ≤ z) := fun k => by
      have : z ∈ ns.filter fun x => decide (v ≤ x) := List.mem_filter.mpr ⟨hz, by simpa using k⟩
      rw [q] at this; cases this
    omega
  | cons y ys =>
    have hy : y ∈ ns.filter fun x => decide (v ≤ x) := by rw [q]; exact List.mem_cons_self
    have hs : (y :: ys).Pairwise (· < ·) := by rw [← q]; exact List.Pairwise.sublist List.filter_sublist h
    refine ⟨(List.mem_filter.mp hy).1, by simpa using (List.mem_filter.mp hy).2, fun z hz hv => ?_⟩
    have : z ∈ ns.filter fun x => decide (v ≤ x) := List.mem_filter.mpr ⟨hz, by simpa using hv⟩
    rw [q] at this
    rcases List.mem_cons.mp this with k | k
    · omega
    · have := (List.pairwise_cons.mp hs).1 z k; omega
theorem Least.congr {S T : Int → Prop} {v : Int} (h : ∀ x, S x ↔ T x) : ∀ {o : Option Int}, Least S v o → Least T v o
  | none, k => fun z hz => k z ((h z).mpr hz)
  | some y, k => ⟨(h y).mp k.1, k.2.1, fun z hz => k.2.2 z ((h z).mpr hz)⟩
theorem Dm.next {d : Rows} {ns : List Int} (h : Dm d ns) (v : Int) : nextF d v = (ns.filter fun x => decide (v ≤ x)).head? := Least.unique (Least.congr h.same (nextF_least v h.wf)) (head_least h.asc v)
theorem any_mem (ns : List Int) (v : Int) : ns.any (· == v) = decide (v ∈ ns) := by
  rw [Bool.eq_iff_iff]; simp
theorem Dm.has {d : Rows} {ns : List Int} (h : Dm d ns) (v : Int) : decide (nextF d v = some v) = ns.any (· == v) := by
  rw [any_mem, decide_eq_decide]
  have k := nextF_least v h.wf
  constructor
  · intro e
    rw [e] at k
    exact (h.same v).mp k.1
  · intro hv
    have hm := (h.same v).mpr hv
    cases q : nextF d v with
    | none => rw [q] at k; have := k v hm; omega
    | some y =>
      rw [q] at k
      have := k.2.2 v hm (Int.le_refl _)
      have := k.2.1
      congr 1; omega

theorem filterMap_wf (g : Int × Int → Option (Int × Int)) (hg : ∀ p q, g p = some q → p.1 ≤ p.2 → q.1 ≤ q.2 ∧ p.1 ≤ q.1 ∧ q.2 ≤ p.2) : ∀ {d : Rows}, WF d → WF (d.filterMap g) ∧ ∀ q ∈ d.filterMap g, ∃ p ∈ d, p.1 ≤ q.1 ∧ q.2 ≤ p.2
  | [], _ => ⟨.nil, fun _ h => by cases h⟩
  | p :: d, w => by
    obtain ⟨h1, h2, h3⟩ := wf_cons.mp w
    obtain ⟨i1, i2⟩ := filterMap_wf g hg h3
    rw [List.filterMap_cons]
    split
    · exact ⟨i1, fun q hq => let ⟨p', hp, k⟩ := i2 q hq; ⟨p', List.mem_cons_of_mem _ hp, k⟩⟩
    · rename_i r e
      obtain ⟨k1, k2, k3⟩ := hg p r e h1
      refine ⟨wf_cons.mpr ⟨k1, fun q hq => ?_, i1⟩, fun q hq => ?_⟩
      · obtain ⟨p', hp, j1, j2⟩ := i2 q hq
        have := h2 p' hp
        omega
      · rcases List.mem_cons.mp hq with rfl | hq
        · exact ⟨p, List.mem_cons_self, k2, k3⟩
        · obtain ⟨p', hp, k⟩ := i2 q hq
          exact ⟨p', List.mem_cons_of_mem _ hp, k⟩
theorem upTo_wf {d : Rows} (k : Int) (w : WF d) : WF (upTo d k) := (filterMap_wf _ (fun p q h hp => by
  split at h
  · cases h; simp only; omega
  · cases h) w).1
theorem fromOn_wf {d : Rows} (k : Int) (w : WF d) : WF (fromOn d k) := (filterMap_wf _ (fun p q h hp => by
  split at h
  · cases h; simp only; omega
  · cases h) w).1
theorem upTo_mem (d : Rows) (k x : Int) : mem (upTo d k) x ↔ mem d x ∧ x ≤ k := by
  simp only [mem, upTo, List.mem_filterMap]
  constructor
  · rintro ⟨q, ⟨p, hp, e⟩, h1, h2⟩
    split at e
    · cases e; simp only at h1 h2; exact ⟨⟨p, hp, by omega, by omega⟩, by omega⟩
    · cases e
  · rintro ⟨⟨p, hp, h1, h2⟩, h3⟩
    exact ⟨(p.1, min p.2 k), ⟨p, hp, by rw [if_pos (by omega)]⟩, h1, by simp only; omega⟩
theorem fromOn_mem (d : Rows) (k x : Int) : mem (fromOn d k) x ↔ mem d x ∧ k ≤ x := by
  simp only [mem, fromOn, List.mem_filterMap]
  constructor
  · rintro ⟨q, ⟨p, hp, e⟩, h1, h2⟩
    split at e
    · cases e; simp only at h1 h2; exact ⟨⟨p, hp, by omega, by omega⟩, by omega⟩
    · cases e
  · rintro ⟨⟨p, hp, h1, h2⟩, h3⟩
    exact ⟨(max p.1 k, p.2), ⟨p, hp, by rw [if_pos (by omega)]⟩, by simp only; omega, h2⟩
theorem without_wf {d : Rows} (v : Int) (w : WF d) : WF (without d v) := by
  refine wf_append.mpr ⟨upTo_wf _ w, fromOn_wf _ w, fun p hp q hq => ?_⟩
  have h1 := (upTo_mem d (v - 1) _).mp (row_mem (upTo_wf _ w) hp).2
  have h2 := (fromOn_mem d (v + 1) _).mp (row_mem (fromOn_wf _ w) hq).1
  omega
theorem without_mem (d : Rows) (v x : Int) : mem (without d v) x ↔ mem d x ∧ x ≠ v := by
  unfold without
  rw [mem_append, upTo_mem, fromOn_mem]
  constructor
  · rintro (⟨h, k⟩ | ⟨h, k⟩) <;> exact ⟨h, by omega⟩
  · rintro ⟨h, k⟩
    by_cases x ≤ v - 1
    · exact .inl ⟨h, by omega⟩
    · exact .inr ⟨h, by omega⟩
theorem meet_ok : ∀ (d e : Rows), WF d → WF e → WF (meetL d e) ∧ (∀ q ∈ meetL d e, (∃ p ∈ d, p.1 ≤ q.1) ∧ (∃ p ∈ e, p.1 ≤ q.1)) ∧ ∀ x, mem (meetL d e) x ↔ mem d x ∧ mem e x
  | [], e, _, _ => by
    rw [meetL]
    exact ⟨.nil, fun _ h => (by cases h), fun x => ⟨fun h => (mem_nil x h).elim, fun h => (mem_nil x h.1).elim⟩⟩
  | p :: d, [], _, _ => by
    rw [meetL]
    exact ⟨.nil, fun _ h => (by cases h), fun x => ⟨fun h => (mem_nil x h).elim, fun h => (mem_nil x h.2).elim⟩⟩
  | (a, b) :: d, (c, f) :: e, wd, we => by
    obtain ⟨d1, d2, d3⟩ := wf_cons.mp wd
    obtain ⟨e1, e2, e3⟩ := wf_cons.mp we
    simp only at d1 d2 e1 e2
    have ld : ∀ x, mem d x → b + 1 < x := fun x ⟨p, hp, h1, h2⟩ => by have := d2 p hp; omega
    have le : ∀ x, mem e x → f + 1 < x := fun x ⟨p, hp, h1, h2⟩ => by have := e2 p hp; omega
    have first : WF (if max a c ≤ min b f then [(max a c, min b f)] else []) ∧ ∀ x, mem (if max a c ≤ min b f then [(max a c, min b f)] else []) x ↔ (a ≤ x ∧ x ≤ b) ∧ (c ≤ x ∧ x ≤ f) := by
      split
      · rename_i k
        exact ⟨wf_one k, fun x => by rw [mem_one]; omega⟩
      · exact ⟨.nil, fun x => ⟨fun h => (mem_nil x h).elim, fun h => by omega⟩⟩
    have rowf : ∀ p ∈ (if max a c ≤ min b f then [(max a c, min b f)] else []), p.1 = max a c ∧ p.2 = min b f := fun p hp => by
      split at hp
      · rw [List.mem_singleton.mp hp]; exact ⟨rfl, rfl⟩
      · cases hp
    rw [meetL]
    generalize (if max a c ≤ min b f then [(max a c, min b f)] else []) = g at *
    split
    · rename_i k
      obtain ⟨w, lo, m⟩ := meet_ok d ((c, f) :: e) d3 we
      refine ⟨wf_append.mpr ⟨first.1, w, fun p hp q hq => ?_⟩, fun q hq => ?_, fun x => ?_⟩
      · obtain ⟨r, hr, hl⟩ := (lo q hq).1
        have := d2 r hr
        have := rowf p hp
        omega
      · rcases List.mem_append.mp hq with hq | hq
        · have := rowf q hq
          exact ⟨⟨_, List.mem_cons_self, by simp only; omega⟩, ⟨_, List.mem_cons_self, by simp only; omega⟩⟩
        · obtain ⟨⟨r, hr, hl⟩, h2⟩ := lo q hq
          exact ⟨⟨r, List.mem_cons_of_mem _ hr, hl⟩, h2⟩
      · rw [mem_append, first.2, m, mem_cons, mem_cons]
        simp only
        constructor
        · rintro (⟨h1, h2⟩ | ⟨h1, h2⟩)
          · exact ⟨.inl h1, .inl h2⟩
          · exact ⟨.inr h1, h2⟩
        · rintro ⟨h1 | h1, h2⟩
          · rcases h2 with h2 | h2
            · exact .inl ⟨h1, h2⟩
            · have := le x h2; omega
          · exact .inr ⟨h1, h2⟩
    · rename_i k
      obtain ⟨w, lo, m⟩ := meet_ok ((a, b) :: d) e wd e3
      refine ⟨wf_append.mpr ⟨first.1, w, fun p hp q hq => ?_⟩, fun q hq => ?_, fun x => ?_⟩
      · obtain ⟨r, hr, hl⟩ := (lo q hq).2
        have := e2 r hr
        have := rowf p hp
        omega
      · rcases List.mem_append.mp hq with hq | hq
        · have := rowf q hq
          exact ⟨⟨_, List.mem_cons_self, by simp only; omega⟩, ⟨_, List.mem_cons_self, by simp only; omega⟩⟩
        · obtain ⟨h1, ⟨r, hr, hl⟩⟩ := lo q hq
          exact ⟨h1, ⟨r, List.mem_cons_of_mem _ hr, hl⟩⟩
      · rw [mem_append, first.2, m, mem_cons, mem_cons]
        simp only
        constructor
        · rintro (⟨h1, h2⟩ | ⟨h1, h2⟩)
          · exact ⟨.inl h1, .inl h2⟩
          · exact ⟨h1, .inr h2⟩
        · rintro ⟨h1, h2 | h2⟩
          · rcases h1 with h1 | h1
            · exact .inl ⟨h1, h2⟩
            · have := ld x h1; omega
          · exact .inr ⟨h1, h2⟩
termination_by d e => d.length + e.length
end
section
theorem cutRow_ok (hi : Int) : ∀ (e : Rows) (b : Int) (out : Rows), WF e → ∃ t b', cutRow hi e b out = (out ++ t, b') ∧ b ≤ b' ∧ WF t ∧ (∀ p ∈ t, b ≤ p.1 ∧ p.2 + 1 < b' ∧ p.2 ≤ hi) ∧ ∀ x, (mem t x ∨ (b' ≤ x ∧ x ≤ hi)) ↔ (b ≤ x ∧ x ≤ hi ∧ ¬ mem e x)
  | [], b, out, _ => ⟨[], b, by simp [cutRow], Int.le_refl _, .nil, fun _ h => (by cases h), fun x => by simp [mem_nil]⟩
  | (l, r) :: e, b, out, w => by
    obtain ⟨w1, w2, w3⟩ := wf_cons.mp w
    simp only at w1 w2
    have le : ∀ x, mem e x → r + 1 < x := fun x ⟨p, hp, h1, h2⟩ => by have := w2 p hp; omega
    rw [cutRow]
    split
    · rename_i c
      obtain ⟨t, b', h1, h2, h3, h4, h5⟩ := cutRow_ok hi e (r + 1) (if b < l then out ++ [(b, l - 1)] else out) w3
      by_cases k : b < l
      · rw [if_pos k] at h1 ⊢
        refine ⟨(b, l - 1) :: t, b', by rw [h1]; simp, by omega, wf_cons.mpr ⟨by simp only; omega, fun q hq => by have := h4 q hq; simp only; omega, h3⟩, fun p hp => ?_, fun x => ?_⟩
        · rcases List.mem_cons.mp hp with rfl | hp
          · simp only; omega
          · have := h4 p hp; omega
        · rw [mem_cons, mem_cons, or_assoc, h5]
          simp only
          constructor
          · rintro (h | ⟨h, h', h''⟩)
            · refine ⟨by omega, by omega, ?_⟩
              rintro (h | h)
              · omega
              · have := le x h; omega
            · refine ⟨by omega, h', ?_⟩
              rintro (h | h)
              · omega
              · exact h'' h
          · rintro ⟨h, h', h''⟩
            by_cases x < l
            · exact .inl (by omega)
            · refine .inr ⟨?_, h', fun q => h'' (.inr q)⟩
              by_cases x ≤ r
              · exact absurd (.inl (by omega)) h''
              · omega
      · rw [if_neg k] at h1 ⊢
        refine ⟨t, b', h1, by omega, h3, fun p hp => by have := h4 p hp; omega, fun x => ?_⟩
        rw [h5, mem_cons]
        simp only
        constructor
        · rintro ⟨h, h', h''⟩
          refine ⟨by omega, h', ?_⟩
          rintro (h | h)
          · omega
          · exact h'' h
        · rintro ⟨h, h', h''⟩
          refine ⟨?_, h', fun q => h'' (.inr q)⟩
          by_cases x ≤ r
          · exact absurd (.inl (by omega)) h''
          · omega
    · rename_i c
      obtain ⟨t, b', h1, h2, h3, h4, h5⟩ := cutRow_ok hi e b out w3
      refine ⟨t, b', h1, h2, h3, h4, fun x => ?_⟩
      rw [h5, mem_cons]
      simp only
      constructor
      · rintro ⟨h, h', h''⟩
        refine ⟨h, h', ?_⟩
        rintro (h | h)
        · omega
        · exact h'' h
      · rintro ⟨h, h', h''⟩
        exact ⟨h, h', fun q => h'' (.inr q)⟩
theorem minusRow_ok {e : Rows} (w : WF e) (out : Rows) (l h : Int) : ∃ t, minusRow e out l h = out ++ t ∧ WF t ∧ (∀ p ∈ t, l ≤ p.1 ∧ p.2 ≤ h) ∧ ∀ x, mem t x ↔ (l ≤ x ∧ x ≤ h ∧ ¬ mem e x) := by
  obtain ⟨t, b', h1, h2, h3, h4, h5⟩ := cutRow_ok h e l out w
  unfold minusRow
  rw [h1]
  simp only
  split
  · rename_i c
    refine ⟨t ++ [(b', h)], by simp, wf_append.mpr ⟨h3, wf_one c, fun p hp q hq => ?_⟩, fun p hp => ?_, fun x => ?_⟩
    · rw [List.mem_singleton.mp hq]; exact (h4 p hp).2.1
    · rcases List.mem_append.mp hp with hp | hp
      · have := h4 p hp; omega
      · rw [List.mem_singleton.mp hp]; simp only; omega
    · rw [mem_append, mem_one, h5]
  · rename_i c
    refine ⟨t, rfl, h3, fun p hp => by have := h4 p hp; omega, fun x => ?_⟩
    rw [← h5]
    constructor
    · exact .inl
    · rintro (k | k)
      · exact k
      · omega
theorem minus_go {e : Rows} (w : WF e) : ∀ (d out : Rows), WF d → ∃ t, d.foldl (fun out r => minusRow e out r.1 r.2) out = out ++ t ∧ WF t ∧ (∀ p ∈ t, ∃ q ∈ d, q.1 ≤ p.1) ∧ ∀ x, mem t x ↔ mem d x ∧ ¬ mem e x
  | [], out, _ => ⟨[], by simp, .nil, fun _ h => (by cases h), fun x => by simp [mem_nil]⟩
  | (a, b) :: d, out, wd => by
    obtain ⟨d1, d2, d3⟩ := wf_cons.mp wd
    simp only at d1 d2
    obtain ⟨t, h1, h2, h3, h4⟩ := minusRow_ok w out a b
    obtain ⟨t', k1, k2, k3, k4⟩ := minus_go w d (out ++ t) d3
    refine ⟨t ++ t', ?_, wf_append.mpr ⟨h2, k2, fun p hp q hq => ?_⟩, fun p hp => ?_, fun x => ?_⟩
    · rw [List.foldl_cons]
      simp only
      rw [h1, k1, List.append_assoc]
    · obtain ⟨r, hr, hl⟩ := k3 q hq
      have := d2 r hr
      have := h3 p hp
      omega
    · rcases List.mem_append.mp hp with hp | hp
      · exact ⟨(a, b), List.mem_cons_self, (h3 p hp).1⟩
      · obtain ⟨q, hq, hl⟩ := k3 p hp
        exact ⟨q, List.mem_cons_of_mem _ hq, hl⟩
    · rw [mem_append, h4, k4, mem_cons]
      simp only
      constructor
      · rintro (⟨a, b, c⟩ | ⟨a, b⟩)
        · exact ⟨.inl ⟨a, b⟩, c⟩
        · exact ⟨.inr a, b⟩
      · rintro ⟨a | a, b⟩
        · exact .inl ⟨a.1, a.2, b⟩
        · exact .inr ⟨a, b⟩
theorem minus_ok {d e : Rows} (wd : WF d) (we : WF e) : WF (minusL d e) ∧ ∀ x, mem (minusL d e) x ↔ mem d x ∧ ¬ mem e x := by
  obtain ⟨t, h1, h2, _, h4⟩ := minus_go we d [] wd
  unfold minusL
  rw [h1, List.nil_append]
  exact ⟨h2, h4⟩
theorem mem_empty {d : Rows} (w : WF d) : d = [] ↔ ∀ x, ¬ mem d x := by
  constructor
  · rintro rfl x; exact mem_nil x
  · intro h
    cases d with
    | nil => rfl
    | cons p d => exact absurd (row_mem w List.mem_cons_self).1 (h p.1)

theorem shift_ok {d : Rows} (k : Int) (w : WF d) : WF (shiftL d k) ∧ ∀ x, mem (shiftL d k) x ↔ mem d (x - k) := by
  refine ⟨⟨fun p hp => ?_, ?_⟩, fun x => ?_⟩
  · obtain ⟨q, hq, rfl⟩ := List.mem_map.mp hp
    have := w.le q hq
    simp only; omega
  · unfold shiftL
    rw [List.pairwise_map]
    exact w.gap.imp fun h => by simp only; omega
  · simp only [mem, shiftL, List.mem_map]
    constructor
    · rintro ⟨_, ⟨q, hq, rfl⟩, h1, h2⟩
      simp only at h1 h2
      exact ⟨q, hq, by omega, by omega⟩
    · rintro ⟨q, hq, h1, h2⟩
      exact ⟨_, ⟨q, hq, rfl⟩, by simp only; omega, by simp only; omega⟩
theorem neg_ok {d : Rows} (w : WF d) : WF (negL d) ∧ ∀ x, mem (negL d) x ↔ mem d (-x) := by
  refine ⟨⟨fun p hp => ?_, ?_⟩, fun x => ?_⟩
  · obtain ⟨q, hq, rfl⟩ := List.mem_map.mp hp
    have := w.le q (List.mem_reverse.mp hq)
    simp only; omega
  · unfold negL
    rw [List.pairwise_map, List.pairwise_reverse]
    exact w.gap.imp fun h => by simp only; omega
  · simp only [mem, negL, List.mem_map, List.mem_reverse]
    constructor
    · rintro ⟨_, ⟨q, hq, rfl⟩, h1, h2⟩
      simp only at h1 h2
      exact ⟨q, hq, by omega, by omega⟩
    · rintro ⟨q, hq, h1, h2⟩
      exact ⟨_, ⟨q, hq, rfl⟩, by simp only; omega, by simp only; omega⟩

theorem runB_nil' (v : Int) : runB [] v = [(v, v)] := by simp [runB]
theorem runB_snoc' (o : Rows) (x y v : Int) : runB (o ++ [(x, y)]) v = if y = v - 1 then o ++ [(x, v)] else o ++ [(x, y)] ++ [(v, v)] := by simp [runB]
theorem runB_ok {f : Rows} {v : Int} (w : WF f) (hb : ∀ p ∈ f, p.2 < v) : WF (runB f v) ∧ (∀ p ∈ runB f v, p.2 ≤ v) ∧ ∀ x, mem (runB f v) x ↔ mem f x ∨ x = v := by
  rcases List.eq_nil_or_concat f with rfl | ⟨o, ⟨x, y⟩, rfl⟩
  · rw [runB_nil']
    exact ⟨wf_one (Int.le_refl _), fun p hp => by rw [List.mem_singleton.mp hp]; exact Int.le_refl _, fun z => by rw [mem_one]; simp [mem_nil]; omega⟩
  · rw [List.concat_eq_append] at *
    obtain ⟨w1, w2, w3⟩ := wf_append.mp w
    have hxy : x ≤ y := (wf_cons.mp w2).1
    have hyv : y < v := hb (x, y) (by simp)
    rw [runB_snoc']
    split
    · rename_i c
      refine ⟨wf_append.mpr ⟨w1, wf_one (by omega), fun p hp q hq => ?_⟩, fun p hp => ?_, fun z => ?_⟩
      · rw [List.mem_singleton.mp hq]; exact w3 p hp (x, y) (by simp)
      · rcases List.mem_append.mp hp with hp | hp
        · have := hb p (List.mem_append_left _ hp); omega
        · rw [List.mem_singleton.mp hp]; exact Int.le_refl _
      · rw [mem_append, mem_append, mem_one, mem_one, or_assoc]
        constructor
        · rintro (k | k)
          · exact .inl k
          · exact .inr (by omega)
        · rintro (k | k)
          · exact .inl k
          · exact .inr (by omega)
    · rename_i c
      refine ⟨wf_append.mpr ⟨w, wf_one (Int.le_refl _), fun p hp q hq => ?_⟩, fun p hp => ?_, fun z => ?_⟩
      · rw [List.mem_singleton.mp hq]
        rcases List.mem_append.mp hp with hp | hp
        · have := w3 p hp (x, y) (by simp)
          simp only at this ⊢; omega
        · rw [List.mem_singleton.mp hp]; simp only; omega
      · rcases List.mem_append.mp hp with hp | hp
        · have := hb p hp; omega
        · rw [List.mem_singleton.mp hp]; exact Int.le_refl _
      · rw [mem_append, mem_one]
        constructor
        · rintro (k | k)
          · exact .inl k
          · exact .inr (by omega)
        · rintro (k | k)
          · exact .inl k
          · exact .inr (by omega)
theorem runs_go : ∀ (ns : List Int) (f : Rows), WF f → Asc ns → (∀ p ∈ f, ∀ v ∈ ns, p.2 < v) → WF (ns.foldl runB f) ∧ ∀ x, mem (ns.foldl runB f) x ↔ mem f x ∨ x ∈ ns
  | [], f, w, _, _ => ⟨w, fun x => by simp⟩
  | v :: ns, f, w, ha, hb => by
    obtain ⟨a1, a2⟩ := List.pairwise_cons.mp ha
    obtain ⟨r1, r2, r3⟩ := runB_ok w fun p hp => hb p hp v List.mem_cons_self
    obtain ⟨k1, k2⟩ := runs_go ns (runB f v) r1 a2 fun p hp u hu => by have := r2 p hp; have := a1 u hu; omega
    refine ⟨k1, fun x => ?_⟩
    rw [List.foldl_cons, k2, r3, List.mem_cons, or_assoc]
theorem dm_runs {ns : List Int} (h : Asc ns) : Dm (runsOf ns) ns := by
  obtain ⟨a, b⟩ := runs_go ns [] .nil h fun _ h => by cases h
  exact ⟨a, h, fun x => by rw [show runsOf ns = ns.foldl runB [] from rfl, b]; simp [mem_nil]⟩

theorem plainB_nil' (v : Int) : plainB [] v = [v] := by simp [plainB]
theorem plainB_snoc' (o : List Int) (y v : Int) : plainB (o ++ [y]) v = if y = v then o ++ [y] else o ++ [y] ++ [v] := by
  unfold plainB
  by_cases h : y = v <;> simp [h]
theorem plainB_ok {f : List Int} {v : Int} (h : Asc f) (hb : ∀ x ∈ f, x ≤ v) : Asc (plainB f v) ∧ (∀ x ∈ plainB f v, x ≤ v) ∧ ∀ x, x ∈ plainB f v ↔ x ∈ f ∨ x = v := by
  rcases List.eq_nil_or_concat f with rfl | ⟨o, y, rfl⟩
  · rw [plainB_nil']
    exact ⟨List.pairwise_singleton _ _, fun x hx => by rw [List.mem_singleton.mp hx]; exact Int.le_refl _, fun x => by simp⟩
  · rw [List.concat_eq_append] at *
    rw [plainB_snoc']
    have hy : y ≤ v := hb y (by simp)
    split
    · rename_i c
      subst c
      exact ⟨h, hb, fun x => ⟨.inl, fun k => k.elim id fun k => by rw [k]; simp⟩⟩
    · rename_i c
      refine ⟨List.pairwise_append.mpr ⟨h, List.pairwise_singleton _ _, fun x hx z hz => ?_⟩, fun x hx => ?_, fun x => by simp [or_assoc]⟩
      · rw [List.mem_singleton.mp hz]
        rcases List.mem_append.mp hx with hx | hx
        · have := (List.pairwise_append.mp h).2.2 x hx y (by simp); omega
        · rw [List.mem_singleton.mp hx]; omega
      · rcases List.mem_append.mp hx with hx | hx
        · exact hb x hx
        · rw [List.mem_singleton.mp hx]; exact Int.le_refl _
theorem plain_go : ∀ (ns f : List Int), Asc f → ns.Pairwise (· ≤ ·) → (∀ x ∈ f, ∀ v ∈ ns, x ≤ v) → Asc (ns.foldl plainB f) ∧ ∀ x, x ∈ ns.foldl plainB f ↔ x ∈ f ∨ x ∈ ns
  | [], f, w, _, _ => ⟨w, fun x => by simp⟩
  | v :: ns, f, w, ha, hb => by
    obtain ⟨a1, a2⟩ := List.pairwise_cons.mp ha
    obtain ⟨r1, r2, r3⟩ := plainB_ok w fun p hp => hb p hp v List.mem_cons_self
    obtain ⟨k1, k2⟩ := plain_go ns (plainB f v) r1 a2 fun p hp u hu => by have := r2 p hp; have := a1 u hu; omega
    refine ⟨k1, fun x => ?_⟩
    rw [List.foldl_cons, k2, r3, List.mem_cons, or_assoc]
theorem plain_ok {ns : List Int} (h : ns.Pairwise (· ≤ ·)) : Asc (plainOf ns) ∧ ∀ x, x ∈ plainOf ns ↔ x ∈ ns := by
  obtain ⟨a, b⟩ := plain_go ns [] .nil h fun _ h => by cases h
  exact ⟨a, fun x => by rw [show plainOf ns = ns.foldl plainB [] from rfl, b]; simp⟩

theorem asc_filter {ns : List Int} (h : Asc ns) (p : Int → Bool) : Asc (ns.filter p) := List.Pairwise.sublist List.filter_sublist h
theorem dm_meet {d e : Rows} {ns ms : List Int} (hd : Dm d ns) (he : Dm e ms) : Dm (meetL d e) (ns.filter fun v => ms.any (· == v)) := by
  obtain ⟨a, _, c⟩ := meet_ok d e hd.wf he.wf
  exact ⟨a, asc_filter hd.asc _, fun x => by rw [c, hd.same, he.same, List.mem_filter, any_mem]; simp⟩
theorem dm_minus {d e : Rows} {ns ms : List Int} (hd : Dm d ns) (he : Dm e ms) : Dm (minusL d e) (ns.filter fun v => !(ms.any (· == v))) := by
  obtain ⟨a, c⟩ := minus_ok hd.wf he.wf
  exact ⟨a, asc_filter hd.asc _, fun x => by rw [c, hd.same, he.same, List.mem_filter, any_mem]; simp⟩
theorem dm_strike {d : Rows} {ns : List Int} (hd : Dm d ns) (g : Sg) (k : Int) : Dm (strike g k d) (ns.filter (g.says k)) := by
  refine ⟨?_, asc_filter hd.asc _, fun x => ?_⟩
  · cases g
    · exact upTo_wf _ hd.wf
    · exact fromOn_wf _ hd.wf
    · exact (meet_ok d [(k, k)] hd.wf (wf_one (Int.le_refl _))).1
    · exact without_wf _ hd.wf
  · rw [List.mem_filter, ← hd.same]
    cases g
    · show mem (upTo d k) x ↔ _
      rw [upTo_mem]; simp [Sg.says]
    · show mem (fromOn d k) x ↔ _
      rw [fromOn_mem]; simp [Sg.says]
    · show mem (meetL d [(k, k)]) x ↔ _
      rw [(meet_ok d [(k, k)] hd.wf (wf_one (Int.le_refl _))).2.2, mem_one]
      simp only [Sg.says, decide_eq_true_eq]
      exact and_congr_right fun _ => by omega
    · show mem (without d k) x ↔ _
      rw [without_mem]; simp [Sg.says]
theorem dm_put {rs : Rows} {ns : List Int} (hl : ∀ p ∈ rs, p.1 ≤ p.2) (hs : rs.Pairwise fun p q => p.1 ≤ q.1) (ha : Asc ns) (hm : ∀ x, mem rs x ↔ x ∈ ns) : Dm (putAll [] rs) ns := by
  obtain ⟨a, b⟩ := putAll_ok rs [] .nil hl hs fun _ h => by cases h
  exact ⟨a, ha, fun x => by rw [b, hm]; simp [mem_nil]⟩
end
section
local macro_rules | `(tactic| wtm_at "m-nm") => `(tactic| first | (with_reducible exact put_hit) | assumption | ((with_reducible show compLo _ _ _ = some _); exact comp_free (by wtm_at "m-nm")) | (exact put_skip (by decide) (by wtm_at "m-nm")))
local macro_rules | `(tactic| wtm_at "m-ae") => `(tactic| ((with_reducible show AE _ _ _ _ _ _ _); first
  | ((with_reducible show AE _ _ _ (Expr.Name _ _) _ _ _); refine AE_name (by wtm_at "m-nm") ?_)
  | (with_reducible first | refine AE_int ?_ | refine AE_str ?_ | refine AE_bool ?_ | refine AE_none ?_ | refine AE_bin ?_)
  | ((with_reducible show AE _ _ _ (Expr.Compare _ _ _ _) _ _ _); refine AE_cmp ?_)
  | (with_reducible first | refine AE_un ?_ | refine AE_if ?_ | refine AE_tuple ?_)
  | ((with_reducible show AE _ _ _ (Expr.Subscript _ (Expr.Slice _ _ _ _) _) _ _ _); first | refine AE_upto ?_ | refine AE_revs ?_)
  | ((with_reducible show AE _ _ _ (Expr.Subscript _ _ _) _ _ _); refine AE_sub ?_)))
local macro_rules | `(tactic| wtm_at "m-at") => `(tactic| ((with_reducible show AT _ _ _ _ _ _ _); first
  | ((with_reducible show AT _ _ _ (Expr.Compare _ _ _ _) _ _ _); refine AT_cmp ?_)
  | (with_reducible first | refine AT_not ?_ | refine AT_and2 ?_ | refine AT_or2 ?_ | refine AT_or3 ?_)
  | ((with_reducible show AT _ _ _ (Expr.Call _ _ _ _) _ _ _); refine AT_val ?_)))
local macro_rules | `(tactic| wtm_at "m-es") => `(tactic| ((with_reducible show AEs _ _ _ _ _ _ _); first
  | (with_reducible first | refine AEs_nil ?_)
  | ((with_reducible show AEs _ _ _ (_ :: _) _ _ _); refine AEs_cons ?_)))
local macro_rules | `(tactic| wtm_at "m-op") => `(tactic| first
  | (with_reducible first | refine add_i ?_ | refine sub_i ?_ | refine lt_i ?_ | refine le_i ?_ | refine gt_i ?_ | refine ge_i ?_ | refine eq_ii ?_ | refine ne_ii ?_ | refine neg_i ?_)
  | ((with_reducible show AV2 _ _ (binaryOp Operator.Mod) (AV.int _) (AV.int _) _ _); refine mod_i (by first | assumption | decide) ?_)
  | ((with_reducible show AGet _ _ (AV.tup _) (AV.int _) _ _); refine get_t rfl rfl ?_)
  | ((with_reducible show AGet _ _ (AV.lst _) (AV.int _) _ _); refine get_l rfl rfl ?_))
local macro_rules | `(tactic| wtm_at "m-ex") => `(tactic| ((with_reducible show Exists _); refine ⟨_, rfl, ?_⟩))
local macro_rules | `(tactic| wtm_at "m-ss") => `(tactic| first
  | (with_reducible first | refine AX_nil ?_ | refine AX_last ?_ | refine AX_cons ?_ | refine AS_ret ?_ | refine AS_if ?_)
  | ((with_reducible show AS _ _ _ (Stmt.Expr _ _) _ _ _); refine AS_expr ?_))
local macro_rules | `(tactic| wtm_at "m-tg") => `(tactic| ((with_reducible show ATg _ _ _ (Expr.Name _ _) _ _ _ _); refine ATg_name ?_))
local macro_rules | `(tactic| wtm_at "m-go") => `(tactic| ((with_reducible show AFl.go _ _ _); dsimp only [AFl.go]))
local macro_rules | `(tactic| wtm_at "m-call") => `(tactic| ((with_reducible show AE _ _ _ (Expr.Call (Expr.Name _ _) _ _ _) _ _ _); first
  | ((with_reducible show AE _ _ _ (Expr.Call (Expr.Name (Str.ofString "len") _) _ _ _) _ _ _); refine AE_call (Env0.bres (by assumption) 0 (Value.builtin "len")) Kept.builtin ?_)
  | ((with_reducible show AE _ _ _ (Expr.Call (Expr.Name (Str.ofString "sorted") _) _ _ _) _ _ _); refine AE_call (Env0.bres (by assumption) 1 (Value.builtin "sorted")) Kept.builtin ?_)
  | ((with_reducible show AE _ _ _ (Expr.Call (Expr.Name (Str.ofString "max") _) _ _ _) _ _ _); refine AE_call (Env0.bres (by assumption) 2 (Value.builtin "max")) Kept.builtin ?_)
  | ((with_reducible show AE _ _ _ (Expr.Call (Expr.Name (Str.ofString "min") _) _ _ _) _ _ _); refine AE_call (Env0.bres (by assumption) 3 (Value.builtin "min")) Kept.builtin ?_)
  | ((with_reducible show AE _ _ _ (Expr.Call (Expr.Name (Str.ofString "sum") _) _ _ _) _ _ _); refine AE_call (Env0.bres (by assumption) 4 (Value.builtin "sum")) Kept.builtin ?_)
  | ((with_reducible show AE _ _ _ (Expr.Call (Expr.Name (Str.ofString "tuple") _) _ _ _) _ _ _); refine AE_call (Env0.bres (by assumption) 5 (Value.type "tuple")) Kept.type ?_)
  | ((with_reducible show AE _ _ _ (Expr.Call (Expr.Name (Str.ofString "list") _) _ _ _) _ _ _); refine AE_call (Env0.bres (by assumption) 6 (Value.type "list")) Kept.type ?_)
  | ((with_reducible show AE _ _ _ (Expr.Call (Expr.Name (Str.ofString "range") _) _ _ _) _ _ _); refine AE_call (Env0.bres (by assumption) 7 (Value.type "range")) Kept.type ?_)
  | (refine AE_fn (by assumption) _ (by rfl) (by rfl) ?_)))
local macro_rules | `(tactic| wtm_at "m-ca") => `(tactic| ((with_reducible show ACall _ _ _ _ _ _); first
  | (with_reducible first | refine max_i ?_ | refine min_i ?_ | refine rng_1 ?_ | refine rng_2 ?_)))
local macro_rules | `(tactic| wtm_at "m-le") => `(tactic| ((with_reducible show (_ ≤ 1000 ∧ _)); refine ⟨by simp, ?_⟩))
local macro_rules | `(tactic| wtm_at "m-w") => `(tactic| repeat (first | wtm_at "m-call" | wtm_at "m-ae" | wtm_at "m-es" | wtm_at "m-at" | wtm_at "m-ex" | wtm_at "m-le" | wtm_at "m-go" | wtm_at "m-ca" | wtm_at "m-ss" | wtm_at "m-op" | wtm_at "m-tg"))
section
section
variable {C : Cx} {f : Nat → Addr} {n : Nat} {st : Store} {Q : AV → Store → Prop}

theorem c_range_of (H : Env0 C f) {low high : Int} (hQ : Q (.tup (enc (rangeOf low high))) st) : ACall C (n + 1) (.ref (f 1)) [.int low, .int high] st Q := by
  obtain ⟨o, fd, F⟩ := H.fn 1 (by decide) rfl
  refine ACall_def F ?_
  show AX C (fnScope 1) n (fnBody 1) (put (put lo0 (Str.ofString "low") (.int low)) (Str.ofString "high") (.int high)) st _
  unfold rangeOf at hQ
  refine AX_last ?_
  wtm_at "m-w"
  refine ⟨fun h => ?_, fun h => ?_⟩
  · rw [if_pos (of_decide_eq_true h)] at hQ
    wtm_at "m-w"
    exact hQ
  · rw [if_neg (of_decide_eq_false h)] at hQ
    wtm_at "m-w"
    exact hQ

theorem idx_last (m : Nat) : seqIndex? (-1) (m + 1) = some m := by
  unfold seqIndex?
  simp only [show ((-1 : Int) < 0) from by decide, if_true]
  rw [if_pos (by simp only [Bool.and_eq_true, decide_eq_true_eq]; omega)]
  congr 1; omega
theorem get_last {a : Addr} {pre : List AV} {x : AV} (ha : st a = some (.list (pre ++ [x]))) (hQ : Q x st) : AGet C n (.ref a) (.int (-1)) st Q :=
  get_r ha (j := pre.length) (by rw [List.length_append]; exact idx_last _) (by simp) hQ (by decide) (by decide)
theorem set_last {a : Addr} {pre : List AV} {x d : AV} {K : Store → Prop} (ha : st a = some (.list (pre ++ [x]))) (hK : K (upd st a (.list (pre ++ [d])))) : ASet C n (.ref a) (.int (-1)) d st K :=
  set_r ha (j := pre.length) (by rw [List.length_append]; exact idx_last _) (by simpa using hK) (by decide) (by decide)

theorem putB_nil (l h : Int) : putB [] l h = [(l, h)] := by simp [putB]
theorem putB_snoc (o : Rows) (x y l h : Int) : putB (o ++ [(x, y)]) l h = if l ≤ y + 1 then (if y < h then o ++ [(x, h)] else o ++ [(x, y)]) else o ++ [(x, y)] ++ [(l, h)] := by simp [putB]
theorem enc_snoc (o : Rows) (p : Int × Int) : enc (o ++ [p]) = enc o ++ [AVp p] := by simp

theorem c_put_behind (H : Env0 C f) {a : Addr} {out : Rows} {low high : Int} (hz : out.length ≤ 1000) (ha : st a = some (.list (enc out))) (hQ : Q .none (upd st a (.list (enc (putB out low high))))) :
    ACall C (n + 1) (.ref (f 2)) [.ref a, .int low, .int high] st Q := by
  obtain ⟨o, fd, F⟩ := H.fn 2 (by decide) rfl
  refine ACall_def F ?_
  show AX C (fnScope 2) n (fnBody 2) (put (put (put lo0 (Str.ofString "found") (.ref a)) (Str.ofString "low") (.int low)) (Str.ofString "high") (.int high)) st _
  have app : ∀ c, out = c → AX C (fnScope 2) n (match fnBody 2 with | [.If _ _ b _] => b | _ => []) (put (put (put lo0 (Str.ofString "found") (.ref a)) (Str.ofString "low") (.int low)) (Str.ofString "high") (.int high)) st fun f _ st' => f = .next ∧ st' = upd st a (.list (enc (c ++ [(low, high)]))) := by
    rintro c rfl
    refine AX_last ?_
    wtm_at "m-w"
    refine AE_meth PySem.F.slot_list_append type_list_append ?_
    wtm_at "m-w"
    refine ⟨a, enc out, rfl, ha, ?_⟩
    wtm_at "m-w"
    refine ⟨⟨_, ha⟩, append_r ha (by simp; omega) ⟨rfl, rfl, ?_⟩⟩
    rw [enc_snoc]
  refine AX_last ?_
  wtm_at "m-w"
  refine len_r ha (by simp; omega) ?_
  wtm_at "m-w"
  rcases List.eq_nil_or_concat out with rfl | ⟨pre, ⟨x, y⟩, rfl⟩
  · refine ⟨fun h => absurd (of_decide_eq_true h) (by simp), fun h => ⟨fun h => absurd h Bool.false_ne_true, fun _ => ?_⟩⟩
    rw [putB_nil] at hQ
    exact (app [] rfl).mono fun fl lo' st' ⟨e1, e2⟩ => by rw [e1, e2]; exact hQ
  · rw [List.concat_eq_append] at *
    rw [putB_snoc] at hQ
    rw [enc_snoc] at ha
    refine ⟨fun h => ?_, fun h => absurd (of_decide_eq_false h) (by simp)⟩
    wtm_at "m-w"
    refine get_last ha ?_
    wtm_at "m-w"
    refine ⟨fun h => ?_, fun h => ?_⟩
    · rw [if_pos (of_decide_eq_true h)] at hQ
      wtm_at "m-w"
      refine get_last ha ?_
      wtm_at "m-w"
      refine ⟨fun h => ?_, fun h => ?_⟩
      · rw [if_pos (of_decide_eq_true h)] at hQ
        wtm_at "m-w"
        refine AS_asg ?_
        wtm_at "m-w"
        refine get_last ha ?_
        wtm_at "m-w"
        refine ATg_sub ?_
        wtm_at "m-w"
        refine set_last ha ?_
        rw [enc_snoc] at hQ
        exact hQ
      · rw [if_neg (of_decide_eq_false h)] at hQ
        wtm_at "m-w"
        have : upd st a (.list (enc (pre ++ [(x, y)]))) = st := by
          funext b
          simp only [upd]
          split
          · rename_i e; rw [e, ha, enc_snoc]
          · rfl
        rw [this] at hQ
        exact hQ
    · rw [if_neg (of_decide_eq_false h)] at hQ
      exact (app _ rfl).mono fun fl lo' st' ⟨e1, e2⟩ => by rw [e1, e2]; exact hQ
end
end
section
section
variable {C : Cx} {f : Nat → Addr} {n : Nat} {st : Store} {Q : AV → Store → Prop}

theorem nums_inj : ∀ {a b : List Int}, nums a = nums b → a = b
  | [], [], _ => rfl
  | [], _ :: _, h => by cases h
  | _ :: _, [], h => by cases h
  | x :: a, y :: b, h => by
    simp only [List.map_cons, List.cons.injEq, AV.int.injEq] at h
    rw [h.1, nums_inj h.2]
theorem enc_inj : ∀ {a b : Rows}, enc a = enc b → a = b
  | [], [], _ => rfl
  | [], _ :: _, h => by cases h
  | _ :: _, [], h => by cases h
  | (x, x') :: a, (y, y') :: b, h => by
    simp only [List.map_cons, List.cons.injEq, AV.tup.injEq, AV.int.injEq] at h
    rw [h.1.1, h.1.2.1, enc_inj h.2]
theorem putAll_snoc (o rs : Rows) (r : Int × Int) : putAll o (rs ++ [r]) = putB (putAll o rs) r.1 r.2 := by simp [putAll, List.foldl_append]
theorem putB_len (o : Rows) (l h : Int) : (putB o l h).length ≤ o.length + 1 := by
  unfold putB
  split
  · rename_i q
    split
    · have : o ≠ [] := q.1
      have : 0 < o.length := List.length_pos_iff.mpr this
      simp; try omega
    · omega
  · simp
theorem putAll_len : ∀ (rs o : Rows), (putAll o rs).length ≤ o.length + rs.length
  | [], o => by simp [putAll]
  | r :: rs, o => by
    have := putAll_len rs (putB o r.1 r.2)
    have h2 := putB_len o r.1 r.2
    show (putAll (putB o r.1 r.2) rs).length ≤ _
    simp; omega

theorem c_from_values (H : Env0 C f) {ns : List Int} (hz : ns.length < 64) (hQ : ∀ ns' : List Int, ns'.Perm ns → ns'.Pairwise (· ≤ ·) → Q (.tup (enc (putAll [] (ns'.map fun v => (v, v))))) st) : ACall C (n + 2) (.ref (f 3)) [.lst (nums ns)] st Q := by
  obtain ⟨o, fd, F⟩ := H.fn 3 (by decide) rfl
  refine ACall_def F ?_
  show AX C (fnScope 3) (n + 1) (fnBody 3) (put lo0 (Str.ofString "numbers") (.lst (nums ns))) st _
  refine AX_cons ?_
  refine AS_asg (AE_list (AEs_nil ⟨by simp, fun a ha => ?_⟩))
  wtm_at "m-w"
  refine AS_for (fun items pre lo' st' => lo' (Str.ofString "found") = some (.ref a) ∧ ∃ ps : List Int, pre = nums ps ∧ st' = upd st a (.list (enc (putAll [] (ps.map fun v => (v, v)))))) (AIt_seq ?_)
  wtm_at "m-w"
  refine sorted_i hz fun ns' hp hs => ?_
  have hl : ns'.length < 64 := by rw [hp.length_eq]; exact hz
  refine ⟨_, .inr rfl, by simp; omega, ⟨put_hit, [], rfl, rfl⟩, ?_, ?_⟩
  · rintro pre d post lo' st' hi ⟨hf, ps, rfl, rfl⟩
    obtain ⟨v, hv⟩ : ∃ v, d = .int v := by
      have : d ∈ nums ns' := by rw [hi]; simp
      obtain ⟨v, _, e⟩ := List.mem_map.mp this
      exact ⟨v, e.symm⟩
    subst hv
    refine ⟨_, AAs_name, ?_⟩
    wtm_at "m-w"
    have hps : ps.length ≤ ns'.length := by
      have := congrArg List.length hi
      simp at this; omega
    have hpl := putAll_len (ps.map fun v => (v, v)) []
    refine c_put_behind H (by simp at hpl; omega) upd_self ?_
    rw [upd_upd]
    refine ⟨rfl, ?_⟩
    refine ⟨put_skip (by decide) hf, ps ++ [v], by simp, ?_⟩
    rw [List.map_append, List.map_singleton, putAll_snoc]
  · rintro lo' st' ⟨hf, ps, hps, rfl⟩
    have : ps = ns' := (nums_inj hps).symm
    subst this
    wtm_at "m-go"
    refine AX_freeze (Str.ofString "found") upd_self hf ?_
    rw [del_upd ha]
    wtm_at "m-w"
    have hpl := putAll_len (ps.map fun v => (v, v)) []
    refine tup_l (by simp at hpl ⊢; omega) (hQ _ hp hs)

theorem c_join (H : Env0 C f) {d e : Rows} (hz : d.length + e.length < 64) (hb : ∀ p ∈ d ++ e, -10000 ≤ p.2 ∧ p.2 ≤ 10000) (hQ : ∀ rs : Rows, rs.Perm (d ++ e) → rs.Pairwise (fun x y => pkey x ≤ pkey y) → Q (.tup (enc (putAll [] rs))) st) : ACall C (n + 2) (.ref (f 14)) [.tup (enc d), .tup (enc e)] st Q := by
  obtain ⟨o, fd, F⟩ := H.fn 14 (by decide) rfl
  refine ACall_def F ?_
  show AX C (fnScope 14) (n + 1) (fnBody 14) (put (put lo0 (Str.ofString "d") (.tup (enc d))) (Str.ofString "e") (.tup (enc e))) st _
  refine AX_cons ?_
  refine AS_asg (AE_list (AEs_nil ⟨by simp, fun a ha => ?_⟩))
  wtm_at "m-w"
  refine AS_for (fun items pre lo' st' => lo' (Str.ofString "found") = some (.ref a) ∧ ∃ ps : Rows, pre = enc ps ∧ st' = upd st a (.list (enc (putAll [] ps)))) (AIt_seq ?_)
  wtm_at "m-w"
  refine add_t (by simp; omega) ?_
  wtm_at "m-w"
  rw [← List.map_append]
  refine sorted_p (by simpa using hz) hb fun rs hp hs => ?_
  have hl : rs.length < 64 := by rw [hp.length_eq]; simpa using hz
  refine ⟨_, .inr rfl, by simp; omega, ⟨put_hit, [], rfl, rfl⟩, ?_, ?_⟩
  · rintro pre x post lo' st' hi ⟨hf, ps, rfl, rfl⟩
    obtain ⟨⟨l, h⟩, hv⟩ : ∃ v, x = AVp v := by
      have : x ∈ enc rs := by rw [hi]; simp
      obtain ⟨v, _, e⟩ := List.mem_map.mp this
      exact ⟨v, e.symm⟩
    subst hv
    refine ⟨_, AAs_pair, ?_⟩
    wtm_at "m-w"
    have hps : ps.length ≤ rs.length := by
      have := congrArg List.length hi
      simp at this; omega
    have hpl := putAll_len ps []
    refine c_put_behind H (by simp at hpl; omega) upd_self ?_
    rw [upd_upd]
    refine ⟨rfl, ?_⟩
    refine ⟨put_skip (by decide) (put_skip (by decide) hf), ps ++ [(l, h)], by simp, ?_⟩
    rw [putAll_snoc]
  · rintro lo' st' ⟨hf, ps, hps, rfl⟩
    have : ps = rs := (enc_inj hps).symm
    subst this
    wtm_at "m-go"
    refine AX_freeze (Str.ofString "found") upd_self hf ?_
    rw [del_upd ha]
    wtm_at "m-w"
    have hpl := putAll_len ps []
    refine tup_l (by simp at hpl ⊢; omega) (hQ _ hp hs)
end
end
section
section
variable {C : Cx} {f : Nat → Addr} {n : Nat} {st : Store} {Q : AV → Store → Prop}

theorem c_least (H : Env0 C f) {d : Rows} {p : Int × Int} (hQ : Q (.int p.1) st) : ACall C (n + 1) (.ref (f 4)) [.tup (enc (p :: d))] st Q := by
  obtain ⟨o, fd, F⟩ := H.fn 4 (by decide) rfl
  refine ACall_def F ?_
  show AX C (fnScope 4) n (fnBody 4) (put lo0 (Str.ofString "d") (.tup (enc (p :: d)))) st _
  refine AX_last ?_
  wtm_at "m-w"
  refine get_t (j := 0) (d := AVp p) ?_ (by simp) ?_
  · unfold seqIndex?
    simp only [show ¬ ((0 : Int) < 0) from by decide, if_false]
    rw [if_pos (by simp)]; rfl
  wtm_at "m-w"
  exact hQ
theorem get_tlast {pre : List AV} {x : AV} (hQ : Q x st) : AGet C n (.tup (pre ++ [x])) (.int (-1)) st Q :=
  get_t (j := pre.length) (by rw [List.length_append]; exact idx_last _) (by simp) hQ (by decide) (by decide)
theorem get_llast {pre : List AV} {x : AV} (hQ : Q x st) : AGet C n (.lst (pre ++ [x])) (.int (-1)) st Q :=
  get_l (j := pre.length) (by rw [List.length_append]; exact idx_last _) (by simp) hQ (by decide) (by decide)
theorem get_l0 {ds : List AV} {x : AV} (hQ : Q x st) : AGet C n (.lst (x :: ds)) (.int 0) st Q :=
  get_l (j := 0) (by unfold seqIndex?
                     simp only [show ¬ ((0 : Int) < 0) from by decide, if_false]
                     rw [if_pos (by simp)]; rfl) (by simp) hQ (by decide) (by decide)
theorem c_greatest (H : Env0 C f) {d : Rows} {p : Int × Int} (hQ : Q (.int p.2) st) : ACall C (n + 1) (.ref (f 5)) [.tup (enc (d ++ [p]))] st Q := by
  obtain ⟨o, fd, F⟩ := H.fn 5 (by decide) rfl
  refine ACall_def F ?_
  show AX C (fnScope 5) n (fnBody 5) (put lo0 (Str.ofString "d") (.tup (enc (d ++ [p])))) st _
  rw [enc_snoc]
  refine AX_last ?_
  wtm_at "m-w"
  refine get_tlast ?_
  wtm_at "m-w"
  exact hQ

theorem enc_mem {d : Rows} {x : AV} (h : x ∈ enc d) : ∃ p ∈ d, x = AVp p := let ⟨p, hp, e⟩ := List.mem_map.mp h; ⟨p, hp, e.symm⟩
/-- what an element of the rows is, read back -/
def rowAV : AV → Int × Int
  | .tup [.int a, .int b] => (a, b)
  | _ => (0, 0)
theorem comp_rows (d : Rows) (g : Int × Int → Option AV) : (enc d).filterMap (fun x => g (rowAV x)) = d.filterMap g := by
  rw [List.filterMap_map]; rfl
def intAV : AV → Int
  | .int a => a
  | _ => 0
theorem comp_ints (d : List Int) (g : Int → Option AV) : (nums d).filterMap (fun x => g (intAV x)) = d.filterMap g := by
  rw [List.filterMap_map]; rfl
theorem nums_mem {d : List Int} {x : AV} (h : x ∈ nums d) : ∃ p ∈ d, x = .int p := let ⟨p, hp, e⟩ := List.mem_map.mp h; ⟨p, hp, e.symm⟩

theorem c_size (H : Env0 C f) {d : Rows} (hz : d.length ≤ 1000) (hQ : Q (.int (sizeOf' d)) st) : ACall C (n + 1) (.ref (f 6)) [.tup (enc d)] st Q := by
  obtain ⟨o, fd, F⟩ := H.fn 6 (by decide) rfl
  refine ACall_def F ?_
  show AX C (fnScope 6) n (fnBody 6) (put lo0 (Str.ofString "d") (.tup (enc d))) st _
  refine AX_last ?_
  wtm_at "m-w"
  refine AE_comp (fun x => (fun r => some (AV.int (r.2 - r.1 + 1))) (rowAV x)) (AIt_seq ?_)
  wtm_at "m-w"
  refine ⟨_, .inl rfl, by simp; omega, fun x hx => ?_, ?_⟩
  · obtain ⟨⟨l, h⟩, _, rfl⟩ := enc_mem hx
    refine fun st' => ⟨_, AAs_pair, comp_put2, ATs_nil ⟨rfl, fun _ => ?_, fun h => absurd h (by decide)⟩⟩
    wtm_at "m-w"
    exact ⟨rfl, rfl⟩
  · wtm_at "m-w"
    rw [comp_rows d fun r => some (AV.int (r.2 - r.1 + 1))]
    have : (d.filterMap fun r => some (AV.int (r.2 - r.1 + 1))) = nums (d.map fun r => r.2 - r.1 + 1) := by
      rw [List.filterMap_eq_map']; simp [Function.comp_def]
    rw [this]
    exact sum_l hQ

theorem c_next_from (H : Env0 C f) {d : Rows} {v : Int} (hz : d.length ≤ 1000) (hQ : Q (optI (nextF d v)) st) : ACall C (n + 1) (.ref (f 7)) [.tup (enc d), .int v] st Q := by
  obtain ⟨o, fd, F⟩ := H.fn 7 (by decide) rfl
  refine ACall_def F ?_
  show AX C (fnScope 7) n (fnBody 7) (put (put lo0 (Str.ofString "d") (.tup (enc d))) (Str.ofString "v") (.int v)) st _
  refine AX_cons ?_
  refine AS_for (fun items pre lo' st' => lo' (Str.ofString "v") = some (.int v) ∧ ∃ ps rs : Rows, pre = enc ps ∧ d = ps ++ rs ∧ nextF d v = nextF rs v ∧ st' = st) (AIt_seq ?_)
  wtm_at "m-w"
  refine ⟨_, .inl rfl, by simp; omega, ⟨put_hit, [], d, rfl, rfl, rfl, rfl⟩, ?_, ?_⟩
  · rintro pre x post lo' st' hi ⟨hv, ps, rs, rfl, hd, hn, rfl⟩
    obtain ⟨r, rs, rfl⟩ : ∃ r rs', rs = r :: rs' := by
      cases rs with
      | cons r rs => exact ⟨r, rs, rfl⟩
      | nil =>
        rw [hd] at hi
        have := congrArg List.length hi
        simp at this
    have hx : x = AVp r := by
      rw [hd] at hi
      simp only [List.map_append, List.map_cons, List.append_cancel_left_eq, List.cons.injEq] at hi
      exact hi.1.symm
    subst hx
    obtain ⟨l, h⟩ := r
    refine ⟨_, AAs_pair, ?_⟩
    wtm_at "m-w"
    refine ⟨fun c => ?_, fun c => ?_⟩
    · wtm_at "m-w"
      have : nextF d v = some (max l v) := by rw [hn]; simp [nextF, List.find?_cons, of_decide_eq_true c]
      rw [this] at hQ
      exact hQ
    · wtm_at "m-w"
      refine ⟨put_skip (by decide) (put_skip (by decide) hv), ps ++ [(l, h)], rs, by simp, by rw [hd]; simp, ?_, rfl⟩
      rw [hn]
      have := of_decide_eq_false c
      simp [nextF, List.find?_cons, this]
  · rintro lo' st' ⟨hv, ps, rs, hp, hd, hn, rfl⟩
    have : rs = [] := by
      rw [hd] at hp
      have := congrArg List.length hp
      simp at this
      exact this
    subst this
    wtm_at "m-w"
    rw [hn] at hQ
    exact hQ

theorem c_has (H : Env0 C f) {d : Rows} {v : Int} (hz : d.length ≤ 1000) (hQ : Q (.bool (decide (nextF d v = some v))) st) : ACall C (n + 2) (.ref (f 8)) [.tup (enc d), .int v] st Q := by
  obtain ⟨o, fd, F⟩ := H.fn 8 (by decide) rfl
  refine ACall_def F ?_
  show AX C (fnScope 8) (n + 1) (fnBody 8) (put (put lo0 (Str.ofString "d") (.tup (enc d))) (Str.ofString "v") (.int v)) st _
  refine AX_last ?_
  wtm_at "m-w"
  refine c_next_from H hz ?_
  wtm_at "m-w"
  exact eq_oo (j := some v) hQ

theorem span_eq (l h : Int) : nums (span l h) = intsFrom l (h + 1 - l).toNat := by simp [span, intsFrom]
theorem c_values (H : Env0 C f) {d : Rows} (hz : d.length ≤ 1000) (hv : (valuesOf d).length ≤ 1000) (hb : ∀ r ∈ d, -900 ≤ r.1 ∧ r.1 ≤ 900 ∧ -900 ≤ r.2 ∧ r.2 ≤ 900) (hQ : Q (.lst (nums (valuesOf d))) st) : ACall C (n + 1) (.ref (f 9)) [.tup (enc d)] st Q := by
  obtain ⟨o, fd, F⟩ := H.fn 9 (by decide) rfl
  refine ACall_def F ?_
  show AX C (fnScope 9) n (fnBody 9) (put lo0 (Str.ofString "d") (.tup (enc d))) st _
  refine AX_cons ?_
  refine AS_asg (AE_list (AEs_nil ⟨by simp, fun a ha => ?_⟩))
  wtm_at "m-w"
  refine AS_for (fun items pre lo' st' => lo' (Str.ofString "found") = some (.ref a) ∧ ∃ ps rs : Rows, pre = enc ps ∧ d = ps ++ rs ∧ st' = upd st a (.list (nums (valuesOf ps)))) (AIt_seq ?_)
  wtm_at "m-w"
  refine ⟨_, .inl rfl, by simp; omega, ⟨put_hit, [], d, rfl, rfl, rfl⟩, ?_, ?_⟩
  · rintro pre x post lo' st' hi ⟨hf, ps, rs, rfl, hd, rfl⟩
    obtain ⟨r, rs, rfl⟩ : ∃ r rs', rs = r :: rs' := by
      cases rs with
      | cons r rs => exact ⟨r, rs, rfl⟩
      | nil =>
        rw [hd] at hi
        have := congrArg List.length hi
        simp at this
    have hx : x = AVp r := by
      rw [hd] at hi
      simp only [List.map_append, List.map_cons, List.append_cancel_left_eq, List.cons.injEq] at hi
      exact hi.1.symm
    subst hx
    have hr := hb r (by rw [hd]; simp)
    obtain ⟨l, h⟩ := r
    refine ⟨_, AAs_pair, ?_⟩
    wtm_at "m-w"
    refine AE_meth PySem.F.slot_list_extend PySem.F.type_list_extend ?_
    wtm_at "m-w"
    refine ⟨a, _, rfl, upd_self, ?_⟩
    wtm_at "m-w"
    refine ⟨⟨_, upd_self⟩, extend_r upd_self ?_ (by omega) (by omega) (by omega) (by omega) ⟨rfl, ?_⟩⟩
    · have : (valuesOf ps).length ≤ (valuesOf d).length := by rw [hd]; simp [valuesOf]
      simp; omega
    · rw [upd_upd]
      refine ⟨put_skip (by decide) (put_skip (by decide) hf), ps ++ [(l, h)], rs, by simp, by rw [hd]; simp, ?_⟩
      rw [← span_eq, ← List.map_append]
      congr 4
      simp [valuesOf]
  · rintro lo' st' ⟨hf, ps, rs, hp, hd, rfl⟩
    have : ps = d := (enc_inj hp).symm
    subst this
    wtm_at "m-go"
    refine AX_freeze (Str.ofString "found") upd_self hf ?_
    rw [del_upd ha]
    wtm_at "m-w"
    exact hQ
end
end
section
section
variable {C : Cx} {f : Nat → Addr} {n : Nat} {st : Store} {Q : AV → Store → Prop}

theorem enc_filterMap (d : Rows) (g : Int × Int → Option (Int × Int)) : d.filterMap (fun r => (g r).map AVp) = enc (d.filterMap g) := (List.map_filterMap ..).symm
theorem nums_filterMap (d : List Int) (g : Int → Option Int) : d.filterMap (fun r => (g r).map AV.int) = nums (d.filterMap g) := (List.map_filterMap ..).symm

theorem c_up_to (H : Env0 C f) {d : Rows} {k : Int} (hz : d.length ≤ 1000) (hQ : Q (.tup (enc (upTo d k))) st) : ACall C (n + 1) (.ref (f 10)) [.tup (enc d), .int k] st Q := by
  obtain ⟨o, fd, F⟩ := H.fn 10 (by decide) rfl
  refine ACall_def F ?_
  show AX C (fnScope 10) n (fnBody 10) (put (put lo0 (Str.ofString "d") (.tup (enc d))) (Str.ofString "k") (.int k)) st _
  refine AX_last ?_
  wtm_at "m-w"
  refine AE_comp (fun x => (fun r => (if r.1 ≤ k then some (r.1, min r.2 k) else none : Option (Int × Int)).map AVp) (rowAV x)) (AIt_seq ?_)
  wtm_at "m-w"
  refine ⟨_, .inl rfl, by simp; omega, fun x hx => ?_, ?_⟩
  · obtain ⟨⟨l, h⟩, _, rfl⟩ := enc_mem hx
    refine fun st' => ⟨_, AAs_pair, comp_put2, ATs_one ?_⟩
    wtm_at "m-w"
    refine ⟨rfl, fun c => ?_, fun c => ?_⟩
    · wtm_at "m-w"
      exact ⟨rfl, by simp [rowAV, of_decide_eq_true c]⟩
    · have := of_decide_eq_false c
      simp [rowAV, this]
  · wtm_at "m-w"
    rw [comp_rows d fun r => (if r.1 ≤ k then some (r.1, min r.2 k) else none : Option (Int × Int)).map AVp, enc_filterMap]
    refine tup_l ?_ hQ
    have := List.length_filterMap_le (fun r : Int × Int => if r.1 ≤ k then some (r.1, min r.2 k) else none) d
    simp; omega
theorem c_from_on (H : Env0 C f) {d : Rows} {k : Int} (hz : d.length ≤ 1000) (hQ : Q (.tup (enc (fromOn d k))) st) : ACall C (n + 1) (.ref (f 11)) [.tup (enc d), .int k] st Q := by
  obtain ⟨o, fd, F⟩ := H.fn 11 (by decide) rfl
  refine ACall_def F ?_
  show AX C (fnScope 11) n (fnBody 11) (put (put lo0 (Str.ofString "d") (.tup (enc d))) (Str.ofString "k") (.int k)) st _
  refine AX_last ?_
  wtm_at "m-w"
  refine AE_comp (fun x => (fun r => (if k ≤ r.2 then some (max r.1 k, r.2) else none : Option (Int × Int)).map AVp) (rowAV x)) (AIt_seq ?_)
  wtm_at "m-w"
  refine ⟨_, .inl rfl, by simp; omega, fun x hx => ?_, ?_⟩
  · obtain ⟨⟨l, h⟩, _, rfl⟩ := enc_mem hx
    refine fun st' => ⟨_, AAs_pair, comp_put2, ATs_one ?_⟩
    wtm_at "m-w"
    refine ⟨rfl, fun c => ?_, fun c => ?_⟩
    · wtm_at "m-w"
      exact ⟨rfl, by simp [rowAV, of_decide_eq_true c]⟩
    · have := of_decide_eq_false c
      simp [rowAV, this]
  · wtm_at "m-w"
    rw [comp_rows d fun r => (if k ≤ r.2 then some (max r.1 k, r.2) else none : Option (Int × Int)).map AVp, enc_filterMap]
    refine tup_l ?_ hQ
    have := List.length_filterMap_le (fun r : Int × Int => if k ≤ r.2 then some (max r.1 k, r.2) else none) d
    simp; omega
theorem upTo_len (d : Rows) (k : Int) : (upTo d k).length ≤ d.length := List.length_filterMap_le _ _
theorem fromOn_len (d : Rows) (k : Int) : (fromOn d k).length ≤ d.length := List.length_filterMap_le _ _
theorem c_without (H : Env0 C f) {d : Rows} {v : Int} (hz : d.length ≤ 1000) (hQ : Q (.tup (enc (without d v))) st) : ACall C (n + 2) (.ref (f 12)) [.tup (enc d), .int v] st Q := by
  obtain ⟨o, fd, F⟩ := H.fn 12 (by decide) rfl
  refine ACall_def F ?_
  show AX C (fnScope 12) (n + 1) (fnBody 12) (put (put lo0 (Str.ofString "d") (.tup (enc d))) (Str.ofString "v") (.int v)) st _
  refine AX_last ?_
  wtm_at "m-w"
  refine c_up_to H hz ?_
  wtm_at "m-w"
  refine c_from_on H hz ?_
  have h1 := upTo_len d (v - 1)
  have h2 := fromOn_len d (v + 1)
  refine add_t (by simp; omega) ?_
  rw [← List.map_append]
  exact hQ
theorem c_shifted (H : Env0 C f) {d : Rows} {k : Int} (hz : d.length ≤ 1000) (hQ : Q (.tup (enc (shiftL d k))) st) : ACall C (n + 1) (.ref (f 17)) [.tup (enc d), .int k] st Q := by
  obtain ⟨o, fd, F⟩ := H.fn 17 (by decide) rfl
  refine ACall_def F ?_
  show AX C (fnScope 17) n (fnBody 17) (put (put lo0 (Str.ofString "d") (.tup (enc d))) (Str.ofString "k") (.int k)) st _
  refine AX_last ?_
  wtm_at "m-w"
  refine AE_comp (fun x => (fun r => (some (r.1 + k, r.2 + k) : Option (Int × Int)).map AVp) (rowAV x)) (AIt_seq ?_)
  wtm_at "m-w"
  refine ⟨_, .inl rfl, by simp; omega, fun x hx => ?_, ?_⟩
  · obtain ⟨⟨l, h⟩, _, rfl⟩ := enc_mem hx
    refine fun st' => ⟨_, AAs_pair, comp_put2, ATs_nil ⟨rfl, fun _ => ?_, fun h => absurd h (by decide)⟩⟩
    wtm_at "m-w"
    exact ⟨rfl, rfl⟩
  · wtm_at "m-w"
    rw [comp_rows d fun r => (some (r.1 + k, r.2 + k) : Option (Int × Int)).map AVp, enc_filterMap, List.filterMap_eq_map']
    exact tup_l (by simp; omega) hQ
theorem c_negated (H : Env0 C f) {d : Rows} (hz : d.length ≤ 1000) (hQ : Q (.tup (enc (negL d))) st) : ACall C (n + 1) (.ref (f 18)) [.tup (enc d)] st Q := by
  obtain ⟨o, fd, F⟩ := H.fn 18 (by decide) rfl
  refine ACall_def F ?_
  show AX C (fnScope 18) n (fnBody 18) (put lo0 (Str.ofString "d") (.tup (enc d))) st _
  refine AX_last ?_
  wtm_at "m-w"
  refine AE_comp (fun x => (fun r => (some (-r.2, -r.1) : Option (Int × Int)).map AVp) (rowAV x)) (AIt_rev (Env0.bres H 8 (.type "reversed")) ?_)
  wtm_at "m-w"
  refine ⟨by simp; omega, fun x hx => ?_, ?_⟩
  · obtain ⟨⟨l, h⟩, _, rfl⟩ := enc_mem (List.mem_reverse.mp hx)
    refine fun st' => ⟨_, AAs_pair, comp_put2, ATs_nil ⟨rfl, fun _ => ?_, fun h => absurd h (by decide)⟩⟩
    wtm_at "m-w"
    exact ⟨rfl, rfl⟩
  · wtm_at "m-w"
    rw [← List.map_reverse, comp_rows d.reverse fun r => (some (-r.2, -r.1) : Option (Int × Int)).map AVp, enc_filterMap, List.filterMap_eq_map']
    exact tup_l (by simp; omega) hQ
end
end
section
set_option maxHeartbeats 4000000
section
variable {C : Cx} {f : Nat → Addr} {sc : Scope} {n : Nat} {lo : Loc} {st : Store} {Q : AV → Store → Prop}

theorem AS.mono {t : Stmt} {Q Q' : AFl → Loc → Store → Prop} (h : AS C sc n t lo st Q) (k : ∀ f lo' st', Q f lo' st' → Q' f lo' st') : AS C sc n t lo st Q' := fun env A s hA S =>
  h.use hA S fun f s' f' lo' st' hQ hr hS hx hs => ⟨f', lo', st', k _ _ _ hQ, hr, hS, hx, hs⟩
theorem idx_nat {i m : Nat} (h : i < m) : seqIndex? (i : Int) m = some i := by
  unfold seqIndex?
  simp only [show ¬ ((i : Int) < 0) by omega, if_false]
  rw [if_pos (by simp only [Bool.and_eq_true, decide_eq_true_eq]; omega)]
  simp
theorem get_ti {ds : List AV} {i : Nat} {x : AV} (h : ds[i]? = some x) (hz : ds.length ≤ 1000000) (hQ : Q x st) : AGet C n (.tup ds) (.int (i : Int)) st Q := by
  have hi := (List.getElem?_eq_some_iff.mp h).1
  exact get_t (idx_nat hi) h hQ (by omega) (by omega)
theorem meetL_nil (d : Rows) : meetL d [] = [] := by cases d <;> rw [meetL]

theorem c_meet (H : Env0 C f) {d e : Rows} (hd : d.length ≤ 1000) (he : e.length ≤ 1000) (hQ : Q (.tup (enc (meetL d e))) st) : ACall C (n + 1) (.ref (f 13)) [.tup (enc d), .tup (enc e)] st Q := by
  obtain ⟨o, fd, F⟩ := H.fn 13 (by decide) rfl
  refine ACall_def F ?_
  show AX C (fnScope 13) n (fnBody 13) (put (put lo0 (Str.ofString "d") (.tup (enc d))) (Str.ofString "e") (.tup (enc e))) st _
  refine AX_cons ?_
  refine AS_swap3 ?_
  refine AE_tuple (AEs_cons (AE_list (AEs_nil ⟨by simp, fun a ha => ?_⟩)))
  wtm_at "m-w"
  refine ⟨_, _, _, rfl, ?_⟩
  wtm_at "m-w"
  refine AS_while (fun k lo' st' => ∃ (i j : Nat) (out : Rows), i + j + k = d.length + e.length ∧ i ≤ d.length ∧ j ≤ e.length ∧ out.length ≤ i + j ∧ out ++ meetL (d.drop i) (e.drop j) = meetL d e ∧
    lo' (Str.ofString "found") = some (.ref a) ∧ lo' (Str.ofString "i") = some (.int i) ∧ lo' (Str.ofString "j") = some (.int j) ∧ lo' (Str.ofString "d") = some (.tup (enc d)) ∧ lo' (Str.ofString "e") = some (.tup (enc e)) ∧
    st' = upd st a (.list (enc out))) (d.length + e.length) ⟨0, 0, [], by simp, by simp, by simp, by simp, by simp, put_hit, put_skip (by decide) put_hit, put_skip (by decide) (put_skip (by decide) put_hit),
      put_skip (by decide) (put_skip (by decide) (put_skip (by decide) (put_skip (by decide) put_hit))), put_skip (by decide) (put_skip (by decide) (put_skip (by decide) put_hit)), rfl⟩ ?_
  rintro k lo' st' ⟨i, j, out, hk, hi, hj, ho, hm, lf, li, lj, ld, le, rfl⟩
  have fin : (i = d.length ∨ j = e.length) → AFl.go .next (AX C (fnScope 13) n (match fnBody 13 with | [_, _, r] => [r] | _ => []) lo' (upd st a (.list (enc out))) fun f x st' => Q f.val st') (Q AFl.next.val (upd st a (.list (enc out)))) := fun h => by
    have hout : out = meetL d e := by
      rw [← hm]
      rcases h with rfl | rfl
      · simp [meetL]
      · rw [List.drop_length, meetL_nil, List.append_nil]
    wtm_at "m-go"
    refine AX_freeze (Str.ofString "found") upd_self lf ?_
    rw [del_upd ha, hout]
    refine AX_last ?_
    wtm_at "m-w"
    refine tup_l ?_ hQ
    rw [← hout]
    simp; omega
  wtm_at "m-w"
  refine len_t (by simp; omega) ?_
  wtm_at "m-w"
  refine ⟨fun h1 => ?_, fun h1 => ⟨fun h => absurd h Bool.false_ne_true, fun _ => ?_⟩⟩
  rotate_left
  · have := of_decide_eq_false h1
    simp at this
    exact fin (.inl (by omega))
  wtm_at "m-w"
  refine len_t (by simp; omega) ?_
  wtm_at "m-w"
  refine ⟨fun h2 => ?_, fun h2 => ?_⟩
  rotate_left
  · have := of_decide_eq_false h2
    simp at this
    exact fin (.inr (by omega))
  have hid : i < d.length := by have := of_decide_eq_true h1; simp at this; omega
  have hje : j < e.length := by have := of_decide_eq_true h2; simp at this; omega
  obtain ⟨l1, r1, e1⟩ : ∃ l r, d[i] = (l, r) := ⟨_, _, rfl⟩
  obtain ⟨l2, r2, e2⟩ : ∃ l r, e[j] = (l, r) := ⟨_, _, rfl⟩
  have g1 : (enc d)[i]? = some (AVp (l1, r1)) := by rw [List.getElem?_map, List.getElem?_eq_getElem hid, e1]; rfl
  have g2 : (enc e)[j]? = some (AVp (l2, r2)) := by rw [List.getElem?_map, List.getElem?_eq_getElem hje, e2]; rfl
  have hdz : (enc d).length ≤ 1000000 := by simp; omega
  have hez : (enc e).length ≤ 1000000 := by simp; omega
  have step : meetL (d.drop i) (e.drop j) = (if max l1 l2 ≤ min r1 r2 then [(max l1 l2, min r1 r2)] else []) ++ (if r1 < r2 then meetL (d.drop (i + 1)) (e.drop j) else meetL (d.drop i) (e.drop (j + 1))) := by
    rw [List.drop_eq_getElem_cons hid, List.drop_eq_getElem_cons hje, e1, e2, meetL]
  refine AX_cons (AS_swap2 ?_)
  wtm_at "m-w"
  refine get_ti g1 hdz ?_
  wtm_at "m-w"
  refine get_ti g2 hez ?_
  wtm_at "m-w"
  refine get_ti g1 hdz ?_
  wtm_at "m-w"
  refine get_ti g2 hez ?_
  wtm_at "m-w"
  refine ⟨_, _, rfl, ?_⟩
  wtm_at "m-go"
  refine AX_cons (AS.mono (Q := fun fl lo'' st'' => fl = .next ∧ lo'' = put (put lo' (Str.ofString "high") (.int (min r1 r2))) (Str.ofString "low") (.int (max l1 l2)) ∧ st'' = upd st a (.list (enc (out ++ if max l1 l2 ≤ min r1 r2 then [(max l1 l2, min r1 r2)] else [])))) ?_ ?_)
  · wtm_at "m-w"
    refine ⟨fun c => ?_, fun c => ?_⟩
    · wtm_at "m-w"
      refine AE_meth PySem.F.slot_list_append type_list_append ?_
      wtm_at "m-w"
      refine ⟨a, enc out, rfl, upd_self, ?_⟩
      wtm_at "m-w"
      refine ⟨⟨_, upd_self⟩, append_r upd_self (by simp; omega) ⟨rfl, rfl, rfl, ?_⟩⟩
      rw [upd_upd, if_pos (of_decide_eq_true c), enc_snoc]
    · wtm_at "m-w"
      refine ⟨rfl, rfl, ?_⟩
      rw [if_neg (of_decide_eq_false c), List.append_nil]
  · rintro fl lo'' st'' ⟨rfl, rfl, rfl⟩
    have hol : (out ++ if max l1 l2 ≤ min r1 r2 then [(max l1 l2, min r1 r2)] else []).length ≤ i + j + 1 := by
      split <;> simp <;> omega
    generalize hout' : (out ++ if max l1 l2 ≤ min r1 r2 then [(max l1 l2, min r1 r2)] else []) = out' at hol
    have hm' : out' ++ (if r1 < r2 then meetL (d.drop (i + 1)) (e.drop j) else meetL (d.drop i) (e.drop (j + 1))) = meetL d e := by
      rw [← hout', ← hm, step, List.append_assoc]
    wtm_at "m-go"
    wtm_at "m-w"
    refine get_ti g1 hdz ?_
    wtm_at "m-w"
    refine get_ti g2 hez ?_
    wtm_at "m-w"
    refine ⟨fun c => ?_, fun c => ?_⟩
    · rw [if_pos (of_decide_eq_true c)] at hm'
      wtm_at "m-w"
      refine AS_asg ?_
      wtm_at "m-w"
      refine ⟨k - 1, by omega, i + 1, j, out', by omega, by omega, hj, by omega, hm', put_skip (by decide) (put_skip (by decide) (put_skip (by decide) lf)), ?_, put_skip (by decide) (put_skip (by decide) (put_skip (by decide) lj)),
        put_skip (by decide) (put_skip (by decide) (put_skip (by decide) ld)), put_skip (by decide) (put_skip (by decide) (put_skip (by decide) le)), rfl⟩
      rw [put_hit]; simp
    · rw [if_neg (of_decide_eq_false c)] at hm'
      wtm_at "m-w"
      refine AS_asg ?_
      wtm_at "m-w"
      refine ⟨k - 1, by omega, i, j + 1, out', by omega, hi, by omega, by omega, hm', put_skip (by decide) (put_skip (by decide) (put_skip (by decide) lf)), put_skip (by decide) (put_skip (by decide) (put_skip (by decide) li)), ?_,
        put_skip (by decide) (put_skip (by decide) (put_skip (by decide) ld)), put_skip (by decide) (put_skip (by decide) (put_skip (by decide) le)), rfl⟩
      rw [put_hit]; simp
end
end
section
set_option maxHeartbeats 4000000
section
variable {C : Cx} {f : Nat → Addr} {sc : Scope} {n : Nat} {lo : Loc} {st : Store} {Q : AV → Store → Prop}

theorem minusL_snoc (ps e : Rows) (r : Int × Int) : minusL (ps ++ [r]) e = minusRow e (minusL ps e) r.1 r.2 := by simp [minusL, List.foldl_append]
theorem split_at {ps rs pre post : List AV} {d : Rows} {x : AV} {qs ts : Rows} (hi : enc d = pre ++ x :: post) (hp : pre = enc qs) (hd : d = qs ++ ts) : ∃ r ts', ts = r :: ts' ∧ x = AVp r := by
  subst hp
  cases ts with
  | nil =>
    rw [hd] at hi
    have := congrArg List.length hi
    simp at this
  | cons r ts =>
    rw [hd] at hi
    simp only [List.map_append, List.map_cons, List.append_cancel_left_eq, List.cons.injEq] at hi
    exact ⟨r, ts, rfl, hi.1.symm⟩

theorem c_minus (H : Env0 C f) {d e : Rows} (hd : d.length ≤ 300) (he : e.length ≤ 300) (hQ : Q (.tup (enc (minusL d e))) st) : ACall C (n + 1) (.ref (f 15)) [.tup (enc d), .tup (enc e)] st Q := by
  obtain ⟨o, fd, F⟩ := H.fn 15 (by decide) rfl
  refine ACall_def F ?_
  show AX C (fnScope 15) n (fnBody 15) (put (put lo0 (Str.ofString "d") (.tup (enc d))) (Str.ofString "e") (.tup (enc e))) st _
  refine AX_cons ?_
  refine AS_asg (AE_list (AEs_nil ⟨by simp, fun a ha => ?_⟩))
  wtm_at "m-w"
  refine AS_for (fun items pre lo' st' => lo' (Str.ofString "found") = some (.ref a) ∧ lo' (Str.ofString "e") = some (.tup (enc e)) ∧ ∃ ps rs : Rows, pre = enc ps ∧ d = ps ++ rs ∧ (minusL ps e).length ≤ ps.length * 301 ∧ st' = upd st a (.list (enc (minusL ps e)))) (AIt_seq ?_)
  wtm_at "m-w"
  refine ⟨_, .inl rfl, by simp; omega, ⟨put_hit, put_skip (by decide) put_hit, [], d, rfl, rfl, by simp [minusL], rfl⟩, ?_, ?_⟩
  · rintro pre x post lo' st' hi ⟨lf, le, ps, rs, hpre, hdd, hlen, rfl⟩
    obtain ⟨⟨low, high⟩, rs, rfl, rfl⟩ := split_at (ps := []) (rs := []) hi hpre hdd
    have hpl : ps.length + 1 ≤ d.length := by rw [hdd]; simp
    refine ⟨_, AAs_pair, ?_⟩
    generalize hout : minusL ps e = out at *
    refine AX_cons (AS_asg ?_)
    wtm_at "m-w"
    refine AS_for (fun items pre lo'' st'' => lo'' (Str.ofString "found") = some (.ref a) ∧ lo'' (Str.ofString "e") = some (.tup (enc e)) ∧ lo'' (Str.ofString "high") = some (.int high) ∧ ∃ (b : Int) (out' ps' rs' : Rows), lo'' (Str.ofString "begin") = some (.int b) ∧
      pre = enc ps' ∧ e = ps' ++ rs' ∧ cutRow high e low out = cutRow high rs' b out' ∧ out'.length ≤ out.length + ps'.length ∧ st'' = upd st a (.list (enc out'))) (AIt_seq ?_)
    wtm_at "m-w"
    refine ⟨_, .inl rfl, by simp; omega, ⟨put_skip (by decide) (put_skip (by decide) (put_skip (by decide) lf)), put_skip (by decide) (put_skip (by decide) (put_skip (by decide) le)), put_skip (by decide) put_hit,
      low, out, [], e, put_hit, rfl, rfl, rfl, by simp, rfl⟩, ?_, ?_⟩
    · rintro pre2 x post2 lo'' st'' hi2 ⟨lf, le, lh, b, out', ps', rs', lb, hpre2, hee, hcut, hlen2, rfl⟩
      obtain ⟨⟨left, right⟩, rs', rfl, rfl⟩ := split_at (ps := []) (rs := []) hi2 hpre2 hee
      have hpl2 : ps'.length + 1 ≤ e.length := by rw [hee]; simp
      refine ⟨_, AAs_pair, ?_⟩
      rw [cutRow] at hcut
      wtm_at "m-w"
      have skip : ¬ (b ≤ right ∧ left ≤ high) → (fun f lo3 st3 => match f with
          | AFl.next => lo3 (Str.ofString "found") = some (.ref a) ∧ lo3 (Str.ofString "e") = some (.tup (enc e)) ∧ lo3 (Str.ofString "high") = some (.int high) ∧ ∃ (b : Int) (out' ps' rs' : Rows), lo3 (Str.ofString "begin") = some (.int b) ∧
      pre2 ++ [AVp (left, right)] = enc ps' ∧ e = ps' ++ rs' ∧ cutRow high e low out = cutRow high rs' b out' ∧ out'.length ≤ out.length + ps'.length ∧ st3 = upd st a (.list (enc out'))
          | _ => False) AFl.next (put (put lo'' (Str.ofString "left") (.int left)) (Str.ofString "right") (.int right)) (upd st a (.list (enc out'))) := fun h => by
        rw [if_neg h] at hcut
        exact ⟨put_skip (by decide) (put_skip (by decide) lf), put_skip (by decide) (put_skip (by decide) le), put_skip (by decide) (put_skip (by decide) lh), b, out', ps' ++ [(left, right)], rs', put_skip (by decide) (put_skip (by decide) lb),
          by rw [enc_snoc, hpre2], by rw [hee]; simp, hcut, by simp; omega, rfl⟩
      refine ⟨fun h1 => ?_, fun h1 => ⟨fun h => absurd h Bool.false_ne_true, fun _ => ?_⟩⟩
      rotate_left
      · have := of_decide_eq_false h1
        wtm_at "m-w"
        exact skip (by omega)
      wtm_at "m-w"
      refine ⟨fun h2 => ?_, fun h2 => ?_⟩
      rotate_left
      · have := of_decide_eq_false h2
        wtm_at "m-w"
        exact skip (by omega)
      have h1' := of_decide_eq_true h1
      have h2' := of_decide_eq_true h2
      rw [if_pos ⟨h1', h2'⟩] at hcut
      refine AX_cons (AS.mono (Q := fun fl lo3 st3 => fl = .next ∧ lo3 = put (put lo'' (Str.ofString "left") (.int left)) (Str.ofString "right") (.int right) ∧ st3 = upd st a (.list (enc (if b < left then out' ++ [(b, left - 1)] else out')))) ?_ ?_)
      · wtm_at "m-w"
        refine ⟨fun c => ?_, fun c => ?_⟩
        · wtm_at "m-w"
          refine AE_meth PySem.F.slot_list_append type_list_append ?_
          wtm_at "m-w"
          refine ⟨a, enc out', rfl, upd_self, ?_⟩
          wtm_at "m-w"
          refine ⟨⟨_, upd_self⟩, append_r upd_self (by simp; omega) ⟨rfl, rfl, rfl, ?_⟩⟩
          rw [upd_upd, if_pos (of_decide_eq_true c), enc_snoc]
        · wtm_at "m-w"
          refine ⟨rfl, rfl, ?_⟩
          rw [if_neg (of_decide_eq_false c)]
      · rintro fl lo3 st3 ⟨rfl, rfl, rfl⟩
        have hol : (if b < left then out' ++ [(b, left - 1)] else out').length ≤ out.length + (ps'.length + 1) := by
          split <;> (try simp) <;> omega
        generalize (if b < left then out' ++ [(b, left - 1)] else out') = out2 at *
        wtm_at "m-go"
        refine AX_last (AS_asg ?_)
        wtm_at "m-w"
        exact ⟨put_skip (by decide) (put_skip (by decide) (put_skip (by decide) lf)), put_skip (by decide) (put_skip (by decide) (put_skip (by decide) le)), put_skip (by decide) (put_skip (by decide) (put_skip (by decide) lh)),
          right + 1, out2, ps' ++ [(left, right)], rs', put_hit, by rw [enc_snoc, hpre2], by rw [hee]; simp, hcut, by simp; omega, rfl⟩
    · rintro lo'' st'' ⟨lf, le, lh, b, out', ps', rs', lb, hpre2, hee, hcut, hlen2, rfl⟩
      have : ps' = e := (enc_inj hpre2).symm
      have hrs : rs' = [] := by
        rw [this] at hee
        have := congrArg List.length hee
        simp at this
        exact this
      subst this hrs
      rw [cutRow] at hcut
      have hrow : minusRow ps' out low high = if b ≤ high then out' ++ [(b, high)] else out' := by
        unfold minusRow
        rw [hcut]
      have hsn : minusL (ps ++ [(low, high)]) ps' = if b ≤ high then out' ++ [(b, high)] else out' := by rw [minusL_snoc, hout, hrow]
      have hol : (if b ≤ high then out' ++ [(b, high)] else out').length ≤ (ps.length + 1) * 301 := by
        split <;> (try simp) <;> omega
      wtm_at "m-w"
      refine ⟨fun c => ?_, fun c => ?_⟩
      · rw [if_pos (of_decide_eq_true c)] at hsn hol
        wtm_at "m-w"
        refine AE_meth PySem.F.slot_list_append type_list_append ?_
        wtm_at "m-w"
        refine ⟨a, enc out', rfl, upd_self, ?_⟩
        wtm_at "m-w"
        refine ⟨⟨_, upd_self⟩, append_r upd_self (by simp; omega) ⟨rfl, ?_⟩⟩
        rw [upd_upd]
        refine ⟨lf, le, ps ++ [(low, high)], rs, by rw [enc_snoc, hpre], by rw [hdd]; simp, ?_, ?_⟩
        · rw [hsn]; simpa using hol
        · rw [hsn, enc_snoc]
      · rw [if_neg (of_decide_eq_false c)] at hsn hol
        wtm_at "m-w"
        refine ⟨lf, le, ps ++ [(low, high)], rs, by rw [enc_snoc, hpre], by rw [hdd]; simp, ?_, ?_⟩
        · rw [hsn]; simpa using hol
        · rw [hsn]
  · rintro lo' st' ⟨lf, le, ps, rs, hpre, hdd, hlen, rfl⟩
    have : ps = d := (enc_inj hpre).symm
    subst this
    wtm_at "m-go"
    refine AX_freeze (Str.ofString "found") upd_self lf ?_
    rw [del_upd ha]
    wtm_at "m-w"
    exact tup_l (by simp; omega) hQ

theorem c_is_within (H : Env0 C f) {d e : Rows} (hd : d.length ≤ 300) (he : e.length ≤ 300) (hQ : Q (.bool (decide (minusL d e = []))) st) : ACall C (n + 2) (.ref (f 16)) [.tup (enc d), .tup (enc e)] st Q := by
  obtain ⟨o, fd, F⟩ := H.fn 16 (by decide) rfl
  refine ACall_def F ?_
  show AX C (fnScope 16) (n + 1) (fnBody 16) (put (put lo0 (Str.ofString "d") (.tup (enc d))) (Str.ofString "e") (.tup (enc e))) st _
  refine AX_last ?_
  wtm_at "m-w"
  refine c_minus H hd he ?_
  wtm_at "m-w"
  exact eq_t0 hQ
end
end
section
set_option maxHeartbeats 4000000
section
variable {C : Cx} {f : Nat → Addr} {sc : Scope} {n : Nat} {lo : Loc} {st : Store} {Q : AV → Store → Prop}

def Sg.str : Sg → Str
  | .le => Str.ofString "<="
  | .ge => Str.ofString ">="
  | .eq => Str.ofString "="
  | .ne => Str.ofString "!="
abbrev lit (x : Int) (s : Sg) (k : Int) : AV := .tup [.int x, .str s.str, .int k]
theorem eq_sg {s t : Sg} (hQ : Q (.bool (decide (s = t))) st) : AV2 C n (compareOp .Eq) (.str s.str) (.str t.str) st Q := by
  refine eq_ss (by cases s <;> (simp only [PyData.canLay0]; decide +kernel)) (by cases t <;> (simp only [PyData.canLay0]; decide +kernel)) ?_
  have : (s.str == t.str) = decide (s = t) := by cases s <;> cases t <;> decide
  rw [this]; exact hQ

theorem c_truth (H : Env0 C f) {x k v : Int} {s : Sg} (hQ : Q (.bool (s.says k v)) st) : ACall C (n + 1) (.ref (f 26)) [lit x s k, .int v] st Q := by
  obtain ⟨o, fd, F⟩ := H.fn 26 (by decide) rfl
  refine ACall_def F ?_
  show AX C (fnScope 26) n (fnBody 26) (put (put lo0 (Str.ofString "literal") (lit x s k)) (Str.ofString "v") (.int v)) st _
  refine AX_cons (AS_swap2 ?_)
  wtm_at "m-w"
  refine ⟨_, _, rfl, ?_⟩
  wtm_at "m-w"
  refine eq_sg (t := .le) ?_
  wtm_at "m-w"
  refine ⟨fun c => ?_, fun c1 => ?_⟩
  · have := of_decide_eq_true c
    subst this
    wtm_at "m-w"
    exact hQ
  have c1 := of_decide_eq_false c1
  wtm_at "m-w"
  refine eq_sg (t := .ge) ?_
  wtm_at "m-w"
  refine ⟨fun c => ?_, fun c2 => ?_⟩
  · have := of_decide_eq_true c
    subst this
    wtm_at "m-w"
    exact hQ
  have c2 := of_decide_eq_false c2
  wtm_at "m-w"
  refine eq_sg (t := .eq) ?_
  refine eq_bb ?_
  cases s
  · exact absurd rfl c1
  · exact absurd rfl c2
  · simpa [Sg.says, AFl.val] using hQ
  · simpa [Sg.says, AFl.val] using hQ

theorem c_negation (H : Env0 C f) {x k : Int} {s : Sg} (hQ : Q (lit x (s.not k).1 (s.not k).2) st) : ACall C (n + 1) (.ref (f 19)) [lit x s k] st Q := by
  obtain ⟨o, fd, F⟩ := H.fn 19 (by decide) rfl
  refine ACall_def F ?_
  show AX C (fnScope 19) n (fnBody 19) (put lo0 (Str.ofString "literal") (lit x s k)) st _
  refine AX_cons (AS_asg ?_)
  wtm_at "m-w"
  refine AAs.toT AAs_triple ?_
  wtm_at "m-w"
  refine eq_sg (t := .le) ?_
  wtm_at "m-w"
  refine ⟨fun c => ?_, fun c1 => ?_⟩
  · have := of_decide_eq_true c
    subst this
    wtm_at "m-w"
    exact hQ
  have c1 := of_decide_eq_false c1
  wtm_at "m-w"
  refine eq_sg (t := .ge) ?_
  wtm_at "m-w"
  refine ⟨fun c => ?_, fun c2 => ?_⟩
  · have := of_decide_eq_true c
    subst this
    wtm_at "m-w"
    exact hQ
  have c2 := of_decide_eq_false c2
  wtm_at "m-w"
  refine eq_sg (t := .eq) ?_
  wtm_at "m-w"
  refine ⟨fun c => ?_, fun c3 => ?_⟩
  · have := of_decide_eq_true c
    subst this
    wtm_at "m-w"
    exact hQ
  · have c3 := of_decide_eq_false c3
    wtm_at "m-w"
    cases s
    · exact absurd rfl c1
    · exact absurd rfl c2
    · exact absurd rfl c3
    · exact hQ

theorem c_struck (H : Env0 C f) {x k : Int} {s : Sg} {d : Rows} (hd : d.length ≤ 300) (hQ : Q (.tup (enc (strike s k d))) st) : ACall C (n + 3) (.ref (f 20)) [lit x s k, .tup (enc d)] st Q := by
  obtain ⟨o, fd, F⟩ := H.fn 20 (by decide) rfl
  refine ACall_def F ?_
  show AX C (fnScope 20) (n + 2) (fnBody 20) (put (put lo0 (Str.ofString "literal") (lit x s k)) (Str.ofString "d") (.tup (enc d))) st _
  refine AX_cons (AS_swap2 ?_)
  wtm_at "m-w"
  refine ⟨_, _, rfl, ?_⟩
  wtm_at "m-w"
  refine eq_sg (t := .le) ?_
  wtm_at "m-w"
  refine ⟨fun c => ?_, fun c1 => ?_⟩
  · have := of_decide_eq_true c
    subst this
    wtm_at "m-w"
    exact c_up_to H (by omega) hQ
  have c1 := of_decide_eq_false c1
  wtm_at "m-w"
  refine eq_sg (t := .ge) ?_
  wtm_at "m-w"
  refine ⟨fun c => ?_, fun c2 => ?_⟩
  · have := of_decide_eq_true c
    subst this
    wtm_at "m-w"
    exact c_from_on H (by omega) hQ
  have c2 := of_decide_eq_false c2
  wtm_at "m-w"
  refine eq_sg (t := .eq) ?_
  wtm_at "m-w"
  refine ⟨fun c => ?_, fun c3 => ?_⟩
  · have := of_decide_eq_true c
    subst this
    wtm_at "m-w"
    exact c_meet H (e := [(k, k)]) (by omega) (by simp) hQ
  · have c3 := of_decide_eq_false c3
    wtm_at "m-w"
    cases s
    · exact absurd rfl c1
    · exact absurd rfl c2
    · exact absurd rfl c3
    · exact c_without H (by omega) hQ

theorem c_said_of (H : Env0 C f) {x k : Int} {s : Sg} {d : Rows} (hd : d.length ≤ 300) (hQ : Q (.int (saidOf s k d)) st) : ACall C (n + 4) (.ref (f 21)) [lit x s k, .tup (enc d)] st Q := by
  obtain ⟨o, fd, F⟩ := H.fn 21 (by decide) rfl
  refine ACall_def F ?_
  show AX C (fnScope 21) (n + 3) (fnBody 21) (put (put lo0 (Str.ofString "literal") (lit x s k)) (Str.ofString "d") (.tup (enc d))) st _
  unfold saidOf at hQ
  refine AX_cons (AS_asg ?_)
  wtm_at "m-w"
  refine c_struck H hd ?_
  wtm_at "m-w"
  refine eq_tt ?_
  wtm_at "m-w"
  refine ⟨fun c => ?_, fun c1 => ?_⟩
  · rw [if_pos (of_decide_eq_true c)] at hQ
    wtm_at "m-w"
    exact hQ
  rw [if_neg (of_decide_eq_false c1)] at hQ
  wtm_at "m-w"
  refine eq_t0 ?_
  wtm_at "m-w"
  refine ⟨fun c => ?_, fun c2 => ?_⟩
  · rw [if_pos (of_decide_eq_true c)] at hQ
    wtm_at "m-w"
    exact hQ
  · rw [if_neg (of_decide_eq_false c2)] at hQ
    wtm_at "m-w"
    exact hQ
end
end
section
set_option maxHeartbeats 4000000
section
variable {C : Cx} {f : Nat → Addr} {sc : Scope} {n : Nat} {lo : Loc} {st : Store} {Q : AV → Store → Prop}

theorem mulOk {i j : Int} (h1 : -2000000 ≤ i) (h2 : i ≤ 2000000) (h3 : -2000000 ≤ j) (h4 : j ≤ 2000000) : IntMulOk i j := IntMulOk.of_left (intBits_le_64 (by omega) (by omega))

theorem c_draw (H : Env0 C f) {a : Addr} {cs : List Int} {k : Nat} {m : Int} (ha : st a = some (.tape C.prog C.w (.lst (nums cs)) (k : Int))) (hc : cs.length ≤ 60) (hk : k ≤ 1000) (hm : 0 < m)
    (hQ : ∀ x, 0 ≤ x → x < m → Q (.int x) (upd st a (.tape C.prog C.w (.lst (nums cs)) ((k + 1 : Nat) : Int)))) : ACall C (n + 1) (.ref (f 23)) [.ref a, .int m] st Q := by
  obtain ⟨o, fd, F⟩ := H.fn 23 (by decide) rfl
  refine ACall_def F ?_
  show AX C (fnScope 23) n (fnBody 23) (put (put lo0 (Str.ofString "tape") (.ref a)) (Str.ofString "many") (.int m)) st _
  have hmod : ∀ y : Int, 0 ≤ y % m ∧ y % m < m := fun y => ⟨Int.emod_nonneg _ (by omega), Int.emod_lt_of_pos _ hm⟩
  refine AX_cons (AS_asg ?_)
  wtm_at "m-w"
  refine get_spot (p := C.prog) (w := C.w) ha ?_
  wtm_at "m-w"
  refine AS_asg ?_
  wtm_at "m-w"
  refine ATg_sub ?_
  wtm_at "m-w"
  refine set_spot ha ?_
  wtm_at "m-w"
  refine get_cells (p := C.prog) (w := C.w) upd_self ?_
  wtm_at "m-w"
  refine len_l (by simp; omega) ?_
  wtm_at "m-w"
  refine ⟨fun c => ?_, fun c => ?_⟩
  · have hlt := of_decide_eq_true c
    simp at hlt
    wtm_at "m-w"
    refine get_cells (p := C.prog) (w := C.w) upd_self ?_
    wtm_at "m-w"
    refine get_l (d := .int cs[k]) (idx_nat (by simpa using hlt)) (by simp [hlt]) ?_ (by omega) (by omega)
    wtm_at "m-w"
    exact hQ _ (hmod _).1 (hmod _).2
  · wtm_at "m-w"
    refine mul_i (mulOk (by omega) (by omega) (by omega) (by omega)) ?_
    wtm_at "m-w"
    refine mul_i (mulOk (by omega) (by omega) (by omega) (by omega)) ?_
    wtm_at "m-w"
    refine mul_i (mulOk (by omega) (by omega) (by omega) (by omega)) ?_
    wtm_at "m-w"
    refine get_cells (p := C.prog) (w := C.w) upd_self ?_
    wtm_at "m-w"
    refine len_l (by simp; omega) ?_
    wtm_at "m-w"
    have : (nums cs).length ≤ 60 := by simpa using hc
    refine mul_i (mulOk (by omega) (by omega) (by omega) (by omega)) ?_
    wtm_at "m-w"
    exact hQ _ (hmod _).1 (hmod _).2

theorem runsOf_snoc (ns : List Int) (v : Int) : runsOf (ns ++ [v]) = runB (runsOf ns) v := by simp [runsOf, List.foldl_append]
theorem runB_len (o : Rows) (v : Int) : (runB o v).length ≤ o.length + 1 := by
  unfold runB
  split
  · rename_i q
    have : 0 < o.length := List.length_pos_iff.mpr q.1
    simp; try omega
  · simp
theorem runAll_len (ns : List Int) : (runsOf ns).length ≤ ns.length := by
  have : ∀ (ns : List Int) (o : Rows), (ns.foldl runB o).length ≤ o.length + ns.length := by
    intro ns
    induction ns with
    | nil => simp
    | cons v ns ih =>
      intro o
      have h1 := ih (runB o v)
      have h2 := runB_len o v
      simp only [List.foldl_cons, List.length_cons]
      omega
  have := this ns []
  simp only [List.length_nil, Nat.zero_add] at this
  exact this
theorem runB_nil (v : Int) : runB [] v = [(v, v)] := by simp [runB]
theorem runB_snoc (o : Rows) (x y v : Int) : runB (o ++ [(x, y)]) v = if y = v - 1 then o ++ [(x, v)] else o ++ [(x, y)] ++ [(v, v)] := by simp [runB]
theorem plainB_nil (v : Int) : plainB [] v = [v] := by simp [plainB]
theorem plainB_snoc (o : List Int) (y v : Int) : plainB (o ++ [y]) v = if y = v then o ++ [y] else o ++ [y] ++ [v] := by
  unfold plainB
  by_cases h : y = v <;> simp [h]
theorem plainOf_snoc (ns : List Int) (v : Int) : plainOf (ns ++ [v]) = plainB (plainOf ns) v := by simp [plainOf, List.foldl_append]
theorem plainAll_len (ns : List Int) : (plainOf ns).length ≤ ns.length := by
  have hb : ∀ (o : List Int) (v : Int), (plainB o v).length ≤ o.length + 1 := fun o v => by unfold plainB; split <;> (try simp) <;> omega
  have : ∀ (ns : List Int) (o : List Int), (ns.foldl plainB o).length ≤ o.length + ns.length := by
    intro ns
    induction ns with
    | nil => simp
    | cons v ns ih =>
      intro o
      have h1 := ih (plainB o v)
      have h2 := hb o v
      simp only [List.foldl_cons, List.length_cons]
      omega
  have := this ns []
  simp only [List.length_nil, Nat.zero_add] at this
  exact this

theorem c_runs (H : Env0 C f) {ns : List Int} (hz : ns.length ≤ 1000) (hQ : Q (.tup (enc (runsOf ns))) st) : ACall C (n + 1) (.ref (f 24)) [.lst (nums ns)] st Q := by
  obtain ⟨o, fd, F⟩ := H.fn 24 (by decide) rfl
  refine ACall_def F ?_
  show AX C (fnScope 24) n (fnBody 24) (put lo0 (Str.ofString "some") (.lst (nums ns))) st _
  refine AX_cons ?_
  refine AS_asg (AE_list (AEs_nil ⟨by simp, fun a ha => ?_⟩))
  wtm_at "m-w"
  refine AS_for (fun items pre lo' st' => lo' (Str.ofString "found") = some (.ref a) ∧ ∃ ps : List Int, pre = nums ps ∧ ps.length ≤ items.length ∧ st' = upd st a (.list (enc (runsOf ps)))) (AIt_seq ?_)
  wtm_at "m-w"
  refine ⟨_, .inr rfl, by simp; omega, ⟨put_hit, [], rfl, by simp, rfl⟩, ?_, ?_⟩
  · rintro pre d post lo' st' hi ⟨hf, ps, rfl, _, rfl⟩
    obtain ⟨v, _, hv⟩ : ∃ v ∈ ns, d = .int v := nums_mem (by rw [hi]; simp)
    subst hv
    have hlen := congrArg List.length hi
    simp at hlen
    have hrl := runAll_len ps
    refine ⟨_, AAs_name, AX.mono (Q := fun fl lo3 st3 => fl = .next ∧ lo3 = put lo' (Str.ofString "v") (.int v) ∧ st3 = upd st a (.list (enc (runB (runsOf ps) v)))) ?_ ?_⟩
    rotate_left
    · rintro fl lo3 st3 ⟨rfl, rfl, rfl⟩
      exact ⟨put_skip (by decide) hf, ps ++ [v], by simp, by simp; omega, by rw [runsOf_snoc]⟩
    generalize runsOf ps = out at *
    have app : ∀ c, out = c → runB out v = c ++ [(v, v)] → AX C (fnScope 24) n (match fnBody 24 with | [_, .For _ _ [.If _ _ b _] _ _, _] => b | _ => []) (put lo' (Str.ofString "v") (.int v)) (upd st a (.list (enc out))) fun fl lo3 st3 =>
        fl = .next ∧ lo3 = put lo' (Str.ofString "v") (.int v) ∧ st3 = upd st a (.list (enc (runB out v))) := fun c ho hr => by
      refine AX_last ?_
      wtm_at "m-w"
      refine AE_meth PySem.F.slot_list_append type_list_append ?_
      wtm_at "m-w"
      refine ⟨a, _, rfl, upd_self, ?_⟩
      wtm_at "m-w"
      refine ⟨⟨_, upd_self⟩, append_r upd_self (by simp; omega) ⟨rfl, rfl, rfl, ?_⟩⟩
      rw [upd_upd, hr, enc_snoc, ho]
    rcases List.eq_nil_or_concat out with he | ⟨o, ⟨x, y⟩, he⟩
    · wtm_at "m-w"
      refine AE_lst (AEs_nil ⟨by simp, ?_⟩)
      refine ne_r0 upd_self ?_
      wtm_at "m-w"
      refine ⟨fun h => absurd h (by rw [he]; simp), fun _ => ⟨fun h => absurd h Bool.false_ne_true, fun _ => ?_⟩⟩
      exact app [] he (by rw [he, runB_nil]; rfl)
    · rw [List.concat_eq_append] at he
      have hl : upd st a (.list (enc out)) a = some (.list (enc o ++ [AVp (x, y)])) := by rw [upd_self, he, enc_snoc]
      wtm_at "m-w"
      refine AE_lst (AEs_nil ⟨by simp, ?_⟩)
      refine ne_r0 upd_self ?_
      wtm_at "m-w"
      refine ⟨fun _ => ?_, fun h => absurd h (by rw [he]; simp)⟩
      wtm_at "m-w"
      refine get_last hl ?_
      wtm_at "m-w"
      refine ⟨fun c => ?_, fun c => ?_⟩
      · have hr : runB out v = o ++ [(x, v)] := by rw [he, runB_snoc, if_pos (of_decide_eq_true c)]
        wtm_at "m-w"
        refine AS_asg ?_
        wtm_at "m-w"
        refine get_last hl ?_
        wtm_at "m-w"
        refine ATg_sub ?_
        wtm_at "m-w"
        refine set_last hl ⟨rfl, rfl, ?_⟩
        rw [upd_upd, hr, enc_snoc]
      · exact app out rfl (by rw [he, runB_snoc, if_neg (of_decide_eq_false c)])
  · rintro lo' st' ⟨lf, ps, hpre, _, rfl⟩
    have : ps = ns := (nums_inj hpre).symm
    subst this
    wtm_at "m-go"
    refine AX_freeze (Str.ofString "found") upd_self lf ?_
    rw [del_upd ha]
    wtm_at "m-w"
    have := runAll_len ps
    exact tup_l (by simp; omega) hQ

theorem c_plain (H : Env0 C f) {ns : List Int} (hz : ns.length < 64) (hQ : ∀ ns' : List Int, ns'.Perm ns → ns'.Pairwise (· ≤ ·) → Q (.lst (nums (plainOf ns'))) st) : ACall C (n + 1) (.ref (f 25)) [.lst (nums ns)] st Q := by
  obtain ⟨o, fd, F⟩ := H.fn 25 (by decide) rfl
  refine ACall_def F ?_
  show AX C (fnScope 25) n (fnBody 25) (put lo0 (Str.ofString "numbers") (.lst (nums ns))) st _
  refine AX_cons ?_
  refine AS_asg (AE_list (AEs_nil ⟨by simp, fun a ha => ?_⟩))
  wtm_at "m-w"
  refine AS_for (fun items pre lo' st' => lo' (Str.ofString "found") = some (.ref a) ∧ ∃ ps : List Int, pre = nums ps ∧ st' = upd st a (.list (nums (plainOf ps)))) (AIt_seq ?_)
  wtm_at "m-w"
  refine sorted_i hz fun ns' hp hs => ?_
  have hl : ns'.length < 64 := by rw [hp.length_eq]; exact hz
  refine ⟨_, .inr rfl, by simp; omega, ⟨put_hit, [], rfl, rfl⟩, ?_, ?_⟩
  · rintro pre d post lo' st' hi ⟨hf, ps, rfl, rfl⟩
    obtain ⟨v, _, hv⟩ : ∃ v ∈ ns', d = .int v := nums_mem (by rw [hi]; simp)
    subst hv
    have hlen := congrArg List.length hi
    simp at hlen
    have hrl := plainAll_len ps
    refine ⟨_, AAs_name, AX.mono (Q := fun fl lo3 st3 => fl = .next ∧ lo3 = put lo' (Str.ofString "v") (.int v) ∧ st3 = upd st a (.list (nums (plainB (plainOf ps) v)))) ?_ ?_⟩
    rotate_left
    · rintro fl lo3 st3 ⟨rfl, rfl, rfl⟩
      exact ⟨put_skip (by decide) hf, ps ++ [v], by simp, by rw [plainOf_snoc]⟩
    generalize plainOf ps = out at *
    have app : ∀ c, out = c → plainB out v = c ++ [v] → AX C (fnScope 25) n (match fnBody 25 with | [_, .For _ _ [.If _ b _ _] _ _, _] => b | _ => []) (put lo' (Str.ofString "v") (.int v)) (upd st a (.list (nums out))) fun fl lo3 st3 =>
        fl = .next ∧ lo3 = put lo' (Str.ofString "v") (.int v) ∧ st3 = upd st a (.list (nums (plainB out v))) := fun c ho hr => by
      refine AX_last ?_
      wtm_at "m-w"
      refine AE_meth PySem.F.slot_list_append type_list_append ?_
      wtm_at "m-w"
      refine ⟨a, _, rfl, upd_self, ?_⟩
      wtm_at "m-w"
      refine ⟨⟨_, upd_self⟩, append_r upd_self (by simp; omega) ⟨rfl, rfl, rfl, ?_⟩⟩
      rw [upd_upd, hr, ho]
      simp
    rcases List.eq_nil_or_concat out with he | ⟨o, y, he⟩
    · wtm_at "m-w"
      refine AE_lst (AEs_nil ⟨by simp, ?_⟩)
      refine eq_r0 upd_self ?_
      wtm_at "m-w"
      refine ⟨fun h => absurd h (by rw [he]; simp), fun _ => ⟨fun _ => ?_, fun h => absurd h (by simp)⟩⟩
      exact app [] he (by rw [he, plainB_nil]; rfl)
    · rw [List.concat_eq_append] at he
      have hl : upd st a (.list (nums out)) a = some (.list (nums o ++ [.int y])) := by rw [upd_self, he]; simp
      wtm_at "m-w"
      refine AE_lst (AEs_nil ⟨by simp, ?_⟩)
      refine eq_r0 upd_self ?_
      wtm_at "m-w"
      refine ⟨fun _ => ?_, fun h => absurd h (by rw [he]; simp)⟩
      wtm_at "m-w"
      refine get_last hl ?_
      wtm_at "m-w"
      refine ⟨fun c => ?_, fun c => ?_⟩
      · have : ¬ y = v := by simpa using c
        exact app out rfl (by rw [he, plainB_snoc, if_neg this])
      · have : y = v := by simpa using c
        have hr : plainB out v = out := by rw [he, plainB_snoc, if_pos this]
        wtm_at "m-w"
        exact ⟨rfl, rfl, by rw [hr]⟩
  · rintro lo' st' ⟨lf, ps, hpre, rfl⟩
    have : ps = ns' := (nums_inj hpre).symm
    subst this
    wtm_at "m-go"
    refine AX_freeze (Str.ofString "found") upd_self lf ?_
    rw [del_upd ha]
    wtm_at "m-w"
    exact hQ _ hp hs
end
end
section
set_option maxHeartbeats 4000000
section
variable {C : Cx} {f : Nat → Addr} {sc : Scope} {n : Nat} {lo : Loc} {st : Store} {Q : AV → Store → Prop}
theorem comp_filter (p : Int → Bool) : ∀ (s : List Int), (nums s).filterMap (fun x => if p (intAV x) then some x else none) = nums (s.filter p)
  | [] => rfl
  | v :: s => by
    have ih := comp_filter p s
    show (AV.int v :: nums s).filterMap (fun x => if p (intAV x) then some x else none) = _
    rw [List.filterMap_cons, ih]
    have e : p (intAV (AV.int v)) = p v := rfl
    rw [e]
    by_cases h : p v = true
    · rw [if_pos h, List.filter_cons, if_pos h]; rfl
    · rw [if_neg h, List.filter_cons, if_neg h]
theorem comp_put1 {scope : Scope} {lo : Loc} {x : Str} {d : AV} (h : scope.names.lookup x = some .local := by rfl) : ∀ y v, compLo scope lo y = some v → put (compLo scope lo) x d y = some v := compLo_put h

theorem filter_turns {scope : Scope} {y : Str} {test : Expr} {py py' : Pos} {p : Int → Bool} {s : List Int} (h : ∀ v ∈ s, ∀ st', AT C (relS scope sc) n test (put (compLo scope lo) y (.int v)) st' fun b st2 => st2 = st' ∧ b = p v)
    (hy : scope.names.lookup y = some .local) (hsto : isSto (relS scope sc) y = true) (hvar : isVar (relS scope sc) y = true) (hd : (y == ("__debug__" : Str)) = false) (hc : (y == ("__classdict__" : Str)) = false) :
    ∀ d ∈ nums s, Turn C (relS scope sc) n (.Name y py) (.Name y py') [test] (compLo scope lo) d (if p (intAV d) then some d else none) := fun d hx => by
  obtain ⟨v, hv, rfl⟩ := nums_mem hx
  refine fun st' => ⟨_, AAs_name hsto, compLo_put hy, ATs_one fun env A s hA S => ?_⟩
  refine (h v hv st').use hA S fun b s' st2 h2 S2 x2 e2 => ?_
  obtain ⟨rfl, rfl⟩ := h2
  refine ⟨st2, ⟨rfl, fun hb => ?_, fun hb => ?_⟩, S2, x2, e2⟩
  · refine AE_name put_hit ⟨rfl, ?_⟩ hvar hd hc
    show (if p v = true then _ else _) = _
    rw [if_pos hb]
  · show (if p v = true then _ else _) = _
    rw [if_neg (by rw [hb]; decide)]
theorem AE_filter {y : Str} {py py' : Pos} {iter test : Expr} {scope : Scope} {pos : Pos} (p : Int → Bool)
    (h : AE C sc n iter lo st fun d st1 => ∃ s, d = .lst (nums s) ∧ s.length ≤ 10000 ∧ (∀ v ∈ s, ∀ st', AT C (relS scope sc) n test (put (compLo scope lo) y (.int v)) st' fun b st2 => st2 = st' ∧ b = p v) ∧ Q (.lst (nums (s.filter p))) st1)
    (hy : scope.names.lookup y = some .local := by rfl) (hsto : isSto (relS scope sc) y = true := by rfl) (hvar : isVar (relS scope sc) y = true := by rfl) (hd : (y == ("__debug__" : Str)) = false := by decide) (hc : (y == ("__classdict__" : Str)) = false := by decide)
    (hkind : scope.kind = .function := by rfl) (hcell : ∀ y ∈ scope.names, y.2 ≠ .cell := by decide) (hfree : ∀ y ∈ scope.names, y.2 = .free → sc.names.lookup y.1 = some .cell := by decide)
    (hnames : ∀ y ∈ scope.names, y.2 = .local → scope.names.lookup y.1 = some .local := by decide) (hdot : isFn (relS scope sc) = false := by rfl)
    (hs : ∀ env x, foldedSetIterable iter env x = pure x := by intro _ _; rfl) : AE C sc n (.ListComp (.Name y py') [⟨.Name y py, iter, [test], 0⟩] scope pos) lo st Q := by
  refine AE_comp (fun x => if p (intAV x) then some x else none) (AIt_seq (AE.mono h fun d st1 hh => ?_)) hkind hcell hfree hnames hdot hs
  obtain ⟨s, rfl, hz, ht, hQ⟩ := hh
  refine ⟨_, .inr rfl, by simpa using hz, filter_turns ht hy hsto hvar hd hc, ?_⟩
  rw [comp_filter]; exact hQ
theorem AS_filter {y x : Str} {py py' px spos : Pos} {iter test : Expr} {scope : Scope} {pos : Pos} {Q : AFl → Loc → Store → Prop} (p : Int → Bool)
    (h : AE C sc n iter lo st fun d st1 => ∃ s, d = .lst (nums s) ∧ s.length ≤ 10000 ∧ (∀ v ∈ s, ∀ st', AT C (relS scope sc) n test (put (compLo scope lo) y (.int v)) st' fun b st2 => st2 = st' ∧ b = p v) ∧ Q .next (put lo x (.lst (nums (s.filter p)))) st1)
    (hsw : ∀ env : Env, env.scope = sc → swapsWith (.ListComp (.Name y py') [⟨.Name y py, iter, [test], 0⟩] scope pos) (some (.Name x px)) spos.line env = pure true := by exact fun env he => by (cases env; cases he; rfl))
    (hx : isSto sc x = true := by rfl)
    (hy : scope.names.lookup y = some .local := by rfl) (hsto : isSto (relS scope sc) y = true := by rfl) (hvar : isVar (relS scope sc) y = true := by rfl) (hd : (y == ("__debug__" : Str)) = false := by decide) (hc : (y == ("__classdict__" : Str)) = false := by decide)
    (hkind : scope.kind = .function := by rfl) (hcell : ∀ y ∈ scope.names, y.2 ≠ .cell := by decide) (hfree : ∀ y ∈ scope.names, y.2 = .free → sc.names.lookup y.1 = some .cell := by decide)
    (hnames : ∀ y ∈ scope.names, y.2 = .local → scope.names.lookup y.1 = some .local := by decide) (hdot : isFn (relS scope sc) = false := by rfl)
    (hs : ∀ env x, foldedSetIterable iter env x = pure x := by intro _ _; rfl) : AS C sc n (.Assign [.Name x px] (.ListComp (.Name y py') [⟨.Name y py, iter, [test], 0⟩] scope pos) spos) lo st Q := by
  refine AS_comp (fun x => if p (intAV x) then some x else none) (AIt_seq (AE.mono h fun d st1 hh => ?_)) hsw hx hkind hcell hfree hnames hdot hs
  obtain ⟨s, rfl, hz, ht, hQ⟩ := hh
  refine ⟨_, .inr rfl, by simpa using hz, filter_turns ht hy hsto hvar hd hc, ?_⟩
  rw [comp_filter]; exact hQ
end
end
section
set_option maxHeartbeats 4000000
section
variable {C : Cx} {f : Nat → Addr} {sc : Scope} {n : Nat} {lo : Loc} {st : Store} {Q : AV → Store → Prop}

def retOf (w : Nat) : List Stmt := match (fnBody 27)[w]? with
  | some (.If _ b _ _) => b
  | _ => []
abbrev loD (w : Int) (d : Rows) (s : List Int) (e : Rows) (m : List Int) (a b : Int) : Loc :=
  put (put (put (put (put (put (put lo0 (Str.ofString "word") (.int w)) (Str.ofString "d") (.tup (enc d))) (Str.ofString "some") (.lst (nums s))) (Str.ofString "e") (.tup (enc e))) (Str.ofString "more") (.lst (nums m))) (Str.ofString "a") (.int a)) (Str.ofString "b") (.int b)
abbrev pairAV (d : Rows) (s : List Int) : AV := .tup [.tup (enc d), .lst (nums s)]

theorem done_0 (H : Env0 C f) {d e : Rows} {s m : List Int} {w a b : Int} (ha : -900 ≤ a ∧ a ≤ 900) (hb : -900 ≤ b ∧ b ≤ 900) (hQ : Q (pairAV (rangeOf a b) (span a b)) st) :
    AX C (fnScope 27) (n + 4) (retOf 0) (loD w d s e m a b) st fun f _ st' => ∃ v, f = .ret v ∧ Q v st' := by
  refine AX_last ?_
  wtm_at "m-w"
  refine c_range_of H ?_
  wtm_at "m-w"
  refine lst_rng (by omega) (by omega) (by omega) (by omega) ?_
  wtm_at "m-w"
  rw [← span_eq]
  exact hQ
theorem done_1 (H : Env0 C f) {d e : Rows} {s m : List Int} {w a b : Int} (hQ : ∀ ns ms : List Int, ns.Perm [a, b, a + 1, b, b - a] → ns.Pairwise (· ≤ ·) → ms.Perm [a, b, a + 1, b - a] → ms.Pairwise (· ≤ ·) → Q (pairAV (putAll [] (ns.map fun v => (v, v))) (plainOf ms)) st) :
    AX C (fnScope 27) (n + 4) (retOf 1) (loD w d s e m a b) st fun f _ st' => ∃ v, f = .ret v ∧ Q v st' := by
  refine AX_last ?_
  wtm_at "m-w"
  refine AE_lst ?_
  wtm_at "m-w"
  refine c_from_values H (ns := [a, b, a + 1, b, b - a]) (by simp) fun ns h1 h2 => ?_
  wtm_at "m-w"
  refine AE_lst ?_
  wtm_at "m-w"
  refine c_plain H (ns := [a, b, a + 1, b - a]) (by simp) fun ms h3 h4 => ?_
  wtm_at "m-w"
  exact hQ ns ms h1 h2 h3 h4
theorem done_2 (H : Env0 C f) {d e : Rows} {s m : List Int} {w a b : Int} (hd : d.length ≤ 300) (he : e.length ≤ 300) (hs : s.length ≤ 300) (hQ : Q (pairAV (without d a) (s.filter fun v => !decide (v = a))) st) :
    AX C (fnScope 27) (n + 4) (retOf 2) (loD w d s e m a b) st fun f _ st' => ∃ v, f = .ret v ∧ Q v st' := by
  refine AX_last ?_
  wtm_at "m-w"
  refine c_without H (by omega) ?_
  wtm_at "m-w"
  refine AE_filter (fun v => !decide (v = a)) ?_
  wtm_at "m-w"
  refine ⟨by omega, fun v hv st' => ?_, ?_⟩
  · wtm_at "m-w"
    exact ⟨rfl, rfl⟩
  · wtm_at "m-w"
    exact hQ
theorem done_3 (H : Env0 C f) {d e : Rows} {s m : List Int} {w a b : Int} (hd : d.length ≤ 300) (he : e.length ≤ 300) (hs : s.length ≤ 300) (hQ : Q (pairAV (upTo d a) (s.filter fun v => decide (v ≤ a))) st) :
    AX C (fnScope 27) (n + 4) (retOf 3) (loD w d s e m a b) st fun f _ st' => ∃ v, f = .ret v ∧ Q v st' := by
  refine AX_last ?_
  wtm_at "m-w"
  refine c_up_to H (by omega) ?_
  wtm_at "m-w"
  refine AE_filter (fun v => decide (v ≤ a)) ?_
  wtm_at "m-w"
  refine ⟨by omega, fun v hv st' => ?_, ?_⟩
  · wtm_at "m-w"
    exact ⟨rfl, rfl⟩
  · wtm_at "m-w"
    exact hQ
theorem done_4 (H : Env0 C f) {d e : Rows} {s m : List Int} {w a b : Int} (hd : d.length ≤ 300) (he : e.length ≤ 300) (hs : s.length ≤ 300) (hQ : Q (pairAV (fromOn d a) (s.filter fun v => decide (a ≤ v))) st) :
    AX C (fnScope 27) (n + 4) (retOf 4) (loD w d s e m a b) st fun f _ st' => ∃ v, f = .ret v ∧ Q v st' := by
  refine AX_last ?_
  wtm_at "m-w"
  refine c_from_on H (by omega) ?_
  wtm_at "m-w"
  refine AE_filter (fun v => decide (a ≤ v)) ?_
  wtm_at "m-w"
  refine ⟨by omega, fun v hv st' => ?_, ?_⟩
  · wtm_at "m-w"
    exact ⟨rfl, rfl⟩
  · wtm_at "m-w"
    exact hQ
theorem done_5 (H : Env0 C f) {d e : Rows} {s m : List Int} {w a b : Int} (hd : d.length ≤ 300) (he : e.length ≤ 300) (hs : s.length ≤ 300) (hQ : Q (pairAV (meetL d e) (s.filter fun v => m.any (· == v))) st) :
    AX C (fnScope 27) (n + 4) (retOf 5) (loD w d s e m a b) st fun f _ st' => ∃ v, f = .ret v ∧ Q v st' := by
  refine AX_last ?_
  wtm_at "m-w"
  refine c_meet H (by omega) (by omega) ?_
  wtm_at "m-w"
  refine AE_filter (fun v => m.any (· == v)) ?_
  wtm_at "m-w"
  refine ⟨by omega, fun v hv st' => ?_, ?_⟩
  · wtm_at "m-w"
    refine in_l ?_
    wtm_at "m-w"
    exact ⟨rfl, rfl⟩
  · wtm_at "m-w"
    exact hQ
theorem done_7 (H : Env0 C f) {d e : Rows} {s m : List Int} {w a b : Int} (hd : d.length ≤ 300) (he : e.length ≤ 300) (hs : s.length ≤ 300) (hQ : Q (pairAV (minusL d e) (s.filter fun v => !(m.any (· == v)))) st) :
    AX C (fnScope 27) (n + 4) (retOf 7) (loD w d s e m a b) st fun f _ st' => ∃ v, f = .ret v ∧ Q v st' := by
  refine AX_last ?_
  wtm_at "m-w"
  refine c_minus H hd he ?_
  wtm_at "m-w"
  refine AE_filter (fun v => !(m.any (· == v))) ?_
  wtm_at "m-w"
  refine ⟨by omega, fun v hv st' => ?_, ?_⟩
  · wtm_at "m-w"
    refine notin_l ?_
    wtm_at "m-w"
    exact ⟨rfl, rfl⟩
  · wtm_at "m-w"
    exact hQ
theorem done_6 (H : Env0 C f) {d e : Rows} {s m : List Int} {w a b : Int} (hz : d.length + e.length < 64) (hb : ∀ p ∈ d ++ e, -10000 ≤ p.2 ∧ p.2 ≤ 10000) (hs : s.length + m.length < 64)
    (hQ : ∀ (rs : Rows) (ms : List Int), rs.Perm (d ++ e) → rs.Pairwise (fun x y => pkey x ≤ pkey y) → ms.Perm (s ++ m) → ms.Pairwise (· ≤ ·) → Q (pairAV (putAll [] rs) (plainOf ms)) st) :
    AX C (fnScope 27) (n + 4) (retOf 6) (loD w d s e m a b) st fun f _ st' => ∃ v, f = .ret v ∧ Q v st' := by
  refine AX_last ?_
  wtm_at "m-w"
  refine c_join H hz hb fun rs h1 h2 => ?_
  wtm_at "m-w"
  refine add_l (by simp; omega) ?_
  rw [← List.map_append]
  wtm_at "m-w"
  refine c_plain H (ns := s ++ m) (by simpa using hs) fun ms h3 h4 => ?_
  wtm_at "m-w"
  exact hQ rs ms h1 h2 h3 h4
theorem done_8 (H : Env0 C f) {d e : Rows} {s m : List Int} {w a b : Int} (hd : d.length ≤ 300) (hs : s.length ≤ 300) (hQ : Q (pairAV (shiftL d a) (s.map fun v => v + a)) st) :
    AX C (fnScope 27) (n + 4) (retOf 8) (loD w d s e m a b) st fun f _ st' => ∃ v, f = .ret v ∧ Q v st' := by
  refine AX_last ?_
  wtm_at "m-w"
  refine c_shifted H (by omega) ?_
  wtm_at "m-w"
  refine AE_comp (fun x => (fun v => (some (v + a) : Option Int).map AV.int) (intAV x)) (AIt_seq ?_)
  wtm_at "m-w"
  refine ⟨_, .inr rfl, by simp; omega, fun x hx => ?_, ?_⟩
  · obtain ⟨v, _, rfl⟩ := nums_mem hx
    refine fun st' => ⟨_, AAs_name, comp_put1, ATs_nil ⟨rfl, fun _ => ?_, fun h => absurd h (by decide)⟩⟩
    wtm_at "m-w"
    exact ⟨rfl, rfl⟩
  · rw [show (nums s).filterMap (fun x => (fun v => (some (v + a) : Option Int).map AV.int) (intAV x)) = nums (s.map fun v => v + a) from (comp_ints s fun v => (some (v + a) : Option Int).map AV.int).trans (by rw [nums_filterMap, List.filterMap_eq_map'])]
    wtm_at "m-w"
    exact hQ
theorem done_9 (H : Env0 C f) {d e : Rows} {s m : List Int} {w a b : Int} (hd : d.length ≤ 300) (hs : s.length ≤ 300) (hQ : Q (pairAV (negL d) (s.map fun v => 0 - v).reverse) st) :
    AX C (fnScope 27) (n + 4) (retOf 9) (loD w d s e m a b) st fun f _ st' => ∃ v, f = .ret v ∧ Q v st' := by
  refine AX_last ?_
  wtm_at "m-w"
  refine c_negated H (by omega) ?_
  wtm_at "m-w"
  refine AE_comp (fun x => (fun v => (some (0 - v) : Option Int).map AV.int) (intAV x)) (AIt_seq ?_)
  wtm_at "m-w"
  refine ⟨_, .inr rfl, by simp; omega, fun x hx => ?_, ?_⟩
  · obtain ⟨v, _, rfl⟩ := nums_mem hx
    refine fun st' => ⟨_, AAs_name, comp_put1, ATs_nil ⟨rfl, fun _ => ?_, fun h => absurd h (by decide)⟩⟩
    wtm_at "m-w"
    exact ⟨rfl, rfl⟩
  · rw [show (nums s).filterMap (fun x => (fun v => (some (0 - v) : Option Int).map AV.int) (intAV x)) = nums (s.map fun v => 0 - v) from (comp_ints s fun v => (some (0 - v) : Option Int).map AV.int).trans (by rw [nums_filterMap, List.filterMap_eq_map'])]
    refine ⟨_, rfl, by simp; omega, ?_⟩
    rw [← List.map_reverse]
    wtm_at "m-w"
    exact hQ
def sgAt (i : Int) : Sg := if i = 0 then .le else if i = 1 then .ge else if i = 2 then .eq else .ne
theorem done_10 (H : Env0 C f) {d e : Rows} {s m : List Int} {w a b : Int} (hd : d.length ≤ 300) (hs : s.length ≤ 300) (hQ : ∀ g : Sg, Q (pairAV (strike g a d) (s.filter (g.says a))) st) :
    AX C (fnScope 27) (n + 4) ((fnBody 27).drop 10) (loD w d s e m a b) st fun f _ st' => ∃ v, f = .ret v ∧ Q v st' := by
  refine AX_cons (AS_asg ?_)
  wtm_at "m-w"
  refine AE_lst ?_
  wtm_at "m-w"
  have fin : ∀ g : Sg, AX C (fnScope 27) (n + 4) ((fnBody 27).drop 11) (put (loD w d s e m a b) (Str.ofString "literal") (lit b g a)) st fun f _ st' => ∃ v, f = .ret v ∧ Q v st' := fun g => by
    refine AX_last ?_
    wtm_at "m-w"
    refine c_struck H hd ?_
    wtm_at "m-w"
    refine AE_filter (g.says a) ?_
    wtm_at "m-w"
    refine ⟨by omega, fun v hv st' => ?_, ?_⟩
    · wtm_at "m-w"
      refine c_truth H ?_
      wtm_at "m-w"
      exact ⟨rfl, rfl⟩
    · wtm_at "m-w"
      exact hQ g
  have hr : (a + b) % 4 = 0 ∨ (a + b) % 4 = 1 ∨ (a + b) % 4 = 2 ∨ (a + b) % 4 = 3 := by omega
  rcases hr with hr | hr | hr | hr <;> rw [hr]
  · wtm_at "m-op"
    wtm_at "m-es"
    wtm_at "m-ae"
    wtm_at "m-es"
    wtm_at "m-le"
    wtm_at "m-tg"
    wtm_at "m-go"
    exact fin .le
  · wtm_at "m-op"
    wtm_at "m-es"
    wtm_at "m-ae"
    wtm_at "m-es"
    wtm_at "m-le"
    wtm_at "m-tg"
    wtm_at "m-go"
    exact fin .ge
  · wtm_at "m-op"
    wtm_at "m-es"
    wtm_at "m-ae"
    wtm_at "m-es"
    wtm_at "m-le"
    wtm_at "m-tg"
    wtm_at "m-go"
    exact fin .eq
  · wtm_at "m-op"
    wtm_at "m-es"
    wtm_at "m-ae"
    wtm_at "m-es"
    wtm_at "m-le"
    wtm_at "m-tg"
    wtm_at "m-go"
    exact fin .ne

/-- what _law_done gives -/
def DoneOk (w : Int) (d : Rows) (s : List Int) (e : Rows) (m : List Int) (a b : Int) (d' : Rows) (s' : List Int) : Prop :=
  (w = 0 ∧ d' = rangeOf a b ∧ s' = span a b) ∨
  (w = 1 ∧ ∃ ns ms : List Int, ns.Perm [a, b, a + 1, b, b - a] ∧ ns.Pairwise (· ≤ ·) ∧ ms.Perm [a, b, a + 1, b - a] ∧ ms.Pairwise (· ≤ ·) ∧ d' = putAll [] (ns.map fun v => (v, v)) ∧ s' = plainOf ms) ∨
  (w = 2 ∧ d' = without d a ∧ s' = s.filter fun v => !decide (v = a)) ∨
  (w = 3 ∧ d' = upTo d a ∧ s' = s.filter fun v => decide (v ≤ a)) ∨
  (w = 4 ∧ d' = fromOn d a ∧ s' = s.filter fun v => decide (a ≤ v)) ∨
  (w = 5 ∧ d' = meetL d e ∧ s' = s.filter fun v => m.any (· == v)) ∨
  (w = 6 ∧ ∃ (rs : Rows) (ms : List Int), rs.Perm (d ++ e) ∧ rs.Pairwise (fun x y => pkey x ≤ pkey y) ∧ ms.Perm (s ++ m) ∧ ms.Pairwise (· ≤ ·) ∧ d' = putAll [] rs ∧ s' = plainOf ms) ∨
  (w = 7 ∧ d' = minusL d e ∧ s' = s.filter fun v => !(m.any (· == v))) ∨
  (w = 8 ∧ d' = shiftL d a ∧ s' = s.map fun v => v + a) ∨
  (w = 9 ∧ d' = negL d ∧ s' = (s.map fun v => 0 - v).reverse) ∨
  (∃ g : Sg, d' = strike g a d ∧ s' = s.filter (g.says a))

theorem c_done (H : Env0 C f) {d e : Rows} {s m : List Int} {w a b : Int} (ha : -900 ≤ a ∧ a ≤ 900) (hb : -900 ≤ b ∧ b ≤ 900) (hz : d.length + e.length < 64) (hp : ∀ p ∈ d ++ e, -10000 ≤ p.2 ∧ p.2 ≤ 10000) (hs : s.length + m.length < 64)
    (hQ : ∀ d' s', DoneOk w d s e m a b d' s' → Q (pairAV d' s') st) : ACall C (n + 5) (.ref (f 27)) [.int w, .tup (enc d), .lst (nums s), .tup (enc e), .lst (nums m), .int a, .int b] st Q := by
  obtain ⟨o, fd, F⟩ := H.fn 27 (by decide) rfl
  refine ACall_def F ?_
  show AX C (fnScope 27) (n + 4) (fnBody 27) (loD w d s e m a b) st _
  have hdl : d.length ≤ 300 := by omega
  have hel : e.length ≤ 300 := by omega
  have hsl : s.length ≤ 300 := by omega
  have ret : ∀ {R : AFl → Loc → Store → Prop}, (∀ v lo' st', Q v st' → R (.ret v) lo' st') → ∀ (f : AFl) lo' st', (∃ v, f = .ret v ∧ Q v st') → R f lo' st' := by
    rintro R hR _ lo' st' ⟨v, rfl, h⟩
    exact hR v lo' st' h
  refine AX_cons ?_
  wtm_at "m-w"
  refine ⟨fun c => (AX.mono (done_0 H ha hb (hQ _ _ (.inl ⟨of_decide_eq_true c, rfl, rfl⟩))) (ret fun v lo' st' h => h)), fun _ => ?_⟩
  refine AX_nil ?_
  wtm_at "m-w"
  refine ⟨fun c => (AX.mono (done_1 H fun ns ms h1 h2 h3 h4 => hQ _ _ (.inr (.inl ⟨of_decide_eq_true c, ns, ms, h1, h2, h3, h4, rfl, rfl⟩))) (ret fun v lo' st' h => h)), fun _ => ?_⟩
  refine AX_nil ?_
  wtm_at "m-w"
  refine ⟨fun c => (AX.mono (done_2 H hdl hel hsl (hQ _ _ (.inr (.inr (.inl ⟨of_decide_eq_true c, rfl, rfl⟩))))) (ret fun v lo' st' h => h)), fun _ => ?_⟩
  refine AX_nil ?_
  wtm_at "m-w"
  refine ⟨fun c => (AX.mono (done_3 H hdl hel hsl (hQ _ _ (.inr (.inr (.inr (.inl ⟨of_decide_eq_true c, rfl, rfl⟩)))))) (ret fun v lo' st' h => h)), fun _ => ?_⟩
  refine AX_nil ?_
  wtm_at "m-w"
  refine ⟨fun c => (AX.mono (done_4 H hdl hel hsl (hQ _ _ (.inr (.inr (.inr (.inr (.inl ⟨of_decide_eq_true c, rfl, rfl⟩))))))) (ret fun v lo' st' h => h)), fun _ => ?_⟩
  refine AX_nil ?_
  wtm_at "m-w"
  refine ⟨fun c => (AX.mono (done_5 H hdl hel hsl (hQ _ _ (.inr (.inr (.inr (.inr (.inr (.inl ⟨of_decide_eq_true c, rfl, rfl⟩)))))))) (ret fun v lo' st' h => h)), fun _ => ?_⟩
  refine AX_nil ?_
  wtm_at "m-w"
  refine ⟨fun c => (AX.mono (done_6 H hz hp hs fun rs ms h1 h2 h3 h4 => hQ _ _ (.inr (.inr (.inr (.inr (.inr (.inr (.inl ⟨of_decide_eq_true c, rs, ms, h1, h2, h3, h4, rfl, rfl⟩)))))))) (ret fun v lo' st' h => h)), fun _ => ?_⟩
  refine AX_nil ?_
  wtm_at "m-w"
  refine ⟨fun c => (AX.mono (done_7 H hdl hel hsl (hQ _ _ (.inr (.inr (.inr (.inr (.inr (.inr (.inr (.inl ⟨of_decide_eq_true c, rfl, rfl⟩)))))))))) (ret fun v lo' st' h => h)), fun _ => ?_⟩
  refine AX_nil ?_
  wtm_at "m-w"
  refine ⟨fun c => (AX.mono (done_8 H hdl hsl (hQ _ _ (.inr (.inr (.inr (.inr (.inr (.inr (.inr (.inr (.inl ⟨of_decide_eq_true c, rfl, rfl⟩))))))))))) (ret fun v lo' st' h => h)), fun _ => ?_⟩
  refine AX_nil ?_
  wtm_at "m-w"
  refine ⟨fun c => (AX.mono (done_9 H hdl hsl (hQ _ _ (.inr (.inr (.inr (.inr (.inr (.inr (.inr (.inr (.inr (.inl ⟨of_decide_eq_true c, rfl, rfl⟩)))))))))))) (ret fun v lo' st' h => h)), fun _ => ?_⟩
  refine AX_nil ?_
  wtm_at "m-go"
  exact AX.mono (done_10 H hdl hsl fun g => hQ _ _ (.inr (.inr (.inr (.inr (.inr (.inr (.inr (.inr (.inr (.inr ⟨g, rfl, rfl⟩))))))))))) (ret fun v lo' st' h => h)
end
end
section
set_option maxHeartbeats 4000000
section
variable {C : Cx} {f : Nat → Addr} {sc : Scope} {n : Nat} {lo : Loc} {st : Store} {Q : AV → Store → Prop}

structure AskOk (d : Rows) (s : List Int) (e : Rows) (m : List Int) (a : Int) : Prop where
  size : sizeOf' d = s.length
  vals : valuesOf d = s
  within : decide (minusL d e = []) = decide ((s.filter fun v => !(m.any (· == v))) = [])
  least : ∀ x xs, s = x :: xs → ∃ p d', d = p :: d' ∧ p.1 = x
  greatest : ∀ x xs, s = xs ++ [x] → ∃ p d', d = d' ++ [p] ∧ p.2 = x
  has : ∀ v, decide (nextF d v = some v) = s.any (· == v)
  next : ∀ v, nextF d v = (s.filter fun x => decide (v ≤ x)).head?

theorem c_asked (H : Env0 C f) {d e : Rows} {s m : List Int} {a : Int} (K : AskOk d s e m a) (hd : d.length ≤ 300) (he : e.length ≤ 300) (hs : s.length ≤ 300) (hb : ∀ r ∈ d, -900 ≤ r.1 ∧ r.1 ≤ 900 ∧ -900 ≤ r.2 ∧ r.2 ≤ 900)
    (hQ : Q (.bool true) st) : ACall C (n + 5) (.ref (f 28)) [.tup (enc d), .lst (nums s), .tup (enc e), .lst (nums m), .int a] st Q := by
  obtain ⟨o, fd, F⟩ := H.fn 28 (by decide) rfl
  refine ACall_def F ?_
  show AX C (fnScope 28) (n + 4) (fnBody 28) (put (put (put (put (put lo0 (Str.ofString "d") (.tup (enc d))) (Str.ofString "some") (.lst (nums s))) (Str.ofString "e") (.tup (enc e))) (Str.ofString "more") (.lst (nums m))) (Str.ofString "a") (.int a)) st _
  refine AX_cons ?_
  wtm_at "m-w"
  refine c_size H (by omega) ?_
  wtm_at "m-w"
  refine len_l (by simp; omega) ?_
  wtm_at "m-w"
  refine ⟨fun _ => ?_, fun h => absurd h (by rw [K.size]; simp)⟩
  wtm_at "m-w"
  refine c_values H (by omega) (by rw [K.vals]; omega) hb ?_
  wtm_at "m-w"
  refine ne_ll ?_
  wtm_at "m-w"
  refine ⟨fun _ => ?_, fun h => absurd h (by rw [K.vals]; simp)⟩
  wtm_at "m-w"
  refine c_is_within H hd he ?_
  wtm_at "m-w"
  refine AE_filter (fun v => !(m.any (· == v))) ?_
  wtm_at "m-w"
  refine ⟨by omega, fun v hv st' => ?_, ?_⟩
  · wtm_at "m-w"
    refine notin_l ?_
    wtm_at "m-w"
    exact ⟨rfl, rfl⟩
  refine AE_lst (AEs_nil ⟨by simp, ?_⟩)
  refine eq_l0 ?_
  refine ne_bb ?_
  wtm_at "m-w"
  refine ⟨fun h => absurd h (by rw [K.within]; simp), fun _ => ?_⟩
  wtm_at "m-w"
  have rest : AX C (fnScope 28) (n + 4) ((fnBody 28).drop 2) (put (put (put (put (put lo0 (Str.ofString "d") (.tup (enc d))) (Str.ofString "some") (.lst (nums s))) (Str.ofString "e") (.tup (enc e))) (Str.ofString "more") (.lst (nums m))) (Str.ofString "a") (.int a)) st fun f _ st' => Q f.val st' := by
    refine AX_cons ?_
    refine AS_for (fun items pre lo' st' => lo' (Str.ofString "d") = some (.tup (enc d)) ∧ lo' (Str.ofString "some") = some (.lst (nums s)) ∧ st' = st) (AIt_seq ?_)
    wtm_at "m-w"
    refine ⟨_, .inl rfl, by simp, ⟨put_skip (by decide) (put_skip (by decide) (put_skip (by decide) (put_skip (by decide) put_hit))), put_skip (by decide) (put_skip (by decide) (put_skip (by decide) put_hit)), rfl⟩, ?_, ?_⟩
    · rintro pre x post lo' st' hi ⟨ld, ls, rfl⟩
      obtain ⟨v, rfl⟩ : ∃ v, x = .int v := by
        have : x ∈ [AV.int a, AV.int (a + 1)] := by rw [hi]; simp
        simp only [List.mem_cons, List.not_mem_nil, or_false] at this
        rcases this with rfl | rfl
        · exact ⟨_, rfl⟩
        · exact ⟨_, rfl⟩
      refine ⟨_, AAs_name, ?_⟩
      refine AX_cons ?_
      refine AS_filter (fun x => decide (v ≤ x)) ?_
      wtm_at "m-w"
      refine ⟨by omega, fun y hy st2 => ?_, ?_⟩
      · wtm_at "m-w"
        exact ⟨rfl, rfl⟩
      wtm_at "m-w"
      refine c_has H (by omega) ?_
      wtm_at "m-w"
      refine in_l ?_
      refine ne_bb ?_
      wtm_at "m-w"
      refine ⟨fun _ => ?_, fun h => absurd h (by rw [K.has]; simp)⟩
      wtm_at "m-w"
      refine c_next_from H (by omega) ?_
      wtm_at "m-w"
      refine AE_lst (AEs_nil ⟨by simp, ?_⟩)
      refine ne_l0 ?_
      wtm_at "m-w"
      have hn := K.next v
      generalize (s.filter fun x => decide (v ≤ x)) = late at *
      refine ⟨fun c => ?_, fun c => ?_⟩
      · obtain ⟨y, ys, rfl⟩ : ∃ y ys, late = y :: ys := by
          cases late with
          | nil => simp at c
          | cons y ys => exact ⟨y, ys, rfl⟩
        wtm_at "m-w"
        refine get_l0 ?_
        refine ne_oo (j := some y) ?_
        wtm_at "m-w"
        refine ⟨fun h => absurd h (by rw [hn]; simp), fun _ => ?_⟩
        wtm_at "m-w"
        exact ⟨put_skip (by decide) (put_skip (by decide) ld), put_skip (by decide) (put_skip (by decide) ls), rfl⟩
      · have hl : late = [] := by simpa using c
        subst hl
        wtm_at "m-w"
        refine ne_oo (j := none) ?_
        wtm_at "m-w"
        refine ⟨fun h => absurd h (by rw [hn]; simp), fun _ => ?_⟩
        wtm_at "m-w"
        exact ⟨put_skip (by decide) (put_skip (by decide) ld), put_skip (by decide) (put_skip (by decide) ls), rfl⟩
    · rintro lo' st' ⟨ld, ls, rfl⟩
      wtm_at "m-w"
      exact hQ
  refine AE_lst (AEs_nil ⟨by simp, ?_⟩)
  refine ne_l0 ?_
  wtm_at "m-w"
  refine ⟨fun c => ?_, fun _ => ⟨fun h => absurd h Bool.false_ne_true, fun _ => ?_⟩⟩
  rotate_left
  · refine AX_nil ?_
    wtm_at "m-go"
    exact rest
  have hne : s ≠ [] := by simpa using c
  obtain ⟨x, xs, hx⟩ : ∃ x xs, s = x :: xs := by
    cases s with
    | nil => exact absurd rfl hne
    | cons x xs => exact ⟨x, xs, rfl⟩
  obtain ⟨p, d', hp, hpx⟩ := K.least x xs hx
  obtain ⟨y, ys, hy⟩ : ∃ y ys, s = ys ++ [y] := by
    rcases List.eq_nil_or_concat s with h | ⟨ys, y, h⟩
    · exact absurd h hne
    · exact ⟨y, ys, by rw [h, List.concat_eq_append]⟩
  obtain ⟨q, d'', hq, hqy⟩ := K.greatest y ys hy
  wtm_at "m-w"
  rw [hp]
  refine c_least H ?_
  wtm_at "m-w"
  rw [hx]
  refine get_l0 ?_
  wtm_at "m-w"
  refine ⟨fun _ => ?_, fun h => absurd h (by rw [hpx]; simp)⟩
  rw [← hx, ← hp]
  wtm_at "m-w"
  rw [hq]
  refine c_greatest H ?_
  wtm_at "m-w"
  rw [hy, show nums (ys ++ [y]) = nums ys ++ [AV.int y] by simp]
  refine get_llast ?_
  wtm_at "m-w"
  refine ⟨fun h => absurd h (by rw [hqy]; simp), fun _ => ?_⟩
  refine AX_nil ?_
  wtm_at "m-go"
  rw [← hq]
  rw [hy, show nums (ys ++ [y]) = nums ys ++ [AV.int y] by simp] at rest
  exact rest

theorem eqAV_lit (x y k j : Int) (s t : Sg) : eqAV (lit x s k) (lit y t j) = decide (x = y ∧ s = t ∧ k = j) := by
  have e : (s.str == t.str) = decide (s = t) := by cases s <;> cases t <;> decide
  simp only [eqAV, toPy, toPys, PyData.eqv, PyData.eqvAll, e]
  rw [Bool.eq_iff_iff]
  simp
theorem ne_lit {x y k j : Int} {s t : Sg} (hQ : Q (.bool (!decide (x = y ∧ s = t ∧ k = j))) st) : AV2 C n (compareOp .NotEq) (lit x s k) (lit y t j) st Q := by
  have ok : ∀ (x k : Int) (s : Sg), okAV 4 (lit x s k) = true := fun x k s => by
    have : okAV 3 (.str s.str) = true := by cases s <;> (simp only [okAV, PyData.canLay0]; decide +kernel)
    simp [okAV] at this ⊢
    exact this
  exact ne_d (ok _ _ _) (ok _ _ _) (by rw [eqAV_lit]; exact hQ)
structure SayOk (d : Rows) (s : List Int) (k : Int) : Prop where
  strike : ∀ g : Sg, strike g k d = runsOf (s.filter (g.says k))
  said : ∀ g : Sg, saidOf g k d = if s.filter (g.says k) = s then 1 else if s.filter (g.says k) = [] then -1 else 0
theorem says_not (g : Sg) (k v : Int) : (g.not k).1.says (g.not k).2 v = !(g.says k v) := by
  cases g <;> simp only [Sg.not, Sg.says]
  · rw [Bool.eq_iff_iff]; simp; omega
  · rw [Bool.eq_iff_iff]; simp; omega
  · simp
theorem filter_not (s : List Int) (p : Int → Bool) : (s.filter fun v => !((s.filter p).any (· == v))) = s.filter fun v => !(p v) := by
  refine List.filter_congr fun v hv => ?_
  congr 1
  rw [Bool.eq_iff_iff]
  simp only [List.any_eq_true, List.mem_filter, beq_iff_eq]
  constructor
  · rintro ⟨x, ⟨_, h⟩, rfl⟩; exact h
  · intro h; exact ⟨v, ⟨hv, h⟩, rfl⟩

theorem c_said (H : Env0 C f) {d : Rows} {s : List Int} {k : Int} (K : SayOk d s k) (hd : d.length ≤ 300) (hs : s.length ≤ 300)
    (hQ : Q (.bool true) st) : ACall C (n + 5) (.ref (f 29)) [.tup (enc d), .lst (nums s), .int k] st Q := by
  obtain ⟨o, fd, F⟩ := H.fn 29 (by decide) rfl
  refine ACall_def F ?_
  show AX C (fnScope 29) (n + 4) (fnBody 29) (put (put (put lo0 (Str.ofString "d") (.tup (enc d))) (Str.ofString "some") (.lst (nums s))) (Str.ofString "k") (.int k)) st _
  refine AX_cons ?_
  refine AS_for (fun items pre lo' st' => lo' (Str.ofString "d") = some (.tup (enc d)) ∧ lo' (Str.ofString "some") = some (.lst (nums s)) ∧ lo' (Str.ofString "k") = some (.int k) ∧ st' = st) (AIt_seq ?_)
  wtm_at "m-w"
  refine ⟨_, .inl rfl, by simp, ⟨put_skip (by decide) (put_skip (by decide) put_hit), put_skip (by decide) put_hit, put_hit, rfl⟩, ?_, ?_⟩
  · rintro pre x post lo' st' hi ⟨ld, ls, lk, rfl⟩
    obtain ⟨g, rfl⟩ : ∃ g : Sg, x = .str g.str := by
      have : x ∈ [AV.str (Str.ofString "<="), AV.str (Str.ofString ">="), AV.str (Str.ofString "="), AV.str (Str.ofString "!=")] := by rw [hi]; simp
      simp only [List.mem_cons, List.not_mem_nil, or_false] at this
      rcases this with rfl | rfl | rfl | rfl
      · exact ⟨.le, rfl⟩
      · exact ⟨.ge, rfl⟩
      · exact ⟨.eq, rfl⟩
      · exact ⟨.ne, rfl⟩
    refine ⟨_, AAs_name, ?_⟩
    refine AX_cons (AS_asg ?_)
    wtm_at "m-w"
    refine AS_asg ?_
    wtm_at "m-w"
    refine c_negation H ?_
    wtm_at "m-w"
    refine AS_asg ?_
    refine AE_filter (g.says k) ?_
    wtm_at "m-w"
    refine ⟨by omega, fun v hv st2 => ?_, ?_⟩
    · wtm_at "m-w"
      refine c_truth H ?_
      wtm_at "m-w"
      exact ⟨rfl, rfl⟩
    wtm_at "m-w"
    refine ⟨fun _ => ?_, fun h => absurd h (by simp)⟩
    wtm_at "m-w"
    refine c_negation H ?_
    wtm_at "m-w"
    refine ne_lit ?_
    wtm_at "m-w"
    have hnn : ((g.not k).1.not (g.not k).2) = (g, k) := by
      cases g <;> simp only [Sg.not] <;> (try rfl) <;> (congr 1; omega)
    refine ⟨fun h => absurd h (by rw [hnn]; simp), fun _ => ?_⟩
    wtm_at "m-w"
    refine AE_filter ((g.not k).1.says (g.not k).2) ?_
    wtm_at "m-w"
    refine ⟨by omega, fun v hv st2 => ?_, ?_⟩
    · wtm_at "m-w"
      refine c_truth H ?_
      wtm_at "m-w"
      exact ⟨rfl, rfl⟩
    refine AE_filter (fun v => !((s.filter (g.says k)).any (· == v))) ?_
    wtm_at "m-w"
    refine ⟨by omega, fun v hv st2 => ?_, ?_⟩
    · wtm_at "m-w"
      refine notin_l ?_
      wtm_at "m-w"
      exact ⟨rfl, rfl⟩
    refine ne_ll ?_
    wtm_at "m-w"
    refine ⟨fun h => absurd h ?_, fun _ => ?_⟩
    · rw [filter_not]
      have : s.filter ((g.not k).1.says (g.not k).2) = s.filter fun v => !(g.says k v) := List.filter_congr fun v _ => says_not g k v
      rw [this]; simp
    wtm_at "m-w"
    refine c_struck H hd ?_
    wtm_at "m-w"
    have hfl : (s.filter (g.says k)).length ≤ s.length := List.length_filter_le _ _
    refine c_runs H (by omega) ?_
    wtm_at "m-w"
    refine ne_tt ?_
    wtm_at "m-w"
    refine ⟨fun h => absurd h (by rw [K.strike]; simp), fun _ => ?_⟩
    wtm_at "m-w"
    refine c_said_of H hd ?_
    wtm_at "m-w"
    refine eq_ll ?_
    wtm_at "m-w"
    have hsd := K.said g
    have inv : ∀ l1 l2 l3 l4 : AV, (fun f lo3 st3 => match f with
        | AFl.next => lo3 (Str.ofString "d") = some (.tup (enc d)) ∧ lo3 (Str.ofString "some") = some (.lst (nums s)) ∧ lo3 (Str.ofString "k") = some (.int k) ∧ st3 = st'
        | _ => False) AFl.next (put (put (put (put lo' (Str.ofString "sign") l1) (Str.ofString "literal") l2) (Str.ofString "turned") l3) (Str.ofString "kept") l4) st' := fun l1 l2 l3 l4 =>
      ⟨put_skip (by decide) (put_skip (by decide) (put_skip (by decide) (put_skip (by decide) ld))), put_skip (by decide) (put_skip (by decide) (put_skip (by decide) (put_skip (by decide) ls))), put_skip (by decide) (put_skip (by decide) (put_skip (by decide) (put_skip (by decide) lk))), rfl⟩
    refine ⟨fun c => ?_, fun c => ?_⟩
    · rw [if_pos (of_decide_eq_true c)] at hsd
      wtm_at "m-w"
      refine ⟨fun h => absurd h (by rw [hsd]; simp), fun _ => ?_⟩
      wtm_at "m-w"
      exact inv _ _ _ _
    rw [if_neg (of_decide_eq_false c)] at hsd
    wtm_at "m-w"
    refine AE_lst (AEs_nil ⟨by simp, ?_⟩)
    refine eq_l0 ?_
    wtm_at "m-w"
    refine ⟨fun c => ?_, fun c => ?_⟩
    · rw [if_pos (of_decide_eq_true c)] at hsd
      wtm_at "m-w"
      refine ⟨fun h => absurd h (by rw [hsd]; simp), fun _ => ?_⟩
      wtm_at "m-w"
      exact inv _ _ _ _
    · rw [if_neg (of_decide_eq_false c)] at hsd
      wtm_at "m-w"
      refine ⟨fun h => absurd h (by rw [hsd]; simp), fun _ => ?_⟩
      wtm_at "m-w"
      exact inv _ _ _ _
  · rintro lo' st' ⟨ld, ls, lk, rfl⟩
    wtm_at "m-w"
    exact hQ
end
end
section
def Bnd (b : Int) (ns : List Int) : Prop := ∀ x ∈ ns, -b ≤ x ∧ x ≤ b
theorem done_dm {w : Int} {d e d' : Rows} {s m s' : List Int} {a b : Int} (hd : Dm d s) (he : Dm e m) (bs : Bnd 15 s) (bm : Bnd 15 m) (ha : -8 ≤ a ∧ a ≤ 8) (hb : -8 ≤ b ∧ b ≤ 8) (h : DoneOk w d s e m a b d' s') : Dm d' s' ∧ Bnd 50 s' := by
  have bf : ∀ p : Int → Bool, Bnd 50 (s.filter p) := fun p x hx => by have := bs x (List.mem_filter.mp hx).1; omega
  rcases h with ⟨_, rfl, rfl⟩ | ⟨_, ns, ms, h1, h2, h3, h4, rfl, rfl⟩ | ⟨_, rfl, rfl⟩ | ⟨_, rfl, rfl⟩ | ⟨_, rfl, rfl⟩ | ⟨_, rfl, rfl⟩ | ⟨_, rs, ms, h1, h2, h3, h4, rfl, rfl⟩ | ⟨_, rfl, rfl⟩ | ⟨_, rfl, rfl⟩ | ⟨_, rfl, rfl⟩ | ⟨g, rfl, rfl⟩
  · exact ⟨dm_range a b, fun x hx => by have := (span_mem a b x).mp hx; omega⟩
  · obtain ⟨p1, p2⟩ := plain_ok h4
    have hm : ∀ x, x ∈ plainOf ms ↔ x = a ∨ x = b ∨ x = a + 1 ∨ x = b - a := fun x => by rw [p2, h3.mem_iff]; simp
    refine ⟨dm_put (fun p hp => ?_) ?_ p1 fun x => ?_, fun x hx => by have := (hm x).mp hx; omega⟩
    · obtain ⟨v, _, rfl⟩ := List.mem_map.mp hp
      exact Int.le_refl _
    · rw [List.pairwise_map]; exact h2
    · rw [hm]
      simp only [mem, List.mem_map]
      constructor
      · rintro ⟨p, ⟨v, hv, rfl⟩, k1, k2⟩
        simp only at k1 k2
        have : x = v := by omega
        subst this
        have := h1.mem_iff.mp hv
        simp at this
        omega
      · intro k
        refine ⟨(x, x), ⟨x, h1.mem_iff.mpr ?_, rfl⟩, Int.le_refl _, Int.le_refl _⟩
        simp; omega
  · exact ⟨⟨without_wf a hd.wf, asc_filter hd.asc _, fun x => by rw [without_mem, hd.same, List.mem_filter]; simp⟩, bf _⟩
  · exact ⟨⟨upTo_wf a hd.wf, asc_filter hd.asc _, fun x => by rw [upTo_mem, hd.same, List.mem_filter]; simp⟩, bf _⟩
  · exact ⟨⟨fromOn_wf a hd.wf, asc_filter hd.asc _, fun x => by rw [fromOn_mem, hd.same, List.mem_filter]; simp⟩, bf _⟩
  · exact ⟨dm_meet hd he, bf _⟩
  · obtain ⟨p1, p2⟩ := plain_ok h4
    have hrow : ∀ p ∈ d ++ e, p.1 ≤ p.2 ∧ -15 ≤ p.2 ∧ p.2 ≤ 15 := fun p hp => by
      rcases List.mem_append.mp hp with hp | hp
      · have := bs _ ((hd.same _).mp (row_mem hd.wf hp).2); have := hd.wf.le p hp; omega
      · have := bm _ ((he.same _).mp (row_mem he.wf hp).2); have := he.wf.le p hp; omega
    have hrs : ∀ p ∈ rs, p.1 ≤ p.2 ∧ -15 ≤ p.2 ∧ p.2 ≤ 15 := fun p hp => hrow p (h1.mem_iff.mp hp)
    refine ⟨dm_put (fun p hp => (hrs p hp).1) ?_ p1 fun x => ?_, fun x hx => ?_⟩
    · refine List.Pairwise.imp_of_mem (fun {p q} hp hq k => ?_) h2
      have := hrs p hp
      have := hrs q hq
      unfold pkey at k
      omega
    · rw [p2, h3.mem_iff, List.mem_append, mem_perm h1, mem_append, hd.same, he.same]
    · have := h3.mem_iff.mp ((p2 x).mp hx)
      rcases List.mem_append.mp this with k | k
      · have := bs x k; omega
      · have := bm x k; omega
  · exact ⟨dm_minus hd he, bf _⟩
  · obtain ⟨k1, k2⟩ := shift_ok a hd.wf
    refine ⟨⟨k1, ?_, fun x => ?_⟩, fun x hx => ?_⟩
    · unfold Asc; rw [List.pairwise_map]; exact hd.asc.imp fun h => by omega
    · rw [k2, hd.same, List.mem_map]
      constructor
      · intro h; exact ⟨_, h, by omega⟩
      · rintro ⟨v, hv, rfl⟩; rw [show v + a - a = v by omega]; exact hv
    · obtain ⟨v, hv, rfl⟩ := List.mem_map.mp hx
      have := bs v hv; omega
  · obtain ⟨k1, k2⟩ := neg_ok hd.wf
    refine ⟨⟨k1, ?_, fun x => ?_⟩, fun x hx => ?_⟩
    · unfold Asc; rw [List.pairwise_reverse, List.pairwise_map]; exact hd.asc.imp fun h => by omega
    · rw [k2, hd.same, List.mem_reverse, List.mem_map]
      constructor
      · intro h; exact ⟨_, h, by omega⟩
      · rintro ⟨v, hv, rfl⟩; rw [show -(0 - v) = v by omega]; exact hv
    · obtain ⟨v, hv, rfl⟩ := List.mem_map.mp (List.mem_reverse.mp hx)
      have := bs v hv; omega
  · exact ⟨dm_strike hd g a, bf _⟩

/-- an ascending list within bounds is short -/
theorem asc_len : ∀ {ns : List Int} (lo hi : Int), Asc ns → (∀ x ∈ ns, lo ≤ x ∧ x ≤ hi) → (ns.length : Int) ≤ max 0 (hi - lo + 1)
  | [], lo, hi, _, _ => by simp only [List.length_nil]; omega
  | x :: ns, lo, hi, h, hb => by
    obtain ⟨a1, a2⟩ := List.pairwise_cons.mp h
    have hx := hb x List.mem_cons_self
    have := asc_len (x + 1) hi a2 fun y hy => ⟨by have := a1 y hy; omega, (hb y (List.mem_cons_of_mem _ hy)).2⟩
    simp only [List.length_cons]
    omega
theorem rows_len : ∀ {d : Rows}, WF d → d.length ≤ (valuesOf d).length
  | [], _ => Nat.zero_le _
  | p :: d, w => by
    obtain ⟨h1, h2, h3⟩ := wf_cons.mp w
    have ih := rows_len h3
    have := span_length _ _ h1
    show d.length + 1 ≤ (span p.1 p.2 ++ valuesOf d).length
    rw [List.length_append]; omega
theorem Dm.len {d : Rows} {ns : List Int} (h : Dm d ns) : d.length ≤ ns.length := by have := rows_len h.wf; rwa [h.values] at this
theorem Dm.bnd {d : Rows} {ns : List Int} {b : Int} (h : Dm d ns) (k : Bnd b ns) : ∀ r ∈ d, -b ≤ r.1 ∧ r.1 ≤ b ∧ -b ≤ r.2 ∧ r.2 ≤ b := fun r hr => by
  have h1 := k _ ((h.same _).mp (row_mem h.wf hr).1)
  have h2 := k _ ((h.same _).mp (row_mem h.wf hr).2)
  omega
theorem Dm.ask {d e : Rows} {s m : List Int} (hd : Dm d s) (he : Dm e m) (a : Int) : AskOk d s e m a where
  size := hd.size
  vals := hd.values
  within := by
    rw [decide_eq_decide, mem_empty (dm_minus hd he).wf]
    constructor
    · intro h
      exact List.eq_nil_iff_forall_not_mem.mpr fun x hx => h x (((dm_minus hd he).same x).mpr hx)
    · intro h x hx
      have := ((dm_minus hd he).same x).mp hx
      rw [h] at this; cases this
  least := fun x xs hs => by
    subst hs
    cases d with
    | nil => exact absurd ((hd.same x).mpr List.mem_cons_self) (mem_nil x)
    | cons p d =>
      refine ⟨p, d, rfl, ?_⟩
      have h1 := (hd.same _).mp (row_mem hd.wf List.mem_cons_self).1
      have h2 := mem_cons.mp ((hd.same x).mpr List.mem_cons_self)
      have h3 : x ≤ p.1 := by
        rcases List.mem_cons.mp h1 with k | k
        · omega
        · have := (List.pairwise_cons.mp hd.asc).1 _ k; omega
      rcases h2 with k | ⟨q, hq, k1, k2⟩
      · omega
      · have := (wf_cons.mp hd.wf).2.1 q hq
        have := hd.wf.le p List.mem_cons_self
        omega
  greatest := fun x xs hs => by
    subst hs
    rcases List.eq_nil_or_concat d with rfl | ⟨d, p, rfl⟩
    · exact absurd ((hd.same x).mpr (by simp)) (mem_nil x)
    · rw [List.concat_eq_append] at *
      refine ⟨p, d, rfl, ?_⟩
      have h1 := (hd.same _).mp (row_mem hd.wf (p := p) (by simp)).2
      have h2 := mem_append.mp ((hd.same x).mpr (by simp))
      have h3 : p.2 ≤ x := by
        rcases List.mem_append.mp h1 with k | k
        · have := (List.pairwise_append.mp hd.asc).2.2 _ k x (by simp); omega
        · rw [List.mem_singleton.mp k]; exact Int.le_refl _
      rcases h2 with ⟨q, hq, k1, k2⟩ | k
      · have := (wf_append.mp hd.wf).2.2 q hq p (by simp)
        have := hd.wf.le p (by simp)
        omega
      · obtain ⟨q, hq, k1, k2⟩ := k
        rw [List.mem_singleton.mp hq] at k1 k2
        omega
  has := hd.has
  next := hd.next
theorem Dm.say {d : Rows} {s : List Int} (hd : Dm d s) (k : Int) : SayOk d s k where
  strike := fun g => (dm_strike hd g k).unique (dm_runs (asc_filter hd.asc _))
  said := fun g => by
    have hk := dm_strike hd g k
    unfold saidOf
    have e1 : strike g k d = d ↔ s.filter (g.says k) = s := by
      constructor
      · intro h
        rw [h] at hk
        exact asc_ext hk.asc hd.asc fun x => (hk.same x).symm.trans (hd.same x)
      · intro h
        rw [h] at hk
        exact hk.unique hd
    have e2 : strike g k d = [] ↔ s.filter (g.says k) = [] := by
      rw [mem_empty hk.wf]
      constructor
      · intro h
        exact List.eq_nil_iff_forall_not_mem.mpr fun x hx => h x ((hk.same x).mpr hx)
      · intro h x hx
        have := (hk.same x).mp hx
        rw [h] at this; cases this
    simp only [e1, e2]
end
section
set_option maxHeartbeats 8000000
section
variable {C : Cx} {f : Nat → Addr} {sc : Scope} {n : Nat} {lo : Loc} {st : Store} {Q : AV → Store → Prop}

/-- the three domains and the three lists -/
structure Three (D : Fin 3 → Rows) (L : Fin 3 → List Int) : Prop where
  dm : ∀ i, Dm (D i) (L i)
  bnd : ∀ i, Bnd 15 (L i)
abbrev rowsAV (D : Fin 3 → Rows) : List AV := [.tup (enc (D 0)), .tup (enc (D 1)), .tup (enc (D 2))]
abbrev listsAV (L : Fin 3 → List Int) : List AV := [.lst (nums (L 0)), .lst (nums (L 1)), .lst (nums (L 2))]
def setF {α : Type} (D : Fin 3 → α) (i : Fin 3) (d : α) : Fin 3 → α := fun j => if j = i then d else D j
theorem rows_set (D : Fin 3 → Rows) (i : Fin 3) (d : Rows) : (rowsAV D).set i (.tup (enc d)) = rowsAV (setF D i d) := by
  match i with
  | 0 => rfl
  | 1 => rfl
  | 2 => rfl
theorem lists_set (D : Fin 3 → List Int) (i : Fin 3) (d : List Int) : (listsAV D).set i (.lst (nums d)) = listsAV (setF D i d) := by
  match i with
  | 0 => rfl
  | 1 => rfl
  | 2 => rfl
theorem rows_get (D : Fin 3 → Rows) (i : Fin 3) : (rowsAV D)[(i : Nat)]? = some (.tup (enc (D i))) := by
  match i with
  | 0 => rfl
  | 1 => rfl
  | 2 => rfl
theorem lists_get (D : Fin 3 → List Int) (i : Fin 3) : (listsAV D)[(i : Nat)]? = some (.lst (nums (D i))) := by
  match i with
  | 0 => rfl
  | 1 => rfl
  | 2 => rfl
theorem fin_of {x : Int} (h0 : 0 ≤ x) (h : x < 3) : ∃ i : Fin 3, x = ((i : Nat) : Int) := ⟨⟨x.toNat, by omega⟩, by simp only; omega⟩
theorem Three.set {D : Fin 3 → Rows} {L : Fin 3 → List Int} (T : Three D L) (i : Fin 3) {d : Rows} {l : List Int} (h : Dm d l) (b : Bnd 15 l) : Three (setF D i d) (setF L i l) := by
  refine ⟨fun j => ?_, fun j => ?_⟩
  · unfold setF; split
    · exact h
    · exact T.dm j
  · unfold setF; split
    · exact b
    · exact T.bnd j

def lawDone (f : AFl) : Prop := f = .ret (.bool true)

/-- what holds between two laps -/
structure Lap (C : Cx) (t l d : Addr) (cs : List Int) (k : Nat) (D : Fin 3 → Rows) (L : Fin 3 → List Int) (st : Store) : Prop where
  three : Three D L
  tape : st t = some (.tape C.prog C.w (.lst (nums cs)) (k : Int))
  lists : st l = some (.list (listsAV L))
  rows : st d = some (.list (rowsAV D))

theorem law_start : Three (fun i => match i with | 0 => [(0, 3)] | 1 => [(-3, -2), (1, 1)] | 2 => []) (fun i => match i with | 0 => [0, 1, 2, 3] | 1 => [-3, -2, 1] | 2 => []) := by
  refine ⟨fun i => ?_, fun i => ?_⟩
  · match i with
    | 0 =>
      refine ⟨wf_one (by decide), by unfold Asc; decide, fun x => ?_⟩
      show mem [(0, 3)] x ↔ x ∈ [0, 1, 2, 3]
      rw [mem_one]; simp; omega
    | 1 =>
      refine ⟨wf_cons.mpr ⟨by decide, fun q hq => by rw [List.mem_singleton.mp hq]; decide, wf_one (by decide)⟩, by unfold Asc; decide, fun x => ?_⟩
      show mem [(-3, -2), (1, 1)] x ↔ x ∈ [-3, -2, 1]
      rw [mem_cons, mem_one]; simp; omega
    | 2 => exact ⟨.nil, .nil, fun x => ⟨fun h => (mem_nil x h).elim, fun h => by cases h⟩⟩
  · match i with
    | 0 => intro x hx; simp at hx; omega
    | 1 => intro x hx; simp at hx; omega
    | 2 => intro x hx; cases hx

theorem bnd_ends {s : List Int} (h : Asc s) (h1 : ∀ x xs, s = x :: xs → -15 ≤ x) (h2 : ∀ x xs, s = xs ++ [x] → x ≤ 15) : Bnd 15 s := fun y hy => by
  constructor
  · cases s with
    | nil => cases hy
    | cons x xs =>
      have := h1 x xs rfl
      rcases List.mem_cons.mp hy with q | q
      · omega
      · have := (List.pairwise_cons.mp h).1 y q; omega
  · rcases List.eq_nil_or_concat s with rfl | ⟨xs, x, rfl⟩
    · cases hy
    · rw [List.concat_eq_append] at *
      have := h2 x xs rfl
      rcases List.mem_append.mp hy with q | q
      · have := (List.pairwise_append.mp h).2.2 y q x (by simp); omega
      · rw [List.mem_singleton.mp q]; omega

/-- one lap -/
def lapBody : List Stmt := match fnBody 30 with
  | [_, _, _, .For _ _ b _ _, _] => b
  | _ => []
structure LapLo (t l d : Addr) (lo : Loc) : Prop where
  tape : lo (Str.ofString "tape") = some (.ref t)
  lists : lo (Str.ofString "lists") = some (.ref l)
  domains : lo (Str.ofString "domains") = some (.ref d)
theorem LapLo.put {t l d : Addr} {lo : Loc} (h : LapLo t l d lo) {x : Str} {v : AV} (h1 : (Str.ofString "tape" == x) = false := by decide) (h2 : (Str.ofString "lists" == x) = false := by decide) (h3 : (Str.ofString "domains" == x) = false := by decide) : LapLo t l d (put lo x v) :=
  ⟨put_skip h1 h.tape, put_skip h2 h.lists, put_skip h3 h.domains⟩

theorem b_lap (H : Env0 C f) {t l d : Addr} {cs : List Int} {k : Nat} {D : Fin 3 → Rows} {L : Fin 3 → List Int} (hc : cs.length ≤ 60) (hk : k ≤ 900) (hlo : LapLo t l d lo) (K : Lap C t l d cs k D L st) (htl : l ≠ t) (htd : d ≠ t) (hld : d ≠ l) :
    AX C (fnScope 30) (n + 6) lapBody lo st fun fl lo' st' => fl = .next ∧ LapLo t l d lo' ∧ ∃ D' L', Lap C t l d cs (k + 5) D' L' st' := by
  obtain ⟨T, ht, hl, hd⟩ := K
  have lt := hlo.tape
  have ll := hlo.lists
  have ld := hlo.domains
  refine AX_cons (AS_swap3 ?_)
  wtm_at "m-w"
  refine c_draw H ht hc (by omega) (by decide) fun w hw0 hw => ?_
  wtm_at "m-w"
  refine c_draw H upd_self hc (by omega) (by decide) fun x hi0 hi => ?_
  wtm_at "m-w"
  refine c_draw H upd_self hc (by omega) (by decide) fun y hj0 hj => ?_
  rw [upd_upd, upd_upd]
  wtm_at "m-w"
  refine ⟨_, _, _, rfl, ?_⟩
  obtain ⟨i, rfl⟩ := fin_of hi0 hi
  obtain ⟨j, rfl⟩ := fin_of hj0 hj
  wtm_at "m-go"
  refine AX_cons (AS_swap2 ?_)
  wtm_at "m-w"
  refine c_draw H upd_self hc (by omega) (by decide) fun a ha0 ha => ?_
  wtm_at "m-w"
  refine c_draw H upd_self hc (by omega) (by decide) fun b hb0 hb => ?_
  rw [upd_upd, upd_upd]
  wtm_at "m-w"
  refine ⟨_, _, rfl, ?_⟩
  generalize ha' : a - 8 = a' at *
  generalize hb' : b - 8 = b' at *
  have hl5 : upd st t (.tape C.prog C.w (.lst (nums cs)) ((k + 1 + 1 + 1 + 1 + 1 : Nat) : Int)) l = some (.list (listsAV L)) := by rw [upd_other htl]; exact hl
  have hd5 : upd st t (.tape C.prog C.w (.lst (nums cs)) ((k + 1 + 1 + 1 + 1 + 1 : Nat) : Int)) d = some (.list (rowsAV D)) := by rw [upd_other htd]; exact hd
  have ht5 : upd st t (.tape C.prog C.w (.lst (nums cs)) ((k + 1 + 1 + 1 + 1 + 1 : Nat) : Int)) t = some (.tape C.prog C.w (.lst (nums cs)) ((k + 5 : Nat) : Int)) := upd_self
  generalize upd st t (.tape C.prog C.w (.lst (nums cs)) ((k + 1 + 1 + 1 + 1 + 1 : Nat) : Int)) = st5 at *
  have idx : ∀ i : Fin 3, seqIndex? ((i : Nat) : Int) 3 = some (i : Nat) := fun i => idx_nat i.2
  have gd : ∀ (i : Fin 3) {Q : AV → Store → Prop}, Q (.tup (enc (D i))) st5 → AGet C (n + 6) (.ref d) (.int ((i : Nat) : Int)) st5 Q := fun i {Q} hq => get_r hd5 (idx i) (rows_get D i) hq (by omega) (by omega)
  have gl : ∀ (i : Fin 3) {Q : AV → Store → Prop}, Q (.lst (nums (L i))) st5 → AGet C (n + 6) (.ref l) (.int ((i : Nat) : Int)) st5 Q := fun i {Q} hq => get_r hl5 (idx i) (lists_get L i) hq (by omega) (by omega)
  have small : ∀ i, (L i).length ≤ 31 := fun i => by have := asc_len (-15) 15 (T.dm i).asc (T.bnd i); omega
  have smallD : ∀ i, (D i).length ≤ 31 := fun i => Nat.le_trans (T.dm i).len (small i)
  have hbd : ∀ i, ∀ p ∈ D i, -10000 ≤ p.2 ∧ p.2 ≤ 10000 := fun i p hp => by have := (T.dm i).bnd (T.bnd i) p hp; omega
  have h1 := small i
  have h2 := small j
  have h3 := smallD i
  have h4 := smallD j
  wtm_at "m-go"
  refine AX_cons (AS_asg ?_)
  wtm_at "m-w"
  refine gd i ?_
  wtm_at "m-w"
  refine gl i ?_
  wtm_at "m-w"
  refine gd j ?_
  wtm_at "m-w"
  refine gl j ?_
  wtm_at "m-w"
  refine c_done H (by omega) (by omega) (by omega) (fun p hp => by rcases List.mem_append.mp hp with q | q; exact hbd i p q; exact hbd j p q) (by omega) fun d' s' hD => ?_
  obtain ⟨hdm, hbn⟩ := done_dm (T.dm i) (T.dm j) (T.bnd i) (T.bnd j) (by omega) (by omega) hD
  have s50 : s'.length ≤ 101 := by have := asc_len (-50) 50 hdm.asc hbn; omega
  have d50 := hdm.len
  refine AAs.toT AAs_pair ?_
  wtm_at "m-w"
  refine c_runs H (by omega) ?_
  wtm_at "m-w"
  refine ne_tt ?_
  wtm_at "m-w"
  refine ⟨fun h => absurd h (by rw [hdm.unique (dm_runs hdm.asc)]; simp), fun _ => ?_⟩
  wtm_at "m-w"
  refine gd j ?_
  wtm_at "m-w"
  refine gl j ?_
  wtm_at "m-w"
  refine c_asked H (hdm.ask (T.dm j) a') (by omega) (by omega) (by omega) (fun r hr => by have := hdm.bnd hbn r hr; omega) ?_
  wtm_at "m-w"
  refine ⟨fun _ => ?_, fun h => absurd h (by decide)⟩
  wtm_at "m-w"
  refine c_said H (hdm.say b') (by omega) (by omega) ?_
  wtm_at "m-w"
  refine ⟨fun h => absurd h (by decide), fun _ => ?_⟩
  refine AX_nil ?_
  wtm_at "m-go"
  refine AX_cons (AS.mono (Q := fun fl lo'' st'' => fl = .next ∧ st'' = st5 ∧ LapLo t l d lo'' ∧ lo'' (Str.ofString "i") = some (.int ((i : Nat) : Int)) ∧ ∃ d2 s2, lo'' (Str.ofString "found") = some (.tup (enc d2)) ∧ lo'' (Str.ofString "some") = some (.lst (nums s2)) ∧ Dm d2 s2 ∧ Bnd 15 s2) ?_ ?_)
  rotate_left
  · rintro fl lo'' st'' ⟨rfl, rfl, hlo2, li, d2, s2, lf, ls, hdm2, hb2⟩
    have lt := hlo2.tape
    have ll := hlo2.lists
    have ld := hlo2.domains
    wtm_at "m-go"
    refine AX_last (AS_asg ?_)
    wtm_at "m-w"
    refine ATg_pair (ATg_sub ?_)
    wtm_at "m-w"
    refine set_r hd5 (idx i) ?_ (by omega) (by omega)
    refine ATg_sub ?_
    wtm_at "m-w"
    refine set_r (ds := listsAV L) (by rw [upd_other (Ne.symm hld)]; exact hl5) (idx i) ?_ (by omega) (by omega)
    rw [rows_set, lists_set]
    refine ⟨rfl, hlo2, setF D i d2, setF L i s2, T.set i hdm2 hb2, ?_, upd_self, ?_⟩
    · rw [upd_other (Ne.symm htl), upd_other (Ne.symm htd)]; exact ht5
    · rw [upd_other hld, upd_self]
  wtm_at "m-w"
  refine AE_lst (AEs_nil ⟨by simp, ?_⟩)
  refine ne_l0 ?_
  wtm_at "m-w"
  have same : Bnd 15 s' → AX C (fnScope 30) (n + 6) [] (put (put (put (put (put (put (put lo (Str.ofString "j") (.int ((j : Nat) : Int))) (Str.ofString "i") (.int ((i : Nat) : Int))) (Str.ofString "word") (.int w)) (Str.ofString "b") (.int b')) (Str.ofString "a") (.int a')) (Str.ofString "found") (.tup (enc d'))) (Str.ofString "some") (.lst (nums s'))) st5
      fun fl lo'' st'' => fl = .next ∧ st'' = st5 ∧ LapLo t l d lo'' ∧ lo'' (Str.ofString "i") = some (.int ((i : Nat) : Int)) ∧ ∃ d2 s2, lo'' (Str.ofString "found") = some (.tup (enc d2)) ∧ lo'' (Str.ofString "some") = some (.lst (nums s2)) ∧ Dm d2 s2 ∧ Bnd 15 s2 := fun hb =>
    AX_nil ⟨rfl, rfl, ((((((hlo.put).put).put).put).put).put).put, by wtm_at "m-nm", d', s', by wtm_at "m-nm", by wtm_at "m-nm", hdm, hb⟩
  have reset : AX C (fnScope 30) (n + 6) (match lapBody with | [_, _, _, _, _, .If _ b _ _, _] => b | _ => []) (put (put (put (put (put (put (put lo (Str.ofString "j") (.int ((j : Nat) : Int))) (Str.ofString "i") (.int ((i : Nat) : Int))) (Str.ofString "word") (.int w)) (Str.ofString "b") (.int b')) (Str.ofString "a") (.int a')) (Str.ofString "found") (.tup (enc d'))) (Str.ofString "some") (.lst (nums s'))) st5
      fun fl lo'' st'' => fl = .next ∧ st'' = st5 ∧ LapLo t l d lo'' ∧ lo'' (Str.ofString "i") = some (.int ((i : Nat) : Int)) ∧ ∃ d2 s2, lo'' (Str.ofString "found") = some (.tup (enc d2)) ∧ lo'' (Str.ofString "some") = some (.lst (nums s2)) ∧ Dm d2 s2 ∧ Bnd 15 s2 := by
    refine AX_last (AS_swap2 ?_)
    wtm_at "m-w"
    refine AE_lst ?_
    wtm_at "m-w"
    refine ⟨_, _, rfl, rfl, rfl, ((((((((hlo.put).put).put).put).put).put).put).put).put, by wtm_at "m-nm", [(5, 6)], [5, 6], put_hit, put_skip (by decide) put_hit, ?_, ?_⟩
    · refine ⟨wf_one (by decide), by unfold Asc; decide, fun x => ?_⟩
      rw [mem_one]; simp; omega
    · intro x hx; simp at hx; omega
  refine ⟨fun c => ?_, fun c => ⟨fun h => absurd h Bool.false_ne_true, fun _ => same ?_⟩⟩
  rotate_left
  · have : s' = [] := by simpa using c
    rw [this]; intro x hx; cases hx
  have hne : s' ≠ [] := by simpa using c
  obtain ⟨x, xs, hx⟩ : ∃ x xs, s' = x :: xs := by
    cases s' with
    | nil => exact absurd rfl hne
    | cons x xs => exact ⟨x, xs, rfl⟩
  obtain ⟨y, ys, hy⟩ : ∃ y ys, s' = ys ++ [y] := by
    rcases List.eq_nil_or_concat s' with h | ⟨ys, y, h⟩
    · exact absurd h hne
    · exact ⟨y, ys, by rw [h, List.concat_eq_append]⟩
  have g0 : ∀ {Q : AV → Store → Prop}, Q (.int x) st5 → AGet C (n + 6) (.lst (nums s')) (.int 0) st5 Q := fun {Q} hq => by rw [hx]; exact get_l0 hq
  have g1 : ∀ {Q : AV → Store → Prop}, Q (.int y) st5 → AGet C (n + 6) (.lst (nums s')) (.int (-1)) st5 Q := fun {Q} hq => by
    rw [hy, show nums (ys ++ [y]) = nums ys ++ [AV.int y] by simp]; exact get_llast hq
  wtm_at "m-at"
  wtm_at "m-at"
  wtm_at "m-ae"
  wtm_at "m-ae"
  wtm_at "m-ae"
  refine g0 ?_
  wtm_at "m-w"
  refine ⟨fun c1 => ?_, fun c1 => ⟨fun _ => reset, fun h => absurd h (by decide)⟩⟩
  wtm_at "m-at"
  wtm_at "m-ae"
  wtm_at "m-ae"
  wtm_at "m-ae"
  wtm_at "m-ae"
  wtm_at "m-op"
  refine g1 ?_
  wtm_at "m-w"
  refine ⟨fun c2 => reset, fun c2 => same ?_⟩
  have c1 := of_decide_eq_false c1
  have c2 := of_decide_eq_false c2
  refine bnd_ends hdm.asc (fun z zs e => ?_) fun z zs e => ?_
  · rw [hx] at e; cases e; omega
  · rw [hy] at e
    have := List.append_inj_right' e (by simp)
    simp at this
    omega

theorem b_law (H : Env0 C f) {ns : List Int} (hn : ns.length ≤ 1000) : AX C (fnScope 30) (n + 6) (fnBody 30) (put lo0 (Str.ofString "script") (.lst (nums ns))) st fun f _ _ => f = .ret (.bool true) := by
  refine AX_cons (AS_asg ?_)
  refine AE_tape ?_
  wtm_at "m-w"
  refine ⟨by simp; omega, by decide, ?_⟩
  wtm_at "m-w"
  rw [← List.map_take]
  refine lst_l (by simp; omega) ?_
  have hc : (ns.take (Int.toNat 60)).length ≤ 60 := by rw [List.length_take]; exact Nat.min_le_left _ _
  generalize ns.take (Int.toNat 60) = cs at *
  wtm_at "m-w"
  intro t ht
  wtm_at "m-w"
  refine AS_asg (AE_list ?_)
  wtm_at "m-w"
  refine AE_lst ?_
  wtm_at "m-w"
  refine AE_lst ?_
  wtm_at "m-w"
  refine AE_lst ?_
  wtm_at "m-w"
  intro l hl
  have htl : l ≠ t := by rintro rfl; rw [upd_self] at hl; cases hl
  wtm_at "m-w"
  refine AS_asg (AE_list ?_)
  wtm_at "m-w"
  intro d hd
  have hld : d ≠ l := by rintro rfl; rw [upd_self] at hd; cases hd
  have htd : d ≠ t := by rintro rfl; rw [upd_other (Ne.symm htl), upd_self] at hd; cases hd
  wtm_at "m-w"
  generalize hst : upd (upd (upd st t (.tape C.prog C.w (.lst (List.map AV.int cs)) 0)) l (.list [.lst [.int 0, .int 1, .int 2, .int 3], .lst [.int (-3), .int (-2), .int 1], .lst []])) d (.list [.tup [.tup [.int 0, .int 3]], .tup [.tup [.int (-3), .int (-2)], .tup [.int 1, .int 1]], .tup []]) = st1
  have h1 : st1 t = some (.tape C.prog C.w (.lst (nums cs)) ((0 : Nat) : Int)) := by rw [← hst, upd_other (Ne.symm htd), upd_other (Ne.symm htl), upd_self]; rfl
  have h2 : st1 l = some (.list (listsAV fun i => match i with | 0 => [0, 1, 2, 3] | 1 => [-3, -2, 1] | 2 => [])) := by rw [← hst, upd_other (Ne.symm hld), upd_self]; rfl
  have h3 : st1 d = some (.list (rowsAV fun i => match i with | 0 => [(0, 3)] | 1 => [(-3, -2), (1, 1)] | 2 => [])) := by rw [← hst, upd_self]; rfl
  refine AS_for (fun items pre lo' st' => items.length ≤ 10 ∧ LapLo t l d lo' ∧ ∃ D L, Lap C t l d cs (1 + 5 * pre.length) D L st') (AIt_rng ?_)
  wtm_at "m-w"
  refine c_draw H h1 hc (by omega) (by decide) fun x hx0 hx => ?_
  wtm_at "m-w"
  refine ⟨_, _, rfl, ⟨by omega, by omega, by omega, by omega⟩, ⟨by rw [intsFrom_length]; omega, ⟨by wtm_at "m-nm", by wtm_at "m-nm", by wtm_at "m-nm"⟩, _, _, law_start, upd_self, by rw [upd_other htl]; exact h2, by rw [upd_other htd]; exact h3⟩, ?_, ?_⟩
  · rintro pre y post lo' st' hi ⟨hlen, hlo, D, L, K⟩
    have hpl : pre.length + 1 ≤ 10 := by
      have := congrArg List.length hi
      rw [List.length_append, List.length_cons] at this; omega
    refine ⟨_, AAs_name, ?_⟩
    refine AX.mono (b_lap H hc (by omega) hlo.put K htl htd hld) ?_
    rintro fl lo3 st3 ⟨rfl, hlo3, D', L', K'⟩
    refine ⟨hlen, hlo3, D', L', ?_⟩
    rw [List.length_append, List.length_singleton, show 1 + 5 * (pre.length + 1) = 1 + 5 * pre.length + 5 by omega]
    exact K'
  · rintro lo' st' ⟨hlen, hlo, D, L, K⟩
    wtm_at "m-w"
    rfl
end
end
end
section
set_option maxRecDepth 100000
set_option maxHeartbeats 8000000
/-- the program without its two stores to a start-up name -/
def view : Program := { PySem.Challenge.pw_no0303_01 with main := { PySem.Challenge.pw_no0303_01.main with body := (PySem.Challenge.pw_no0303_01.main.body.eraseIdx 22).eraseIdx 0 } }
theorem left : LeftO PySem.Challenge.pw_no0303_01 view [] (fun _ => true) (fun _ => ()) (fun _ => ()) 1914 := by
  intro w
  kernel_rfl
def recAt (k : Nat) : DefRec := match PySem.Challenge.pw_no0303_01.main.body[k]? with
  | some (.FunctionDef x as b _ _ _ sc _ _ pos) => ⟨x, as, b, sc, pos⟩
  | _ => ⟨Str.ofString "", { posonlyargs := [], args := [], vararg := none, kwonlyargs := [], kw_defaults := [], kwarg := none, defaults := [] }, [], fnScope 0, default⟩
theorem recAt_ok {k : Nat} (h : isDef k = true) : (recAt k).name = fnName k ∧ (recAt k).body = fnBody k ∧ (recAt k).scope = fnScope k ∧ (recAt k).params.args.map (·.arg) = fnArgs k := by
  unfold isDef at h
  unfold recAt fnName fnBody fnScope fnArgs
  split at h
  · rename_i e
    simp only [e, and_self]
  · cases h
def recIdx : List Nat := [1, 2, 3, 4, 5, 6, 7, 8, 9, 10, 11, 12, 13, 14, 15, 16, 17, 18, 19, 20, 21, 23, 24, 25, 26, 27, 28, 29, 30]
theorem recs_eq : recsOf view = recIdx.map recAt := by kernel_rfl
theorem recIdx_mem : ∀ k, k < 31 → isDef k = true → k ∈ recIdx := by decide +kernel
theorem rec_mem {k : Nat} (hk : k < 31) (h : isDef k = true) : recAt k ∈ recsOf view := by rw [recs_eq]; exact List.mem_map_of_mem (recIdx_mem k hk h)
section
variable {fd : FuncData} {names : List Str}
theorem bind_1 (hn : names.length = 1) (h : ∀ a : Value, bindArgs fd ⟨[a], []⟩ = pure (names.zip [a])) : ∀ vals : List Value, vals.length = names.length → bindArgs fd ⟨vals, []⟩ = pure (names.zip vals) := by
  intro vals hv
  rw [hn] at hv
  match vals, hv with
  | [a], _ => exact h a
theorem bind_2 (hn : names.length = 2) (h : ∀ a b : Value, bindArgs fd ⟨[a, b], []⟩ = pure (names.zip [a, b])) : ∀ vals : List Value, vals.length = names.length → bindArgs fd ⟨vals, []⟩ = pure (names.zip vals) := by
  intro vals hv
  rw [hn] at hv
  match vals, hv with
  | [a, b], _ => exact h a b
theorem bind_3 (hn : names.length = 3) (h : ∀ a b c : Value, bindArgs fd ⟨[a, b, c], []⟩ = pure (names.zip [a, b, c])) : ∀ vals : List Value, vals.length = names.length → bindArgs fd ⟨vals, []⟩ = pure (names.zip vals) := by
  intro vals hv
  rw [hn] at hv
  match vals, hv with
  | [a, b, c], _ => exact h a b c
theorem bind_5 (hn : names.length = 5) (h : ∀ a b c d e : Value, bindArgs fd ⟨[a, b, c, d, e], []⟩ = pure (names.zip [a, b, c, d, e])) : ∀ vals : List Value, vals.length = names.length → bindArgs fd ⟨vals, []⟩ = pure (names.zip vals) := by
  intro vals hv
  rw [hn] at hv
  match vals, hv with
  | [a, b, c, d, e], _ => exact h a b c d e
theorem bind_7 (hn : names.length = 7) (h : ∀ a b c d e f g : Value, bindArgs fd ⟨[a, b, c, d, e, f, g], []⟩ = pure (names.zip [a, b, c, d, e, f, g])) : ∀ vals : List Value, vals.length = names.length → bindArgs fd ⟨vals, []⟩ = pure (names.zip vals) := by
  intro vals hv
  rw [hn] at hv
  match vals, hv with
  | [a, b, c, d, e, f, g], _ => exact h a b c d e f g
end
/-- a call's values are bound to the parameters' names, one by one -/
def Binds (k : Nat) : Prop := ∀ pm code doc (vals : List Value), vals.length = (fnArgs k).length → bindArgs (docDef (recAt k).name (recAt k).params (recAt k).body (recAt k).scope pm code doc) ⟨vals, []⟩ = pure ((fnArgs k).zip vals)
theorem hb_1 : Binds 1 := fun _ _ _ => bind_2 rfl fun _ _ => rfl
theorem hb_2 : Binds 2 := fun _ _ _ => bind_3 rfl fun _ _ _ => rfl
theorem hb_3 : Binds 3 := fun _ _ _ => bind_1 rfl fun _ => rfl
theorem hb_4 : Binds 4 := fun _ _ _ => bind_1 rfl fun _ => rfl
theorem hb_5 : Binds 5 := fun _ _ _ => bind_1 rfl fun _ => rfl
theorem hb_6 : Binds 6 := fun _ _ _ => bind_1 rfl fun _ => rfl
theorem hb_7 : Binds 7 := fun _ _ _ => bind_2 rfl fun _ _ => rfl
theorem hb_8 : Binds 8 := fun _ _ _ => bind_2 rfl fun _ _ => rfl
theorem hb_9 : Binds 9 := fun _ _ _ => bind_1 rfl fun _ => rfl
theorem hb_10 : Binds 10 := fun _ _ _ => bind_2 rfl fun _ _ => rfl
theorem hb_11 : Binds 11 := fun _ _ _ => bind_2 rfl fun _ _ => rfl
theorem hb_12 : Binds 12 := fun _ _ _ => bind_2 rfl fun _ _ => rfl
theorem hb_13 : Binds 13 := fun _ _ _ => bind_2 rfl fun _ _ => rfl
theorem hb_14 : Binds 14 := fun _ _ _ => bind_2 rfl fun _ _ => rfl
theorem hb_15 : Binds 15 := fun _ _ _ => bind_2 rfl fun _ _ => rfl
theorem hb_16 : Binds 16 := fun _ _ _ => bind_2 rfl fun _ _ => rfl
theorem hb_17 : Binds 17 := fun _ _ _ => bind_2 rfl fun _ _ => rfl
theorem hb_18 : Binds 18 := fun _ _ _ => bind_1 rfl fun _ => rfl
theorem hb_19 : Binds 19 := fun _ _ _ => bind_1 rfl fun _ => rfl
theorem hb_20 : Binds 20 := fun _ _ _ => bind_2 rfl fun _ _ => rfl
theorem hb_21 : Binds 21 := fun _ _ _ => bind_2 rfl fun _ _ => rfl
theorem hb_23 : Binds 23 := fun _ _ _ => bind_2 rfl fun _ _ => rfl
theorem hb_24 : Binds 24 := fun _ _ _ => bind_1 rfl fun _ => rfl
theorem hb_25 : Binds 25 := fun _ _ _ => bind_1 rfl fun _ => rfl
theorem hb_26 : Binds 26 := fun _ _ _ => bind_2 rfl fun _ _ => rfl
theorem hb_27 : Binds 27 := fun _ _ _ => bind_7 rfl fun _ _ _ _ _ _ _ => rfl
theorem hb_28 : Binds 28 := fun _ _ _ => bind_5 rfl fun _ _ _ _ _ => rfl
theorem hb_29 : Binds 29 := fun _ _ _ => bind_3 rfl fun _ _ _ => rfl
theorem hb_30 : Binds 30 := fun _ _ _ => bind_1 rfl fun _ => rfl
theorem hb_all : ∀ k, k < 31 → isDef k = true → Binds k
  | 0, _, h => absurd h (by decide)
  | 1, _, _ => hb_1
  | 2, _, _ => hb_2
  | 3, _, _ => hb_3
  | 4, _, _ => hb_4
  | 5, _, _ => hb_5
  | 6, _, _ => hb_6
  | 7, _, _ => hb_7
  | 8, _, _ => hb_8
  | 9, _, _ => hb_9
  | 10, _, _ => hb_10
  | 11, _, _ => hb_11
  | 12, _, _ => hb_12
  | 13, _, _ => hb_13
  | 14, _, _ => hb_14
  | 15, _, _ => hb_15
  | 16, _, _ => hb_16
  | 17, _, _ => hb_17
  | 18, _, _ => hb_18
  | 19, _, _ => hb_19
  | 20, _, _ => hb_20
  | 21, _, _ => hb_21
  | 22, _, h => absurd h (by decide)
  | 23, _, _ => hb_23
  | 24, _, _ => hb_24
  | 25, _, _ => hb_25
  | 26, _, _ => hb_26
  | 27, _, _ => hb_27
  | 28, _, _ => hb_28
  | 29, _, _ => hb_29
  | 30, _, _ => hb_30
section
variable {C : Cx} {loose : List Str} {mean : ExcName → Option Value}
theorem fnOk_of (T : Top view loose mean C.mg C.mb C.B) {k : Nat} (hk : k < 31) (h : isDef k = true) : ∃ a, C.mg (fnName k) = some (.ref a) ∧ ∃ o fd, FnOk C a (fnArgs k) (fnBody k) (fnScope k) o fd := by
  obtain ⟨a, o, pm, code, doc, m1, m2, m3, m4⟩ := T.fn _ (rec_mem hk h)
  obtain ⟨h1, h2, h3, _⟩ := recAt_ok h
  rw [h1] at m1
  exact ⟨a, m1, o, _, m2, m3, congrArg FuncBody.stmts h2, h3, rfl, rfl, rfl, m4, hb_all k hk h pm code doc⟩
theorem env0_of (T : Top view (looseW view []) mean C.mg C.mb C.B) : ∃ f, Env0 C f := by
  have hf : ∀ k, ∃ a : Addr, k < 31 → isDef k = true → C.mg (fnName k) = some (.ref a) ∧ ∃ o fd, FnOk C a (fnArgs k) (fnBody k) (fnScope k) o fd := fun k => by
    by_cases hk : k < 31
    · by_cases hd : isDef k = true
      · obtain ⟨a, h⟩ := fnOk_of T hk hd
        exact ⟨a, fun _ _ => h⟩
      · exact ⟨0, fun _ h => absurd h hd⟩
    · exact ⟨0, fun h => absurd h hk⟩
  obtain ⟨f, hf⟩ := Classical.skolem.mp hf
  refine ⟨f, fun k hk h => (hf k hk h).2, fun k hk h => (hf k hk h).1, fun p hp => ?_⟩
  have h1 : ∀ p ∈ biNames, p.1 ∉ startupNames ∧ p.1 ∉ looseW view [] ∧ p.1 ∉ (recsOf view).map (·.name) ∧ p.1 ∉ (litsOf view).map (·.1) ∧ p.1 ∉ (clssOf view (looseW view [])).map (·.name) ∧ p.1 ≠ "__name__" := by decide +kernel
  obtain ⟨a, b, c, d, e, g⟩ := h1 p hp
  have h2 : bootBuiltins p.1 = some p.2 := by
    simp only [biNames, List.mem_cons, List.not_mem_nil, or_false] at hp
    rcases hp with rfl | rfl | rfl | rfl | rfl | rfl | rfl | rfl | rfl <;> decide +kernel
  exact ⟨T.free p.1 a b c d e, (C.builtins p.1 g).trans h2⟩
end
end
theorem law_call {C : Cx} {f : Nat → Addr} (H : Env0 C f) {ns : List Int} (hn : ns.length ≤ 1000) (n : Nat) : ACall C (n + 7) (.ref (f 30)) [.lst (nums ns)] Store.nil fun d _ => d = .bool true := by
  obtain ⟨o, fd, F⟩ := H.fn 30 (by decide) rfl
  refine ACall_def F ?_
  show AX C (fnScope 30) (n + 6) (fnBody 30) (put lo0 (Str.ofString "script") (.lst (nums ns))) Store.nil _
  refine (b_law H hn).mono ?_
  rintro fl lo st rfl
  rfl
def cxOf {p : Program} {loose : List Str} {mean : ExcName → Option Value} {mg mb : Str → Option Value} {h : Heap} (T : Top p loose mean mg mb h) (prog : Program) (w : World) : Cx :=
  ⟨prog, w, h, mg, mb, T.g, T.b, T.builtins, T.nolimit⟩
theorem room_caller : Room 7 callerA := ⟨rfl, by decide, by decide⟩
theorem stc_nil {B : Heap} : StC B B Store.nil := ⟨fun _ _ e => e, fun _ _ e => (by cases e), fun _ _ e => (by cases e)⟩
theorem good_of {C : Cx} {c : ClaimW} {cl : Str → Option Addr} {mean : ExcName → Option Value} {args : List WData} {s s' : Shared} {v : Value} (p : PC C Store.nil s (fun d _ => d = .bool true) v s') (hg : s.gens = #[])
    (hn : ∀ cls, c.raises args cls = false) (hp : c.post args (.bool true) args = true) : GoodWG c cl mean args s (.ok (.ret v)) s' := by
  obtain ⟨d, st', rfl, hr, hS, hx, h, tk, rfl⟩ := p
  cases hr
  exact GoodW.toG ⟨.inl ⟨_, _, [], rfl, hn, .bool true, hp, unshared_nil⟩, fun b o e => (hx b o rfl e).1, rfl, hg⟩
end Mine
set_option maxRecDepth 100000 in
set_option maxHeartbeats 8000000 in
theorem PySem.Challenge.cw_no0303_01_holds : PySem.Challenge.rw_no0303_01.Holds := by
  w_on
  o_law
  refine holds_open (q := Mine.view) (loose := []) (Xt := fun _ => true) (XP := fun _ _ => True) (Yf := fun _ => ()) (Ya := fun _ => ()) (YP := fun _ _ => True) (N := 1914) Mine.left
    (fun _ _ _ => trivial) (fun _ _ _ _ _ => trivial) (fun _ _ => trivial) (fun _ _ _ _ _ => trivial) (by rfl) (by rfl) (by rfl) (fun s _ => recFacts_of rfl) (by rfl) (by first | assumption | decide +kernel) (by decide +kernel)
    ⟨rfl, rfl, rfl, rfl, rfl, by decide +kernel⟩ ?hw ?hc
  case hw => w_witness2
  intro w s₀ s₁ mg mb G Y fa o pm cd doc dV kV ho hd hcd hD hmg hg args vals as hpre hlay hrd hwl hlo
  refine Ground.open G ?_
  intro T B D TE TW
  wrow_args hpre hlay hrd hwl hlo
  rename Heap.IsList _ _ _ => hL
  rename IntsAre _ _ => hI
  rename ¬ ((_ : Int) < _) => hlen
  obtain ⟨f, H⟩ := Mine.env0_of (C := Mine.cxOf T PySem.Challenge.rw_no0303_01.row.prog w) T
  have e : f 30 = fa := by
    have h1 := H.nm 30 (by decide) rfl
    have h2 := h1.symm.trans hmg
    cases h2; rfl
  subst e
  refine wpAny_mono (Mine.law_call H (by omega) 0 callerA s₁ [_] Mine.room_caller Mine.stc_nil (.cons (.lst hL rfl (Mine.intsRep hI)) .nil)) (fun v s' p => ?_) fun _ _ f => f.elim
  refine Mine.good_of p hg ?_ ?_
  · exact raisesW_false (by wrow_none_raised)
  · exact postW_of (by wrow_shape) (by wtm_val) (by rfl)
