/- The engine (LxA): a run of logical values that the kernel evaluates, and why what it says is so. No conditions. -/
import Derived.Calls
import Derived.WalkKit
import Derived.Laws.MakeOwn
set_option linter.unusedSectionVars false
set_option linter.unusedSimpArgs false
set_option linter.unusedVariables false
set_option linter.constructorNameAsVariable false
/- The engine, part 1: logical values, logical heaps, and what they say of the model's world. -/
namespace Lx
open Go Go.RowKit

inductive LV where
  | any
  | b (x : Bool)
  | i (k : IntKind) (n : Int)
  | s (x : ByteArray)
  | np
  | p (id sub sz row col : Nat)
  | ns
  | sl (id sub sz lo len : Nat)
  | nm
  | m (id : Nat)
  | nc
  | c (id : Nat)
  | nf
  | f (fn : Fn) (first cap : List LV)
  | y (id : Nat)
  | q (v : Value)
  /-- a value of one cell that is known by a number alone; of its length is known whether it is more than some -/
  | t (j k : Nat) (tab : List (Nat × Bool))
  /-- the length of such a one -/
  | tl (j k : Nat) (tab : List (Nat × Bool))
  | agg (l : List LV)
  | tup (l : List LV)
  deriving Inhabited

def LV.cells : LV → List LV
  | .agg x1 => x1
  | .any => [.any]
  | .b x1 => [.b x1]
  | .i x1 x2 => [.i x1 x2]
  | .s x1 => [.s x1]
  | .np => [.np]
  | .p x1 x2 x3 x4 x5 => [.p x1 x2 x3 x4 x5]
  | .ns => [.ns]
  | .sl x1 x2 x3 x4 x5 => [.sl x1 x2 x3 x4 x5]
  | .nm => [.nm]
  | .m x1 => [.m x1]
  | .nc => [.nc]
  | .c x1 => [.c x1]
  | .nf => [.nf]
  | .f x1 x2 x3 => [.f x1 x2 x3]
  | .y x1 => [.y x1]
  | .q x1 => [.q x1]
  | .t x1 x2 x3 => [.t x1 x2 x3]
  | .tl x1 x2 x3 => [.tl x1 x2 x3]
  | .tup _ => []

/-- one cell, and known to be so -/
def LV.one : LV → Bool
  | .any | .agg _ | .tup _ => false
  | _ => true

/-- one cell that leads to no memory -/
def LV.pure : LV → Bool
  | .q _ | .b _ | .i _ _ | .s _ | .np | .nm | .nc | .nf => true
  | _ => false

/-- a value, and what must hold for it to be so -/
structure PX (α : Type) where
  fst : Prop
  snd : α
  dec : Decidable fst := by infer_instance
abbrev PV := PX LV
abbrev pv {α : Type} (p : Prop) (v : α) [d : Decidable p] : PX α := { fst := p, snd := v, dec := d }
instance {α : Type} (x : PX α) : Decidable x.fst := x.dec
/-- a statement that can be decided -/
structure DP where
  p : Prop
  dec : Decidable p := by infer_instance
instance (x : DP) : Decidable x.p := x.dec

structure EI where
  blk : Nat → Nat
  room : Nat → Nat
  val : Value := .nilFunc
def lenV : Nat → Value → Option Nat
  | 1, .string s => some s.size
  | 2, .slice _ n _ => some n
  | _, _ => none

abbrev Env := Nat → Option EI
def Ext (E E' : Env) : Prop := ∀ id e, E id = some e → E' id = some e
theorem Ext.refl (E : Env) : Ext E E := fun _ _ h => h
theorem Ext.trans {A B C : Env} (h : Ext A B) (k : Ext B C) : Ext A C := fun i e x => k i e (h i e x)
def Env.put (E : Env) (id : Nat) (e : EI) : Env := fun k => if k = id then some e else E k
theorem Ext.put {E : Env} {id : Nat} {e : EI} (h : E id = none) : Ext E (E.put id e) := by
  intro k x hk
  unfold Env.put
  split
  · subst_vars; rw [h] at hk; cases hk
  · exact hk
/-- nothing below n turns -/
def Grow (n : Nat) (E E' : Env) : Prop := (∀ id, id < n → E' id = E id) ∧ Ext E E'
theorem Grow.refl (n : Nat) (E : Env) : Grow n E E := ⟨fun _ _ => rfl, Ext.refl E⟩
theorem Grow.put {E : Env} {n : Nat} {e : EI} (h : E n = none) : Grow n E (E.put n e) := ⟨fun id hid => by unfold Env.put; rw [if_neg (by omega)], Ext.put h⟩
theorem Grow.trans {n m : Nat} {A B C : Env} (h : Grow n A B) (k : Grow m B C) (hnm : n ≤ m) : Grow n A C := ⟨fun id hid => (k.1 id (by omega)).trans (h.1 id hid), h.2.trans k.2⟩
theorem Env.put_same (E : Env) (id : Nat) (e : EI) : E.put id e id = some e := if_pos rfl

mutual
inductive VR (E : Env) : LV → Value → Prop
  | any {v} : VR E .any v
  | b {x} : VR E (.b x) (.bool x)
  | i {k n} : VR E (.i k n) (.int k n)
  | s {x} : VR E (.s x) (.string x)
  | np : VR E .np (.pointer none)
  | p {id sub sz row col e} : E id = some e → VR E (.p id sub sz row col) (.pointer (some ⟨e.blk sub, row * sz + col, none⟩))
  | ns : VR E .ns (.slice none 0 0)
  | sl {id sub sz lo len e a cap} : E id = some e → len ≤ cap → (0 < cap → a = some ⟨e.blk sub, lo * sz, none⟩ ∧ (lo + cap) * sz ≤ e.room sub) → VR E (.sl id sub sz lo len) (.slice a len cap)
  | nm : VR E .nm (.map none)
  | m {id e} : E id = some e → VR E (.m id) (.map (some (e.blk 0)))
  | nc : VR E .nc (.chan none)
  | c {id e} : E id = some e → VR E (.c id) (.chan (some (e.blk 0)))
  | nf : VR E .nf .nilFunc
  | f {fn first cap vs ws} : VRs E first vs → VRs E cap ws → VR E (.f fn first cap) (.func fn vs.toArray ws.toArray)
  | y {id e} : E id = some e → VR E (.y id) (.func (.yield (e.blk 0)) #[] #[])
  | q {v} : v.oneCell' = true → VR E (.q v) v
  | t {j k tab e v} : E j = some e → e.val = v → v.oneCell' = true → (∀ p ∈ tab, ∃ n, lenV k v = some n ∧ decide (p.1 < n) = p.2) → VR E (.t j k tab) v
  | tl {j k tab e n} : E j = some e → lenV k e.val = some n → (∀ p ∈ tab, decide (p.1 < n) = p.2) → VR E (.tl j k tab) (.int .i64 n)
  | agg {l vs} : VRs E l vs → VR E (.agg l) (.agg vs.toArray)
  | tup {l vs} : VRs E l vs → VR E (.tup l) (.tuple vs.toArray)
inductive VRs (E : Env) : List LV → List Value → Prop
  | nil : VRs E [] []
  | cons {x v l vs} : VR E x v → VRs E l vs → VRs E (x :: l) (v :: vs)
end

mutual
theorem VR.ext {E E' : Env} (h : Ext E E') : ∀ {x v}, VR E x v → VR E' x v
  | _, _, .any => .any
  | _, _, .b => .b
  | _, _, .i => .i
  | _, _, .s => .s
  | _, _, .np => .np
  | _, _, .p e => .p (h _ _ e)
  | _, _, .ns => .ns
  | _, _, .sl e a b => .sl (h _ _ e) a b
  | _, _, .nm => .nm
  | _, _, .m e => .m (h _ _ e)
  | _, _, .nc => .nc
  | _, _, .c e => .c (h _ _ e)
  | _, _, .nf => .nf
  | _, _, .f a b => .f (VRs.ext h a) (VRs.ext h b)
  | _, _, .y e => .y (h _ _ e)
  | _, _, .q e => .q e
  | _, _, .t e a b c => .t (h _ _ e) a b c
  | _, _, .tl e a b => .tl (h _ _ e) a b
  | _, _, .agg a => .agg (VRs.ext h a)
  | _, _, .tup a => .tup (VRs.ext h a)
theorem VRs.ext {E E' : Env} (h : Ext E E') : ∀ {l vs}, VRs E l vs → VRs E' l vs
  | _, _, .nil => .nil
  | _, _, .cons a b => .cons (VR.ext h a) (VRs.ext h b)
end

section
variable {E : Env}
theorem VRs.length {l vs} (h : VRs E l vs) : l.length = vs.length := by
  induction l generalizing vs with
  | nil => cases h; rfl
  | cons x l ih => cases h with | cons _ t => simp [ih t]
theorem VRs.get {l vs} (h : VRs E l vs) : ∀ (i : Nat) x, l[i]? = some x → ∃ v, vs[i]? = some v ∧ VR E x v := by
  induction l generalizing vs with
  | nil => intro i x hx; simp at hx
  | cons y l ih =>
    cases h with
    | cons a t =>
      intro i x hx
      cases i with
      | zero => simp at hx; subst hx; exact ⟨_, rfl, a⟩
      | succ i => simpa using ih t i x (by simpa using hx)
theorem VRs.drop {l vs} (h : VRs E l vs) : ∀ n, VRs E (l.drop n) (vs.drop n) := by
  induction l generalizing vs with
  | nil => intro n; cases h; simp; exact .nil
  | cons y l ih =>
    cases h with
    | cons a t =>
      intro n
      cases n with
      | zero => exact .cons a t
      | succ n => exact ih t n
theorem VRs.take {l vs} (h : VRs E l vs) : ∀ n, VRs E (l.take n) (vs.take n) := by
  induction l generalizing vs with
  | nil => intro n; cases h; simp; exact .nil
  | cons y l ih =>
    cases h with
    | cons a t =>
      intro n
      cases n with
      | zero => exact .nil
      | succ n => exact .cons a (ih t n)
theorem VRs.append {l l' vs vs'} (h : VRs E l vs) (h' : VRs E l' vs') : VRs E (l ++ l') (vs ++ vs') := by
  induction l generalizing vs with
  | nil => cases h; exact h'
  | cons y l ih => cases h with | cons a t => exact .cons a (ih t)
theorem VRs.of_get {l : List LV} {vs : List Value} (hl : l.length = vs.length) (h : ∀ (i : Nat) x v, l[i]? = some x → vs[i]? = some v → VR E x v) : VRs E l vs := by
  induction l generalizing vs with
  | nil => cases vs with | nil => exact .nil | cons => simp at hl
  | cons y l ih =>
    cases vs with
    | nil => simp at hl
    | cons v vs => exact .cons (h 0 _ _ rfl rfl) (ih (by simpa using hl) fun i x v hx hv => h (i + 1) x v (by simpa using hx) (by simpa using hv))
theorem VR.cells {x : LV} {v : Value} (h : VR E x v) (hx : x ≠ .any) (ht : ∀ l, x ≠ .tup l) : VRs E x.cells v.cells.toList := by
  cases h
  case any => exact absurd rfl hx
  case tup => exact absurd rfl (ht _)
  case agg h => simpa [Value.cells, LV.cells] using h
  case q h => cases v <;> first | exact .cons (.q h) .nil | (simp [Value.oneCell'] at h)
  case t a b c d => cases v <;> first | exact .cons (.t a b c d) .nil | (simp [Value.oneCell'] at c)
  all_goals (simp only [Value.cells, LV.cells]; refine .cons ?_ .nil)
  case b => exact .b
  case i => exact .i
  case s => exact .s
  case np => exact .np
  case p h => exact .p h
  case ns => exact .ns
  case sl a b c => exact .sl a b c
  case nm => exact .nm
  case m h => exact .m h
  case nc => exact .nc
  case c h => exact .c h
  case nf => exact .nf
  case f a b => exact .f a b
  case y h => exact .y h
  case tl a b c => exact .tl a b c
end

/-- no value of one cell only if it is one -/
theorem LV.pure_one {x : LV} (h : x.pure = true) : x.one = true := by cases x <;> first | rfl | (simp [LV.pure] at h)
theorem VR.pure {E E' : Env} {x : LV} {v : Value} (h : VR E x v) (hx : x.pure = true) : VR E' x v := by
  cases h
  case b => exact .b
  case i => exact .i
  case s => exact .s
  case np => exact .np
  case nm => exact .nm
  case nc => exact .nc
  case nf => exact .nf
  case q h => exact .q h
  all_goals simp [LV.pure] at hx
theorem VRs.pure {E E' : Env} {l : List LV} {vs : List Value} (h : VRs E l vs) (hx : ∀ x ∈ l, x.pure = true) : VRs E' l vs := by
  induction l generalizing vs with
  | nil => cases h; exact .nil
  | cons y l ih => cases h with | cons a t => exact .cons (a.pure (hx y (by simp))) (ih t fun x h => hx x (by simp [h]))
theorem VR.isOne {E : Env} {x : LV} {v : Value} (h : VR E x v) (hx : x.one = true) : v.oneCell' = true := by
  cases h <;> first | rfl | assumption | (simp [LV.one] at hx)

/-- a loop over a function -/
structure Lp where
  st : LoopState
  pend : Option Code
  env : List (Nat × LV)
  nt : Nat
  ps : Array Tmp
  assign : Code
  body : Code
  df : Nat

inductive LObj (M : Type) where
  | st (t : TypeId) (r : List LV)
  | o (m : M)
  | mp (es : List (LV × LV))
  | lp (l : Lp)
  | df
  /-- a channel: its room, what is in it -/
  | ch (cap : Nat) (vs : List LV)

inductive View (M : Type) where
  | arr (sz : Nat) (ll : List (List LV))
  | lay (objs : List (LObj M))

class Mdl (M : Type) where
  view : M → View M
  isArr : M → Bool
  sz : M → Nat
  len : M → Nat
  row : M → Nat → List LV
  set : M → Nat → List LV → Option M
  /-- a piece of an array, behind another one -/
  cat : M → M → Nat → Nat → Option M
  cut : M → Nat → Nat → M
  make : TypeId → List (List LV) → Option M
  wf : ∀ {m s ll}, view m = .arr s ll → 0 < s ∧ sz m = s ∧ len m = ll.length ∧ ∀ r ∈ ll, r.length = s ∧ ∀ x ∈ r, x.one = true
  row_ok : ∀ {m s ll i}, view m = .arr s ll → i < ll.length → ll[i]? = some (row m i)
  set_ok : ∀ {m s ll i r m'}, view m = .arr s ll → set m i r = some m' → view m' = .arr s (ll.set i r)
  cat_ok : ∀ {m s ll m2 s2 ll2 lo n m'}, view m = .arr s ll → view m2 = .arr s2 ll2 → lo + n ≤ ll2.length → cat m m2 lo n = some m' → s2 = s ∧ view m' = .arr s (ll ++ (ll2.drop lo).take n)
  cut_ok : ∀ {m s ll lo n}, view m = .arr s ll → view (cut m lo n) = .arr s ((ll.drop lo).take n)
  make_ok : ∀ {t rs m}, make t rs = some m → ∃ s, view m = .arr s rs
  isArr_ok : ∀ {m}, isArr m = true → ∃ s ll, view m = .arr s ll
  lay_len : ∀ {m objs}, view m = .lay objs → len m = 0

def E0 : Env := fun _ => none

/-- All owned blocks of the objects 0 .. n-1 are apart. -/
def Apart (own : Nat → List Nat) (live : Nat → Prop) : Prop := ∀ i j, live i → live j → i ≠ j → ∀ b, b ∈ own i → b ∉ own j

def aget : List (Nat × LV) → Nat → LV
  | [], _ => .any
  | (k, x) :: r, n => bif Nat.beq k n then x else aget r n
/-- temporaries -/
def TR (E : Env) (env : List (Nat × LV)) (nt : Nat) (tmps : Array Value) : Prop :=
  tmps.size = nt ∧ ∀ t, aget env t = .any ∨ ∃ v, tmps[t]? = some v ∧ VR E (aget env t) v
theorem TR.ext {E E' : Env} (h : Ext E E') {env : List (Nat × LV)} {nt : Nat} {tmps : Array Value} (k : TR E env nt tmps) : TR E' env nt tmps :=
  ⟨k.1, fun t => (k.2 t).imp id fun ⟨v, h1, h2⟩ => ⟨v, h1, h2.ext h⟩⟩

section
variable {M : Type} [Mdl M]
inductive OR : Env → EI → LObj M → World → List Nat → Prop
  | st {E e t r w vs} : w.heap[e.blk 0]? = some (.cells vs t (0, 0)) → VRs E r vs.toList → (∀ x ∈ r, x.one = true) → e.room 0 = vs.size →
      OR E e (.st t r) w [e.blk 0]
  | arr {E e m t sz ll w vs} : Mdl.view m = .arr sz ll → w.heap[e.blk 0]? = some (.cells vs t (0, 0)) →
      ll.length * sz ≤ vs.size → VRs E ll.flatten (vs.toList.take (ll.length * sz)) → e.room 0 = vs.size → OR E e (.o m) w [e.blk 0]
  | arrNil {E e m sz w} : Mdl.view m = .arr sz [] → e.room 0 = 0 → OR E e (.o m) w []
  | mp {E e es w} {ms : Array MapEntry} {clock : Nat} : w.heap[e.blk 0]? = some (.map ms clock) → ms.size = es.length →
      (∀ (i : Nat) k v u, es[i]? = some (k, v) → ms[i]? = some u → VR E k u.key ∧ VR E v u.val) → OR E e (.mp es) w [e.blk 0]
  | lp {E e l w} {L : Loop} {ed : EI} : w.heap[e.blk 0]? = some (.loop L) → L.state = l.st → L.pending = l.pend → TR E l.env l.nt L.tmps → L.params = l.ps → L.assign = l.assign → L.body = l.body →
      E l.df = some ed → L.defers = ed.blk 0 → OR E e (.lp l) w [e.blk 0]
  | ch {E e cap vs w} {buf : Array Value} {sent rcvd : Nat} : w.heap[e.blk 0]? = some (.chan cap buf false sent rcvd false) → VRs E vs buf.toList → OR E e (.ch cap vs) w [e.blk 0]
  | df {E e w} : w.heap[e.blk 0]? = some (.deferred (some [])) → OR E e .df w [e.blk 0]
  | lay {E e m objs w} (E' : Env) (es : Nat → EI) (own : Nat → List Nat) : Mdl.view m = .lay objs → (∀ j e', E' j = some e' → j < objs.length) → e.blk 0 = (es 0).blk 0 →
      (∀ j o, objs[j]? = some o → E' j = some (es j)) → (∀ j o, objs[j]? = some o → OR E' (es j) o w (own j)) → Apart own (· < objs.length) →
      OR E e (.o m) w ((List.range objs.length).flatMap own)
end

end Lx

/- The engine, part 2: what is kept; the relation between a logical heap and a world. -/
namespace Lx
open Go Go.RowKit

section
variable {M : Type} [Mdl M]

theorem OR.ext {E E' : Env} (hE : Ext E E') {e : EI} {o : LObj M} {w : World} {own : List Nat} (h : OR E e o w own) : OR E' e o w own := by
  cases h with
  | st a c d f => exact .st a (c.ext hE) d f
  | arr a b c d f => exact .arr a b c (d.ext hE) f
  | arrNil a b => exact .arrNil a b
  | mp a b c => exact .mp a b fun i k v u h1 h2 => ⟨(c i k v u h1 h2).1.ext hE, (c i k v u h1 h2).2.ext hE⟩
  | lp a b c d f g k l m => exact .lp a b c (d.ext hE) f g k (hE _ _ l) m
  | df a => exact .df a
  | ch a b => exact .ch a (b.ext hE)
  | lay E1 es own a b c d f g => exact .lay E1 es own a b c d f g

theorem OR.world {w w' : World} {E : Env} {e : EI} {o : LObj M} {own : List Nat} (h : OR E e o w own) : (∀ b ∈ own, w'.heap[b]? = w.heap[b]?) → OR E e o w' own := by
  induction h with
  | st a c d f => intro hw; exact .st ((hw _ (by simp)).trans a) c d f
  | arr a b c d f => intro hw; exact .arr a ((hw _ (by simp)).trans b) c d f
  | arrNil a b => intro _; exact .arrNil a b
  | mp a b c => intro hw; exact .mp ((hw _ (by simp)).trans a) b c
  | lp a b c d f g k l m => intro hw; exact .lp ((hw _ (by simp)).trans a) b c d f g k l m
  | df a => intro hw; exact .df ((hw _ (by simp)).trans a)
  | ch a b => intro hw; exact .ch ((hw _ (by simp)).trans a) b
  | lay E1 es own a b c d f g ih =>
    intro hw
    refine .lay E1 es own a b c d (fun j o hj => ih j o hj fun b hb => hw b ?_) g
    have hlt : j < _ := (List.getElem?_eq_some_iff.1 hj).1
    exact List.mem_flatMap.2 ⟨j, List.mem_range.2 hlt, hb⟩

theorem OR.lt {w : World} {E : Env} {e : EI} {o : LObj M} {own : List Nat} (h : OR E e o w own) : ∀ b ∈ own, b < w.heap.size := by
  induction h with
  | st a _ _ _ => intro b hb; simp at hb; subst hb; exact (Array.getElem?_eq_some_iff.1 a).1
  | arr _ a _ _ _ => intro b hb; simp at hb; subst hb; exact (Array.getElem?_eq_some_iff.1 a).1
  | arrNil _ _ => intro b hb; simp at hb
  | mp a _ _ => intro b hb; simp at hb; subst hb; exact (Array.getElem?_eq_some_iff.1 a).1
  | lp a _ _ _ _ _ _ _ _ => intro b hb; simp at hb; subst hb; exact (Array.getElem?_eq_some_iff.1 a).1
  | df a => intro b hb; simp at hb; subst hb; exact (Array.getElem?_eq_some_iff.1 a).1
  | ch a _ => intro b hb; simp at hb; subst hb; exact (Array.getElem?_eq_some_iff.1 a).1
  | lay E1 es own a b c d f g ih =>
    intro x hx
    obtain ⟨j, hj, hx⟩ := List.mem_flatMap.1 hx
    have hlt := List.mem_range.1 hj
    exact ih j _ (List.getElem?_eq_getElem hlt) x hx

/-! logical heaps as lists -/
def hget : List (Nat × LObj M) → Nat → Option (LObj M)
  | [], _ => none
  | (k, o) :: r, n => bif k == n then some o else hget r n
def hset : List (Nat × LObj M) → Nat → LObj M → List (Nat × LObj M)
  | [], n, o => [(n, o)]
  | (k, x) :: r, n, o => bif k == n then (n, o) :: r else (k, x) :: hset r n o
def hdel : List (Nat × LObj M) → Nat → List (Nat × LObj M)
  | [], _ => []
  | (k, x) :: r, n => bif k == n then hdel r n else (k, x) :: hdel r n

omit [Mdl M] in
theorem hget_hset (h : List (Nat × LObj M)) (n : Nat) (o : LObj M) (k : Nat) : hget (hset h n o) k = if k = n then some o else hget h k := by
  induction h with
  | nil =>
    simp only [hset, hget]
    by_cases hk : k = n
    · subst hk; simp
    · rw [if_neg hk, show (n == k) = false from by simp; omega]; rfl
  | cons x r ih =>
    obtain ⟨a, x⟩ := x
    simp only [hset]
    by_cases ha : a = n
    · subst ha
      simp only [beq_self_eq_true, cond_true, hget]
      by_cases hk : k = a
      · subst hk; simp
      · rw [if_neg hk, show (a == k) = false from by simp; omega]; rfl
    · rw [show (a == n) = false from by simp; omega]
      simp only [cond_false, hget]
      by_cases hk : a = k
      · subst hk
        simp only [beq_self_eq_true, cond_true]
        rw [if_neg ha]
      · rw [show (a == k) = false from by simp; omega]
        simpa using ih

omit [Mdl M] in
theorem hget_hdel (h : List (Nat × LObj M)) (n : Nat) (k : Nat) : hget (hdel h n) k = if k = n then none else hget h k := by
  induction h with
  | nil => simp [hdel, hget]
  | cons x r ih =>
    obtain ⟨a, x⟩ := x
    simp only [hdel]
    by_cases ha : a = n
    · subst ha
      simp only [beq_self_eq_true, cond_true, hget]
      rw [ih]
      by_cases hk : k = a
      · subst hk; simp
      · rw [if_neg hk, if_neg hk, show (a == k) = false from by simp; omega]; rfl
    · rw [show (a == n) = false from by simp; omega]
      simp only [cond_false, hget]
      by_cases hk : a = k
      · subst hk
        simp only [beq_self_eq_true, cond_true]
        rw [if_neg ha]
      · rw [show (a == k) = false from by simp; omega]
        simpa using ih

/-- What a run from w0 on keeps: all blocks that are not B's. -/
structure Kept (B : Nat → Prop) (w0 w : World) : Prop where
  os : w.os = w0.os
  tape : w.tape = w0.tape
  output : w.output = w0.output
  size : w0.heap.size ≤ w.heap.size
  block : ∀ b, ¬ B b → w.heap[b]? = w0.heap[b]?

structure Inv (B : Nat → Prop) (w0 : World) (E : Env) (own : Nat → List Nat) (h : List (Nat × LObj M)) (nx : Nat) (w : World) : Prop where
  kept : Kept B w0 w
  new : ∀ b, w0.heap.size ≤ b → B b
  dom : ∀ id e, E id = some e → id < nx
  obj : ∀ id o, hget h id = some o → ∃ e, E id = some e ∧ OR E e o w (own id)
  disj : Apart own fun id => (hget h id).isSome
  may : ∀ id o, hget h id = some o → ∀ b ∈ own id, B b

variable {B : Nat → Prop} {w0 w w' : World} {E : Env} {own : Nat → List Nat} {h : List (Nat × LObj M)} {nx : Nat}

theorem Inv.fresh (I : Inv B w0 E own h nx w) : E nx = none := by
  cases hE : E nx with
  | none => rfl
  | some e => exact absurd (I.dom _ _ hE) (Nat.lt_irrefl _)

theorem Inv.lt (I : Inv B w0 E own h nx w) {id : Nat} {o : LObj M} (hid : hget h id = some o) : ∀ b ∈ own id, b < w.heap.size := by
  obtain ⟨e, _, hO⟩ := I.obj id o hid
  exact hO.lt

theorem Inv.liveLt (I : Inv B w0 E own h nx w) {id : Nat} {o : LObj M} (hid : hget h id = some o) : id < nx := by
  obtain ⟨e, he, _⟩ := I.obj id o hid
  exact I.dom _ _ he

/-- a change of the count of draws alone -/
theorem Inv.same (I : Inv B w0 E own h nx w) (hos : w'.os = w.os) (ht : w'.tape = w.tape) (ho : w'.output = w.output) (hh : w'.heap = w.heap) : Inv B w0 E own h nx w' :=
  ⟨⟨hos.trans I.kept.os, ht.trans I.kept.tape, ho.trans I.kept.output, by rw [hh]; exact I.kept.size, fun b hb => by rw [hh]; exact I.kept.block b hb⟩, I.new, I.dom,
    fun id o hid => let ⟨e, he, hO⟩ := I.obj id o hid; ⟨e, he, hO.world fun b _ => by rw [hh]⟩, I.disj, I.may⟩

/-- forgetting objects -/
theorem Inv.forget (I : Inv B w0 E own h nx w) {h' : List (Nat × LObj M)} (hh : ∀ id o, hget h' id = some o → hget h id = some o) : Inv B w0 E own h' nx w :=
  ⟨I.kept, I.new, I.dom, fun id o hid => I.obj id o (hh id o hid), fun i j hi hj => I.disj i j (by
      obtain ⟨o, ho⟩ := Option.isSome_iff_exists.1 hi; simp [hh _ _ ho]) (by
      obtain ⟨o, ho⟩ := Option.isSome_iff_exists.1 hj; simp [hh _ _ ho]), fun id o hid => I.may id o (hh id o hid)⟩

theorem Inv.del (I : Inv B w0 E own h nx w) (id : Nat) : Inv B w0 E own (hdel h id) nx w :=
  I.forget fun k o hk => by rw [hget_hdel] at hk; split at hk; · cases hk
                            · exact hk

theorem Inv.more (I : Inv B w0 E own h nx w) {n : Nat} (hn : nx ≤ n) : Inv B w0 E own h n w :=
  { I with dom := fun id e he => Nat.lt_of_lt_of_le (I.dom id e he) hn }

/-- An object's own blocks turn; nothing else does; new blocks may come. -/
theorem Inv.turn (I : Inv B w0 E own h nx w) {id : Nat} {o o' : LObj M} {e : EI} {ow : List Nat} (hid : hget h id = some o) (he : E id = some e)
    (hos : w'.os = w.os) (ht : w'.tape = w.tape) (ho : w'.output = w.output) (hsz : w.heap.size ≤ w'.heap.size)
    (hb : ∀ b, b < w.heap.size → b ∉ own id → w'.heap[b]? = w.heap[b]?) (hO : OR E e o' w' ow) (how : ∀ b ∈ ow, b ∈ own id ∨ w.heap.size ≤ b) :
    Inv B w0 E (fun k => if k = id then ow else own k) (hset h id o') nx w' := by
  have hlt0 : ∀ b, ¬ B b → b < w.heap.size := by
    intro b hB
    rcases Nat.lt_or_ge b w0.heap.size with hl | hl
    · exact Nat.lt_of_lt_of_le hl I.kept.size
    · exact absurd (I.new b hl) hB
  refine ⟨⟨hos.trans I.kept.os, ht.trans I.kept.tape, ho.trans I.kept.output, Nat.le_trans I.kept.size hsz, fun b hB => ?_⟩, I.new, I.dom, ?_, ?_, ?_⟩
  · rw [hb b (hlt0 b hB) fun hin => hB (I.may id o hid b hin)]
    exact I.kept.block b hB
  · intro k x hk
    rw [hget_hset] at hk
    by_cases hki : k = id
    · subst hki
      rw [if_pos rfl] at hk
      cases hk
      exact ⟨e, he, by rw [if_pos rfl]; exact hO⟩
    · rw [if_neg hki] at hk
      obtain ⟨e', he', hO'⟩ := I.obj k x hk
      refine ⟨e', he', ?_⟩
      rw [if_neg hki]
      exact hO'.world fun b hbk => hb b (I.lt hk b hbk) fun hin => I.disj k id (by simp [hk]) (by simp [hid]) hki b hbk hin
  · intro i j hi hj hij b hbi hbj
    rw [hget_hset] at hi hj
    by_cases hii : i = id
    · have hji : j ≠ id := fun h => hij (hii.trans h.symm)
      simp only [hii, if_true] at hbi
      simp only [hji, if_false] at hbj hj
      obtain ⟨x, hx⟩ := Option.isSome_iff_exists.1 hj
      rcases how b hbi with hin | hge
      · exact I.disj id j (by simp [hid]) hj (fun h => hji h.symm) b hin hbj
      · exact absurd (I.lt hx b hbj) (by omega)
    · simp only [hii, if_false] at hbi hi
      obtain ⟨x, hx⟩ := Option.isSome_iff_exists.1 hi
      by_cases hji : j = id
      · simp only [hji, if_true] at hbj
        rcases how b hbj with hin | hge
        · exact I.disj i id hi (by simp [hid]) hii b hbi hin
        · exact absurd (I.lt hx b hbi) (by omega)
      · simp only [hji, if_false] at hbj hj
        exact I.disj i j hi hj hij b hbi hbj
  · intro k x hk b hbk
    rw [hget_hset] at hk
    by_cases hki : k = id
    · simp only [hki, if_true] at hbk
      rcases how b hbk with hin | hge
      · exact I.may id o hid b hin
      · exact I.new b (Nat.le_trans I.kept.size hge)
    · simp only [hki, if_false] at hbk hk
      exact I.may k x hk b hbk

/-- A new object. -/
theorem Inv.fresh_obj (I : Inv B w0 E own h nx w) {o : LObj M} {e : EI} {ow : List Nat}
    (hos : w'.os = w.os) (ht : w'.tape = w.tape) (ho : w'.output = w.output) (hsz : w.heap.size ≤ w'.heap.size)
    (hb : ∀ b, b < w.heap.size → w'.heap[b]? = w.heap[b]?) (hO : OR (E.put nx e) e o w' ow) (how : ∀ b ∈ ow, w.heap.size ≤ b) :
    Inv B w0 (E.put nx e) (fun k => if k = nx then ow else own k) ((nx, o) :: h) (nx + 1) w' := by
  have hlt0 : ∀ b, ¬ B b → b < w.heap.size := by
    intro b hB
    rcases Nat.lt_or_ge b w0.heap.size with hl | hl
    · exact Nat.lt_of_lt_of_le hl I.kept.size
    · exact absurd (I.new b hl) hB
  have hget' : ∀ k, hget ((nx, o) :: h) k = if k = nx then some o else hget h k := by
    intro k
    simp only [hget]
    by_cases hk : k = nx
    · subst hk; simp
    · rw [if_neg hk, show (nx == k) = false from by simp; omega]; rfl
  refine ⟨⟨hos.trans I.kept.os, ht.trans I.kept.tape, ho.trans I.kept.output, Nat.le_trans I.kept.size hsz, fun b hB => ?_⟩, I.new, ?_, ?_, ?_, ?_⟩
  · rw [hb b (hlt0 b hB)]; exact I.kept.block b hB
  · intro id x hx
    unfold Env.put at hx
    split at hx
    · omega
    · exact Nat.lt_succ_of_lt (I.dom id x hx)
  · intro k x hk
    rw [hget'] at hk
    by_cases hkn : k = nx
    · subst hkn
      rw [if_pos rfl] at hk; cases hk
      exact ⟨e, Env.put_same _ _ _, by rw [if_pos rfl]; exact hO⟩
    · rw [if_neg hkn] at hk
      obtain ⟨e', he', hO'⟩ := I.obj k x hk
      refine ⟨e', Ext.put I.fresh _ _ he', ?_⟩
      rw [if_neg hkn]
      exact (hO'.ext (Ext.put I.fresh)).world fun b hbk => hb b (I.lt hk b hbk)
  · intro i j hi hj hij b hbi hbj
    rw [hget'] at hi hj
    by_cases hin : i = nx
    · have hjn : j ≠ nx := fun h => hij (hin.trans h.symm)
      simp only [hin, if_true] at hbi
      simp only [hjn, if_false] at hbj hj
      obtain ⟨x, hx⟩ := Option.isSome_iff_exists.1 hj
      exact absurd (I.lt hx b hbj) (by have := how b hbi; omega)
    · simp only [hin, if_false] at hbi hi
      obtain ⟨x, hx⟩ := Option.isSome_iff_exists.1 hi
      by_cases hjn : j = nx
      · simp only [hjn, if_true] at hbj
        exact absurd (I.lt hx b hbi) (by have := how b hbj; omega)
      · simp only [hjn, if_false] at hbj hj
        exact I.disj i j hi hj hij b hbi hbj
  · intro k x hk b hbk
    rw [hget'] at hk
    by_cases hkn : k = nx
    · simp only [hkn, if_true] at hbk
      exact I.new b (Nat.le_trans I.kept.size (how b hbk))
    · simp only [hkn, if_false] at hbk hk
      exact I.may k x hk b hbk
end
end Lx

/- The engine, part 3: reading and writing. -/
namespace Lx
open Go Go.RowKit

/-- of a type: none: one cell; a number: a struct's or an array's cells -/
def tyC (P : Program) (t : TypeId) : Option (Option Nat) :=
  match P.underlying t, P.info? t with
  | some (.struct _), some i => some (some i.size)
  | some (.array _ _), some i => some (some i.size)
  | some _, some i => if i.size = 1 then some none else none
  | _, _ => none

section
variable {P : Program} {w : World}
theorem tyC_size {t : TypeId} {x : Option Nat} (h : tyC P t = some x) : (Go.sizeOf t).run P w = .ok (x.getD 1) w ∧ (isAgg t).run P w = .ok x.isSome w := by
  unfold tyC at h
  cases hu : P.underlying t with
  | none => rw [hu] at h; simp at h
  | some d =>
    cases hi : P.info? t with
    | none => rw [hu, hi] at h; cases d <;> simp at h
    | some i =>
      rw [hu, hi] at h
      cases d <;> simp only [Option.some.injEq, Option.ite_none_right_eq_some] at h <;>
        first
          | (subst h; simp [Go.sizeOf, typeInfo, hi, isAgg, Go.underlying, hu]; done)
          | (obtain ⟨h1, h⟩ := h; subst h; simp [Go.sizeOf, typeInfo, hi, isAgg, Go.underlying, hu, h1]; done)

theorem run_loadVar_one {t : TypeId} {a : Addr} {v : Value} (h : tyC P t = some none) (hc : w.cell? a = some v) : (loadVar t a).run P w = .ok v w := by
  have := (tyC_size (w := w) h).2
  simp [loadVar, this, hc]
theorem run_loadVar_agg {t : TypeId} {a : Addr} {n : Nat} {vs : List Value} (h : tyC P t = some (some n)) (hn : vs.length = n) (hc : ∀ j v, vs[j]? = some v → w.cell? (a.add j) = some v) :
    (loadVar t a).run P w = .ok (.agg vs.toArray) w := by
  have h1 := (tyC_size (w := w) h).2
  have h2 := (tyC_size (w := w) h).1
  have h3 := run_loadCells_list (P := P) w a vs hc
  rw [hn] at h3
  simp only [Option.isSome_some] at h1
  simp only [Option.getD_some] at h2
  simp [loadVar, h1, h2, h3]
end

theorem Addr.add_eq (b o j : Nat) : (⟨b, o, none⟩ : Addr).add j = ⟨b, o + j, none⟩ := by
  unfold Addr.add; split <;> simp_all

/-! lists of rows -/
theorem flatten_len {α : Type} {sz : Nat} : ∀ {ll : List (List α)}, (∀ r ∈ ll, r.length = sz) → ll.flatten.length = ll.length * sz
  | [], _ => by simp
  | r :: ll, h => by
    simp only [List.flatten_cons, List.length_append, List.length_cons, flatten_len (ll := ll) fun r hr => h r (by simp [hr]), h r (by simp), Nat.add_mul]
    omega
theorem flatten_at {α : Type} {ll : List (List α)} {i : Nat} {r : List α} (hi : ll[i]? = some r) : ll.flatten = (ll.take i).flatten ++ r ++ (ll.drop (i + 1)).flatten := by
  have hlt := (List.getElem?_eq_some_iff.1 hi).1
  have hr := (List.getElem?_eq_some_iff.1 hi).2
  conv => lhs; rw [← List.take_append_drop i ll, List.drop_eq_getElem_cons hlt, hr]
  simp
theorem flatten_set {α : Type} {ll : List (List α)} {i : Nat} (x : List α) (hi : i < ll.length) : (ll.set i x).flatten = (ll.take i).flatten ++ x ++ (ll.drop (i + 1)).flatten := by
  have h : (ll.set i x)[i]? = some x := by simp [hi]
  rw [flatten_at h, List.take_set_of_le (Nat.le_refl _), List.drop_set_of_lt (by omega)]
theorem take_flatten_len {α : Type} {sz : Nat} {ll : List (List α)} (h : ∀ r ∈ ll, r.length = sz) {i : Nat} (hi : i ≤ ll.length) : (ll.take i).flatten.length = i * sz := by
  rw [flatten_len (sz := sz) fun r hr => h r (List.mem_of_mem_take hr), List.length_take, Nat.min_eq_left hi]
theorem flatten_get {α : Type} {sz : Nat} {ll : List (List α)} (h : ∀ r ∈ ll, r.length = sz) {i c : Nat} {r : List α} (hi : ll[i]? = some r) (hc : c < sz) : ll.flatten[i * sz + c]? = r[c]? := by
  have hlt := (List.getElem?_eq_some_iff.1 hi).1
  have hr : r.length = sz := h r (List.mem_of_getElem? hi)
  rw [flatten_at hi, List.append_assoc, List.getElem?_append_right (by rw [take_flatten_len h (by omega)]; omega), take_flatten_len h (by omega),
    List.getElem?_append_left (by omega)]
  congr 1; omega

def setMany : List LV → Nat → List LV → List LV
  | r, 0, cs => cs ++ r.drop cs.length
  | [], _ + 1, _ => []
  | a :: r, c + 1, cs => a :: setMany r c cs
theorem setMany_eq : ∀ (r : List LV) (c : Nat) (cs : List LV), c ≤ r.length → setMany r c cs = r.take c ++ cs ++ r.drop (c + cs.length)
  | r, 0, cs, _ => by cases r <;> simp [setMany]
  | [], c + 1, cs, h => by simp at h
  | a :: r, c + 1, cs, h => by
    simp only [setMany, setMany_eq r c cs (by simpa using h), List.take_succ_cons, List.cons_append, show c + 1 + cs.length = (c + cs.length) + 1 by omega, List.drop_succ_cons]
theorem setMany_len (r : List LV) (c : Nat) (cs : List LV) (h : c + cs.length ≤ r.length) : (setMany r c cs).length = r.length := by
  rw [setMany_eq r c cs (by omega)]; simp; omega

section
variable {M : Type} [Mdl M] {B : Nat → Prop} {w0 w w' : World} {E : Env} {own : Nat → List Nat} {h : List (Nat × LObj M)} {nx : Nat}

theorem OR.cell_st {e : EI} {t : TypeId} {r : List LV} {ow : List Nat} (hO : OR (M := M) E e (.st t r) w ow) {i : Nat} {x : LV} (hx : r[i]? = some x) :
    ∃ v, w.cell? ⟨e.blk 0, i, none⟩ = some v ∧ VR E x v := by
  cases hO with
  | st a c d f =>
    obtain ⟨v, hv, hr⟩ := c.get i x hx
    exact ⟨v, by simp [World.cell?, a]; simpa using hv, hr⟩
theorem OR.cell_arr {e : EI} {m : M} {row col : Nat} {x : LV} {ow : List Nat} (hO : OR (M := M) E e (.o m) w ow) (hr : row < Mdl.len m) (hx : (Mdl.row m row)[col]? = some x) :
    ∃ v, w.cell? ⟨e.blk 0, row * Mdl.sz m + col, none⟩ = some v ∧ VR E x v := by
  cases hO with
  | arr a b c d f =>
    obtain ⟨_, hs, hl, hw⟩ := Mdl.wf a
    rw [hl] at hr
    have hrow := Mdl.row_ok a hr
    have hlen := (hw _ (List.mem_of_getElem? hrow)).1
    have hcol : col < (Mdl.row m row).length := (List.getElem?_eq_some_iff.1 hx).1
    have hfl := flatten_get (fun r hr => (hw r hr).1) hrow (c := col) (by omega)
    obtain ⟨v, hv, hvr⟩ := d.get _ x (hfl.trans hx)
    rw [hs]
    refine ⟨v, ?_, hvr⟩
    rw [List.getElem?_take] at hv
    split at hv
    · simp [World.cell?, b]; simpa using hv
    · cases hv
  | arrNil a b =>
    obtain ⟨_, hs, hl, hw⟩ := Mdl.wf a
    rw [hl] at hr; simp at hr
  | lay E1 es own1 a b c d f g => rw [Mdl.lay_len a] at hr; omega

/-- the rows of an object; may a pointer be to one of them? -/
def rowAt (o : LObj M) (row : Nat) : List LV := match o with | .st _ r => r | .o m => Mdl.row m row | _ => []
@[reducible] def inObj (o : LObj M) (sub sz row : Nat) : Prop := match o with | .st _ _ => sub = 0 ∧ row = 0 | .o m => sub = 0 ∧ sz = Mdl.sz m ∧ row < Mdl.len m | _ => False

instance (o : LObj M) (sub sz row : Nat) : Decidable (inObj o sub sz row) := match o with | .st _ _ => inferInstanceAs (Decidable (_ ∧ _)) | .o _ => inferInstanceAs (Decidable (_ ∧ _)) | .mp _ | .lp _ | .df | .ch _ _ => inferInstanceAs (Decidable False)

theorem OR.cell_at {e : EI} {o : LObj M} {sub sz row col : Nat} {x : LV} {ow : List Nat} (hO : OR E e o w ow) (hr : inObj o sub sz row) (hx : (rowAt o row)[col]? = some x) :
    ∃ v, w.cell? ⟨e.blk sub, row * sz + col, none⟩ = some v ∧ VR E x v := by
  cases o with
  | st t r => obtain ⟨rfl, rfl⟩ := hr; simpa using hO.cell_st hx
  | o m => obtain ⟨rfl, rfl, hr⟩ := hr; exact hO.cell_arr hr hx
  | mp _ => exact hr.elim
  | lp _ => exact hr.elim
  | df => exact hr.elim
  | ch _ _ => exact hr.elim

def readRow (P : Program) (t : TypeId) (r : List LV) (col : Nat) : PV :=
  match tyC P t with
  | some none => pv (col < r.length) (r.getD col .any)
  | some (some n) => pv (col + n ≤ r.length) (.agg ((r.drop col).take n))
  | none => pv False .any

theorem read_ok {P : Program} {t : TypeId} {e : EI} {o : LObj M} {sub sz row col : Nat} {ow : List Nat} (hO : OR E e o w ow) (hr : inObj o sub sz row) (hp : (readRow P t (rowAt o row) col).1) :
    ∃ v, (loadVar t ⟨e.blk sub, row * sz + col, none⟩).run P w = .ok v w ∧ VR E (readRow P t (rowAt o row) col).2 v := by
  unfold readRow at hp ⊢
  cases ht : tyC P t with
  | none => rw [ht] at hp; exact hp.elim
  | some x =>
    cases x with
    | none =>
      rw [ht] at hp
      simp only at hp ⊢
      obtain ⟨v, hv, hvr⟩ := hO.cell_at hr (List.getElem?_eq_getElem hp)
      exact ⟨v, run_loadVar_one ht hv, by rw [List.getD_eq_getElem?_getD, List.getElem?_eq_getElem hp]; exact hvr⟩
    | some n =>
      rw [ht] at hp
      simp only at hp ⊢
      have key : ∀ (k : Nat) (l : List LV), (∀ j x, l[j]? = some x → (rowAt o row)[col + k + j]? = some x) →
          ∃ vs : List Value, VRs E l vs ∧ ∀ j v, vs[j]? = some v → w.cell? ⟨e.blk sub, row * sz + col + k + j, none⟩ = some v := by
        intro k l
        induction l generalizing k with
        | nil => intro _; exact ⟨[], .nil, by simp⟩
        | cons y l ih =>
          intro hl
          obtain ⟨v, hv, hvr⟩ := hO.cell_at hr (hl 0 y rfl)
          obtain ⟨vs, hvs, hcs⟩ := ih (k + 1) fun j x hj => by have := hl (j + 1) x (by simpa using hj); rwa [show col + k + (j + 1) = col + (k + 1) + j by omega] at this
          refine ⟨v :: vs, .cons hvr hvs, fun j u hj => ?_⟩
          cases j with
          | zero => simp at hj; subst hj; rwa [show row * sz + (col + k + 0) = row * sz + col + k + 0 by omega] at hv
          | succ j => have := hcs j u (by simpa using hj); rwa [show row * sz + col + (k + 1) + j = row * sz + col + k + (j + 1) by omega] at this
      obtain ⟨vs, hvs, hcs⟩ := key 0 (((rowAt o row).drop col).take n) fun j x hj => by
        rw [List.getElem?_take] at hj
        split at hj
        · rw [List.getElem?_drop] at hj; simpa using hj
        · cases hj
      refine ⟨.agg vs.toArray, run_loadVar_agg ht ?_ (fun j v hj => by rw [Addr.add_eq]; simpa using hcs j v hj), .agg hvs⟩
      rw [← hvs.length]; simp; omega

def upObj (o : LObj M) (row col : Nat) (cs : List LV) : Option (LObj M) :=
  match o with
  | .st t r => some (.st t (setMany r col cs))
  | .o m => (Mdl.set m row (setMany (Mdl.row m row) col cs)).map .o
  | _ => none

/-- one store of several cells into an object's block -/
theorem write_ok {P : Program} {t : TypeId} {id : Nat} {e : EI} {o o' : LObj M} {sub sz row col : Nat} {cs : List LV} {x : LV} {v : Value}
    (I : Inv B w0 E own h nx w) (hid : hget h id = some o) (he : E id = some e) (hr : inObj o sub sz row)
    (hn : (tyC P t).map (·.getD 1) = some x.cells.length) (hx : VR E x v) (h1 : ∀ y ∈ x.cells, y.one = true) (hcs : cs = x.cells) (hfit : col + cs.length ≤ (rowAt o row).length)
    (hne : x ≠ .any) (hnt : ∀ l, x ≠ .tup l)
    (ho' : upObj o row col cs = some o') :
    ∃ own' w', (storeVar t ⟨e.blk sub, row * sz + col, none⟩ v).run P w = .ok () w' ∧ Inv B w0 E own' (hset h id o') nx w' := by
  subst hcs
  have hvs := hx.cells hne hnt
  have hlen := hvs.length
  have hlen' : x.cells.length = v.cells.size := by rw [hlen]; simp
  obtain ⟨y, hy⟩ : ∃ y, tyC P t = some y := by
    cases hq : tyC P t with
    | none => rw [hq] at hn; simp at hn
    | some y => exact ⟨y, rfl⟩
  have hsz : (Go.sizeOf t).run P w = .ok x.cells.length w := by
    have := (tyC_size (w := w) hy).1
    rw [hy] at hn; simp at hn; rwa [hn] at this
  have hone : ∀ u ∈ v.cells.toList, u.oneCell' = true := by
    intro u hu
    obtain ⟨j, hj⟩ := List.getElem?_of_mem hu
    have hjl : j < x.cells.length := by rw [hlen]; exact (List.getElem?_eq_some_iff.1 hj).1
    obtain ⟨u', hu', hvr⟩ := hvs.get j _ (List.getElem?_eq_getElem hjl)
    rw [hj] at hu'; cases hu'
    exact hvr.isOne (h1 _ (List.getElem_mem hjl))
  obtain ⟨e', he', hO⟩ := I.obj id o hid
  rw [he] at he'; cases he'
  have run_it : ∀ (g off : Nat) (T : TypeId) (cur : Array Value), w.heap[g]? = some (.cells cur T (0, 0)) → off + x.cells.length ≤ cur.size →
      (storeVar t ⟨g, off, none⟩ v).run P w = .ok () (w.setRow g (cur.toList.take off ++ v.cells.toList ++ cur.toList.drop (off + v.cells.toList.length)).toArray) := by
    intro g off T cur hg hf
    have := run_storeCells_at P g off T v.cells.toList 0 cur w hg (by rw [← hlen]; simpa using hf) hone
    simp only [Nat.add_zero] at this
    have hsz' : v.cells.size = x.cells.length := by rw [hlen]; simp
    simp [storeVar, hsz, hsz', this]
  cases o with
  | mp _ => exact hr.elim
  | lp _ => exact hr.elim
  | df => exact hr.elim
  | ch _ _ => exact hr.elim
  | st T r =>
    obtain ⟨rfl, rfl⟩ := hr
    simp only [upObj, Option.some.injEq] at ho'
    subst ho'
    obtain ⟨ow, how⟩ : ∃ ow, ow = own id := ⟨_, rfl⟩
    rw [← how] at hO
    cases hO with
    | st a c d f =>
      rename_i vs
      have hrl := c.length
      simp only [rowAt] at hfit
      simp only [Nat.zero_mul, Nat.zero_add]
      have hr := run_it (e.blk 0) col T vs a (by rw [← Array.length_toList, ← hrl]; exact hfit)
      refine ⟨_, _, hr, I.turn (ow := [e.blk 0]) hid he rfl rfl rfl (by simp [World.setRow]) (fun b hb hnb => setRow_other _ _ _ _ (by rw [← how] at hnb; simpa using hnb)) ?_ (fun b hb => .inl (by rw [← how]; exact hb))⟩
      refine .st (vs := (vs.toList.take col ++ v.cells.toList ++ vs.toList.drop (col + v.cells.toList.length)).toArray) (setRow_heap _ _ _ _ _ _ a) ?_ ?_ ?_
      · rw [setMany_eq _ _ _ (by omega), hlen]
        exact ((c.take col).append hvs).append (by simpa using c.drop (col + v.cells.toList.length))
      · intro y hy
        rw [setMany_eq _ _ _ (by omega)] at hy
        simp only [List.mem_append] at hy
        rcases hy with (hy | hy) | hy
        · exact d y (List.mem_of_mem_take hy)
        · exact h1 y hy
        · exact d y (List.mem_of_mem_drop hy)
      · have hrl' : r.length = vs.size := by rw [hrl]; simp
        rw [f]; simp; omega
  | o m =>
    obtain ⟨rfl, rfl, hr⟩ := hr
    simp only [upObj, Option.map_eq_some_iff] at ho'
    obtain ⟨m', hset, rfl⟩ := ho'
    obtain ⟨ow, how⟩ : ∃ ow, ow = own id := ⟨_, rfl⟩
    rw [← how] at hO
    cases hO with
    | lay E1 es own1 a b c d f g => rw [Mdl.lay_len a] at hr; omega
    | arrNil a b => obtain ⟨_, hs, hl, hw⟩ := Mdl.wf a; rw [hl] at hr; simp at hr
    | arr a b c d f =>
      rename_i T sz ll vs
      obtain ⟨hs0, hs, hl, hw⟩ := Mdl.wf a
      rw [hl] at hr
      have hrow := Mdl.row_ok a hr
      have hrlen := (hw _ (List.mem_of_getElem? hrow)).1
      simp only [rowAt] at hfit
      have hv' := Mdl.set_ok a hset
      have hlen2 : (ll.set row (setMany (Mdl.row m row) col x.cells)).length = ll.length := by simp
      have hroom : row * sz + col + x.cells.length ≤ ll.length * sz := by
        have : (row + 1) * sz ≤ ll.length * sz := Nat.mul_le_mul_right _ (by omega)
        rw [Nat.add_mul] at this; omega
      rw [hs]
      have hrn := run_it (e.blk 0) (row * sz + col) T vs b (by omega)
      refine ⟨_, _, hrn, I.turn (ow := [e.blk 0]) hid he rfl rfl rfl (by simp [World.setRow]) (fun b hb hnb => setRow_other _ _ _ _ (by rw [← how] at hnb; simpa using hnb)) ?_ (fun b hb => .inl (by rw [← how]; exact hb))⟩
      refine .arr (vs := (vs.toList.take (row * sz + col) ++ v.cells.toList ++ vs.toList.drop (row * sz + col + v.cells.toList.length)).toArray) hv' (setRow_heap _ _ _ _ _ _ b) ?_ ?_ ?_
      · rw [hlen2]; simp; omega
      · rw [hlen2]
        have hfl := flatten_at hrow
        have htl := take_flatten_len (fun r hr => (hw r hr).1) (Nat.le_of_lt hr)
        have hpre : (vs.toList.take (ll.length * sz)).length = ll.length * sz := by simp; omega
        have e1 : ((vs.toList.take (row * sz + col) ++ v.cells.toList ++ vs.toList.drop (row * sz + col + v.cells.toList.length)).toArray.toList.take (ll.length * sz)) =
            (vs.toList.take (ll.length * sz)).take (row * sz + col) ++ v.cells.toList ++ (vs.toList.take (ll.length * sz)).drop (row * sz + col + v.cells.toList.length) := by
          simp only [List.take_append, List.length_append, List.length_take, List.take_take, List.drop_take, Array.length_toList]
          rw [Nat.min_eq_left (show row * sz + col ≤ ll.length * sz by omega), Nat.min_eq_right (show row * sz + col ≤ ll.length * sz by omega), Nat.min_eq_left (show row * sz + col ≤ vs.size by omega), List.take_of_length_le (l := v.cells.toList) (by rw [← hlen]; omega)]
        rw [e1, flatten_set _ hr, setMany_eq _ _ _ (by omega)]
        have d1 := d.take (row * sz + col)
        have d2 := d.drop (row * sz + col + v.cells.toList.length)
        have t1 : ll.flatten.take (row * sz + col) = (ll.take row).flatten ++ (Mdl.row m row).take col := by
          rw [hfl, List.append_assoc, List.take_append, htl, List.take_of_length_le (by omega), show row * sz + col - row * sz = col by omega, List.take_append_of_le_length (by omega)]
        have t2 : ll.flatten.drop (row * sz + col + v.cells.toList.length) = (Mdl.row m row).drop (col + x.cells.length) ++ (ll.drop (row + 1)).flatten := by
          rw [hfl, List.append_assoc, List.drop_append, htl, List.drop_of_length_le (by omega), ← hlen, show row * sz + col + x.cells.length - row * sz = col + x.cells.length by omega, List.nil_append, List.drop_append_of_le_length (by omega)]
        rw [t1] at d1
        rw [t2] at d2
        have := (d1.append hvs).append d2
        simpa [List.append_assoc] using this
      · rw [f]; simp; omega
end
end Lx

/- The engine, part 4: what an operation comes to, and that the model's run of it comes to that. -/
namespace Lx
open Go Go.RowKit

mutual
def ofValue : Value → LV
  | .bool b => .b b
  | .int k n => .i k n
  | .string s => .s s
  | .pointer none => .np
  | .slice none 0 0 => .ns
  | .map none => .nm
  | .chan none => .nc
  | .nilFunc => .nf
  | .agg ⟨cs⟩ => .agg (ofValues cs)
  | .tuple ⟨cs⟩ => .tup (ofValues cs)
  | _ => .any
def ofValues : List Value → List LV
  | [] => []
  | v :: r => ofValue v :: ofValues r
end

mutual
theorem ofValue_ok (E : Env) : ∀ v, VR E (ofValue v) v
  | .bool _ => .b
  | .int _ _ => .i
  | .string _ => .s
  | .pointer none => .np
  | .pointer (some _) => .any
  | .slice none 0 0 => .ns
  | .slice none 0 (_ + 1) => .any
  | .slice none (_ + 1) _ => .any
  | .slice (some _) _ _ => .any
  | .map none => .nm
  | .map (some _) => .any
  | .chan none => .nc
  | .chan (some _) => .any
  | .nilFunc => .nf
  | .func _ _ _ => .any
  | .iface _ _ => .any
  | .nilIface => .any
  | .float _ _ => .any
  | .complex _ _ _ => .any
  | .agg ⟨cs⟩ => .agg (ofValues_ok E cs)
  | .tuple ⟨cs⟩ => .tup (ofValues_ok E cs)
theorem ofValues_ok (E : Env) : ∀ vs, VRs E (ofValues vs) vs
  | [] => .nil
  | v :: r => .cons (ofValue_ok E v) (ofValues_ok E r)
end

structure Eff (M : Type) where
  pre : Prop
  dec : Decidable pre := by infer_instance
  v : LV
  up : Option (List (Nat × LObj M) × Nat) := none
  foot : List Nat := []

instance {M : Type} (e : Eff M) : Decidable e.pre := e.dec

def Eff.h {M : Type} (e : Eff M) (h : List (Nat × LObj M)) : List (Nat × LObj M) := match e.up with | some x => x.1 | none => h
def Eff.nx {M : Type} (e : Eff M) (nx : Nat) : Nat := match e.up with | some x => x.2 | none => nx

def bad {M : Type} : Eff M := { pre := False, v := .any }
def val {M : Type} (v : LV) : Eff M := { pre := True, v := v }

/-- how a run of an operation ends -/
def Out {M : Type} [Mdl M] (P : Program) (B : Nat → Prop) (w0 : World) (E : Env) (nx : Nat) (h' : List (Nat × LObj M)) (nx' : Nat) (x : LV) (s : Sem Next) (w : World) : Prop :=
  ∃ E' own' v w', (s.run P w = .ok (.value v) w' ∨ (s.run P w = .ok .skip w' ∧ v = undef)) ∧ Grow nx E E' ∧ Inv B w0 E' own' h' nx' w' ∧ VR E' x v

section
variable {M : Type} [Mdl M] {P : Program} {B : Nat → Prop} {w0 w w' : World} {E : Env} {own : Nat → List Nat} {h : List (Nat × LObj M)} {nx : Nat}

theorem Out.pure {x : LV} {v : Value} {s : Sem Next} (I : Inv B w0 E own h nx w) (hs : s.run P w = .ok (.value v) w) (hv : VR E x v) : Out P B w0 E nx h nx x s w :=
  ⟨E, own, v, w, .inl hs, Grow.refl _ E, I, hv⟩

/-! loads and stores -/
def loadL (P : Program) (h : List (Nat × LObj M)) (t : TypeId) (a : LV) : Eff M :=
  match a with
  | .p id sub sz row col =>
    match hget h id with
    | some o => { pre := inObj o sub sz row ∧ (readRow P t (rowAt o row) col).1, v := (readRow P t (rowAt o row) col).2, foot := [id] }
    | none => bad
  | _ => bad

theorem loadL_ok {t : TypeId} {a : LV} {va : Value} (I : Inv B w0 E own h nx w) (ha : VR E a va) (hp : (loadL P h t a).pre) :
    ∃ v, (Instr.loadAt t va).run P w = .ok v w ∧ VR E (loadL P h t a).v v := by
  unfold loadL at hp ⊢
  cases ha
  case p id sub sz row col e he =>
    simp only at hp ⊢
    cases hid : hget h id with
    | none => rw [hid] at hp; exact hp.elim
    | some o =>
      rw [hid] at hp
      obtain ⟨e', he', hO⟩ := I.obj id o hid
      rw [he] at he'; cases he'
      obtain ⟨v, hv, hvr⟩ := read_ok hO hp.1 hp.2
      exact ⟨v, by simpa [Instr.loadAt, Instr.sureAddr] using hv, hvr⟩
  all_goals exact hp.elim

def storeL (P : Program) (h : List (Nat × LObj M)) (nx : Nat) (t : TypeId) (a x : LV) : Eff M :=
  match a with
  | .p id sub sz row col =>
    match hget h id with
    | some o =>
      match upObj o row col x.cells with
      | some o' => { pre := inObj o sub sz row ∧ col + x.cells.length ≤ (rowAt o row).length ∧ (tyC P t).map (·.getD 1) = some x.cells.length ∧ x.cells.all LV.one = true ∧ 0 < x.cells.length, v := .any,
                     up := some (hset h id o', nx), foot := [id] }
      | none => bad
    | none => bad
  | _ => bad

theorem cells_one_ne {x : LV} (h : x.cells.all LV.one = true) (hl : 0 < x.cells.length) : x ≠ .any ∧ ∀ l, x ≠ .tup l := by
  constructor
  · rintro rfl; simp [LV.cells, LV.one] at h
  · rintro l rfl; simp [LV.cells] at hl

theorem storeL_ok {t : TypeId} {a x : LV} {va v : Value} (I : Inv B w0 E own h nx w) (ha : VR E a va) (hx : VR E x v) (hp : (storeL P h nx t a x).pre) :
    ∃ own' w', (Instr.storeAt t va v).run P w = .ok () w' ∧ Inv B w0 E own' ((storeL P h nx t a x).h h) ((storeL P h nx t a x).nx nx) w' := by
  unfold storeL at hp ⊢
  cases ha
  case p id sub sz row col e he =>
    simp only at hp ⊢
    cases hid : hget h id with
    | none => rw [hid] at hp; exact hp.elim
    | some o =>
      rw [hid] at hp
      simp only at hp ⊢
      cases hu : upObj o row col x.cells with
      | none => rw [hu] at hp; exact hp.elim
      | some o' =>
        rw [hu] at hp
        obtain ⟨h1, h2, h3, h4, h5⟩ := hp
        have hone : ∀ y ∈ x.cells, y.one = true := by simpa using h4
        obtain ⟨hne, hnt⟩ := cells_one_ne h4 h5
        obtain ⟨own', w', hr, hI⟩ := write_ok I hid he h1 h3 hx hone rfl h2 hne hnt hu
        exact ⟨own', w', by simpa [Instr.storeAt, Instr.sureAddr] using hr, hI⟩
  all_goals exact hp.elim

/-! new variables -/
def newEI (w : World) (n : Nat) : EI := { blk := fun _ => w.heap.size, room := fun _ => n }
theorem new_st (I : Inv B w0 E own h nx w) {t : TypeId} {cs : List LV} {vs : Array Value} (hv : VRs E cs vs.toList) (h1 : ∀ x ∈ cs, x.one = true) :
    ∃ own', Inv B w0 (E.put nx (newEI w vs.size)) own' ((nx, .st t cs) :: h) (nx + 1) (w.alloc (.cells vs t)) ∧
      VR (E.put nx (newEI w vs.size)) (.p nx 0 1 0 0) (.pointer (some ⟨w.heap.size, 0, none⟩)) := by
  have hE := Ext.put (e := newEI w vs.size) I.fresh
  refine ⟨_, I.fresh_obj (ow := [w.heap.size]) rfl rfl rfl (by simp) (fun b hb => Below.heap_alloc _ _ _ hb) ?_ (by simp), ?_⟩
  · exact .st (vs := vs) (heap_alloc_new w _) (hv.ext hE) h1 rfl
  · exact VR.p (e := newEI w vs.size) (Env.put_same _ _ _)

def zcells (P : Program) (t : TypeId) : Option (List LV) := ((P.info? t).bind (·.zero)).map fun v => (ofValue v).cells

def newL (h : List (Nat × LObj M)) (nx : Nat) (t : TypeId) (cs : List LV) : Eff M :=
  { pre := cs.all LV.one = true ∧ 0 < cs.length, v := .p nx 0 1 0 0, up := some ((nx, .st t cs) :: h, nx + 1) }

theorem newL_ok {t : TypeId} {x : LV} {v : Value} (I : Inv B w0 E own h nx w) (hx : VR E x v) (hp : (newL h nx t x.cells).pre) :
    ∃ E' own' u w', (newVar t v).run P w = .ok u w' ∧ Grow nx E E' ∧ Inv B w0 E' own' ((nx, LObj.st (M := M) t x.cells) :: h) (nx + 1) w' ∧ VR E' (.p nx 0 1 0 0) (.pointer (some u)) := by
  obtain ⟨hne, hnt⟩ := cells_one_ne hp.1 hp.2
  obtain ⟨own', hI, hv⟩ := new_st (t := t) I (hx.cells hne hnt) (by simpa using hp.1)
  exact ⟨_, own', ⟨w.heap.size, 0, none⟩, _, by simp [newVar, newRow], Grow.put I.fresh, hI, hv⟩

theorem ofValue_cells_ok (v : Value) (hp : (ofValue v).cells.all LV.one = true ∧ 0 < (ofValue v).cells.length) : VRs E (ofValue v).cells v.cells.toList :=
  (ofValue_ok E v).cells (cells_one_ne hp.1 hp.2).1 (cells_one_ne hp.1 hp.2).2

def allocL (P : Program) (h : List (Nat × LObj M)) (nx : Nat) (t : TypeId) : Eff M := match zcells P t with | some cs => newL h nx t cs | none => bad
theorem allocL_ok {t : TypeId} (I : Inv B w0 E own h nx w) (hp : (allocL P h nx t).pre) :
    ∃ E' own' v w', (Instr.alloc t true (.tuple #[])).run P w = .ok v w' ∧ Grow nx E E' ∧ Inv B w0 E' own' ((allocL P h nx t).h h) ((allocL P h nx t).nx nx) w' ∧ VR E' (allocL P h nx t).v v := by
  unfold allocL zcells at *
  cases hi : P.info? t with
  | none => rw [hi] at hp; exact hp.elim
  | some i =>
    cases hz : i.zero with
    | none => simp [hi, hz, bad] at hp
    | some z =>
      simp only [hi, hz, Option.bind_some, Option.map_some] at hp ⊢
      obtain ⟨E', own', u, w', hr, hE, hI, hv⟩ := newL_ok (P := P) (t := t) I (ofValue_ok E z) hp
      exact ⟨E', own', _, w', by simp [Instr.alloc, zeroValue, typeInfo, hi, hz, hr], hE, hI, hv⟩

/-! addresses -/
def fOff (P : Program) (t : TypeId) (f : Nat) : Option Nat :=
  match P.underlying t with
  | some (.struct fs) => (fs[f]?).bind fun fd => (P.info? fd.type).bind fun i => if i.size = 0 then none else some fd.offset
  | _ => none
def faddrL (P : Program) (t : TypeId) (x : LV) (f : Nat) : Eff M :=
  match x, fOff P t f with
  | .p id sub sz row col, some o => val (.p id sub sz row (col + o))
  | _, _ => bad
omit [Mdl M] in
theorem faddrL_ok {t : TypeId} {x : LV} {f : Nat} {v : Value} (hx : VR E x v) (hp : (faddrL (M := M) P t x f).pre) :
    ∃ u, (Instr.fieldAt t v f).run P w = .ok u w ∧ VR E (faddrL (M := M) P t x f).v u := by
  unfold faddrL at *
  cases hx
  case p id sub sz row col e he =>
    cases ho : fOff P t f with
    | none => rw [ho] at hp; exact hp.elim
    | some o =>
      simp only [val]
      unfold fOff at ho
      cases hu : P.underlying t with
      | none => rw [hu] at ho; simp at ho
      | some d =>
        rw [hu] at ho
        cases d <;> simp only [reduceCtorEq] at ho
        rename_i fs
        cases hf : fs[f]? with
        | none => rw [hf] at ho; simp at ho
        | some fd =>
          rw [hf] at ho
          cases hi : P.info? fd.type with
          | none => simp [hi] at ho
          | some i =>
            simp only [Option.bind_some, hi] at ho
            split at ho
            · cases ho
            · rename_i hz
              simp only [Option.some.injEq] at ho
              subst ho
              refine ⟨.pointer (some ⟨e.blk sub, row * sz + (col + fd.offset), none⟩), ?_, .p he⟩
              simp [Instr.fieldAt, run_underlying hu, hf, Instr.sureAddr, fieldPlace, Go.sizeOf, typeInfo, hi, hz, Addr.add_eq, Nat.add_assoc]
  all_goals exact hp.elim

/-- of a slice type or an array type: the element's cells, and the array's length -/
def elC (P : Program) (t : TypeId) : Option (Nat × Option Nat) :=
  match P.underlying t with
  | some (.slice e) => (P.info? e).map fun i => (i.size, none)
  | some (.array n e) => (P.info? e).map fun i => (i.size, some n)
  | _ => none
def iaddrL (P : Program) (t : TypeId) (x i : LV) : Eff M :=
  match x, elC P t, i with
  | .sl id sub sz lo len, some (es, none), .i _ n => { pre := 0 ≤ n ∧ n < len ∧ es = sz, v := .p id sub sz (lo + n.toNat) 0 }
  | .p id sub sz row col, some (es, some len), .i _ n => { pre := 0 ≤ n ∧ n < len, v := .p id sub sz row (col + n.toNat * es) }
  | _, _, _ => bad
omit [Mdl M] in
theorem iaddrL_ok {t : TypeId} {x i : LV} {v k : Value} (hx : VR E x v) (hi : VR E i k) (hp : (iaddrL (M := M) P t x i).pre) :
    ∃ u, (Instr.indexAt t v k).run P w = .ok u w ∧ VR E (iaddrL (M := M) P t x i).v u := by
  unfold iaddrL at *
  unfold elC at *
  cases hu : P.underlying t with
  | none => rw [hu] at hp; cases x <;> exact hp.elim
  | some d =>
    rw [hu] at hp
    cases d
    case slice el =>
      cases hx
      case sl id sub sz lo len e a cap he hlc hcap =>
        cases hie : P.info? el with
        | none => simp [hie, bad] at hp
        | some ie =>
          simp only [hie, Option.map_some] at hp ⊢
          cases hi
          case i kk n =>
            obtain ⟨h0, h1, h2⟩ := hp
            obtain ⟨ha, hroom⟩ := hcap (by omega)
            subst ha
            refine ⟨.pointer (some ⟨e.blk sub, (lo + n.toNat) * sz + 0, none⟩), ?_, .p he⟩
            simp [Instr.indexAt, asIntOf, run_underlying hu, h0, h1, Go.sizeOf, typeInfo, hie, Addr.add_eq, h2, Nat.add_mul]
          all_goals exact hp.elim
      all_goals first | exact hp.elim | (exfalso; cases hie : P.info? el <;> simp [hie, bad] at hp)
    case array len el =>
      cases hx
      case p id sub sz row col e he =>
        cases hie : P.info? el with
        | none => simp [hie, bad] at hp
        | some ie =>
          simp only [hie, Option.map_some] at hp ⊢
          cases hi
          case i kk n =>
            obtain ⟨h0, h1⟩ := hp
            refine ⟨.pointer (some ⟨e.blk sub, row * sz + (col + n.toNat * ie.size), none⟩), ?_, .p he⟩
            simp [Instr.indexAt, asIntOf, run_underlying hu, Instr.sureAddr, h0, h1, Go.sizeOf, typeInfo, hie, Addr.add_eq, Nat.add_assoc]
          all_goals exact hp.elim
      all_goals first | exact hp.elim | (exfalso; cases hie : P.info? el <;> simp [hie, bad] at hp)
    all_goals (cases x <;> exact hp.elim)
end
theorem fill_fold (off : Nat) : ∀ (cs : List Value) (k : Nat) (A : Array Value), off + k + cs.length ≤ A.size →
    ((cs.zipIdx k).foldl (fun (a : Array Value) (x : Value × Nat) => a.setIfInBounds (off + x.2) x.1) A).toList = A.toList.take (off + k) ++ cs ++ A.toList.drop (off + k + cs.length)
  | [], k, A, _ => by simp
  | c :: cs, k, A, h => by
    simp only [List.zipIdx_cons, List.foldl_cons]
    rw [fill_fold off cs (k + 1) _ (by simp at h ⊢; omega)]
    have := list_seg_step A.toList (off + k) c cs (by simp at h ⊢; omega)
    simpa [Nat.add_assoc, Array.toList_setIfInBounds] using this
def fillL (pl : Nat → Option (Nat × Nat)) : List LV → List (Nat × LV) → PX (List LV)
  | cs, [] => pv True cs
  | cs, (i, x) :: r => match pl i with
    | some (off, n) => pv ((x.cells.length = n ∧ 0 < n ∧ off + n ≤ cs.length ∧ x.cells.all LV.one = true) ∧ (fillL pl (setMany cs off x.cells) r).1) (fillL pl (setMany cs off x.cells) r).2
    | none => pv False []
theorem fillL_ok {E : Env} (pl : Nat → Option (Nat × Nat)) : ∀ (cs : List LV) (ps : List (Nat × LV)) (vs : Array Value) (qs : List (Nat × Value)), VRs E cs vs.toList → (∀ x ∈ cs, x.one = true) →
    ps.length = qs.length → (∀ (j : Nat) a b, ps[j]? = some a → qs[j]? = some b → a.1 = b.1 ∧ VR E a.2 b.2) → (fillL pl cs ps).1 →
    ∃ us, Instr.fill pl vs qs = some us ∧ VRs E (fillL pl cs ps).2 us.toList ∧ (∀ x ∈ (fillL pl cs ps).2, x.one = true)
  | cs, [], vs, qs, hv, h1, hl, _, _ => by
    have : qs = [] := List.eq_nil_of_length_eq_zero hl.symm
    subst this
    exact ⟨vs, rfl, hv, h1⟩
  | cs, (i, x) :: ps, vs, [], _, _, hl, _, _ => by simp at hl
  | cs, (i, x) :: ps, vs, (k, v) :: qs, hv, h1, hl, ha, hp => by
    obtain ⟨hik, hx⟩ := ha 0 _ _ rfl rfl
    simp only at hik hx
    subst hik
    simp only [fillL] at hp ⊢
    cases hpl : pl i with
    | none => rw [hpl] at hp; exact hp.elim
    | some on =>
      obtain ⟨off, n⟩ := on
      rw [hpl] at hp
      obtain ⟨⟨hn, hn0, hf, ho⟩, hp⟩ := hp
      have hc := cells_one_ne ho (by omega)
      have hvs := hx.cells hc.1 hc.2
      have hvl := hvs.length
      have hcl := hv.length
      have hsz : v.cells.size = n := by rw [← hn, hvl]; simp
      have hcs : cs.length = vs.size := by rw [hcl]; simp
      have hfold := fill_fold off v.cells.toList 0 vs (by simp; omega)
      obtain ⟨A, hA⟩ : ∃ A : Array Value, A = (v.cells.toList.zipIdx 0).foldl (fun (a : Array Value) (x : Value × Nat) => a.setIfInBounds (off + x.2) x.1) vs := ⟨_, rfl⟩
      rw [← hA] at hfold
      have hnew : VRs E (setMany cs off x.cells) A.toList := by
        rw [hfold, setMany_eq _ _ _ (by omega), hvl]
        simpa using ((hv.take off).append hvs).append (hv.drop (off + v.cells.toList.length))
      obtain ⟨us, hus, hr, ho'⟩ := fillL_ok pl (setMany cs off x.cells) ps A qs hnew (by
        intro y hy
        rw [setMany_eq _ _ _ (by omega)] at hy
        simp only [List.mem_append] at hy
        rcases hy with (hy | hy) | hy
        · exact h1 y (List.mem_of_mem_take hy)
        · exact (List.all_eq_true.1 ho) y hy
        · exact h1 y (List.mem_of_mem_drop hy)) (by simpa using hl) (fun j a b hj hk => ha (j + 1) a b (by simpa using hj) (by simpa using hk)) hp
      refine ⟨us, ?_, hr, ho'⟩
      simp only [Instr.fill, hpl]
      rw [if_neg (by simp; omega), ← hus]
      congr 1
      rw [hA, ← Array.foldl_toList]
      simp
end Lx

/- The engine, part 5: literals, append, slices. -/
namespace Lx
open Go Go.RowKit

/-- append, of slices of whatever make: what it comes to -/
theorem run_append_slices {P : Program} {w : World} (t ty e : TypeId) (i : TypeInfo) (z : Value) (ht : P.underlying t = some (.slice e)) (hi : P.info? e = some i) (hz : i.zero = some z)
    (a b : Option Addr) (n cap m c : Nat) (olds news : List Value)
    (ho : ∀ W : World, W.heap = w.heap → (Builtin.firstCells i.size n (.slice a n cap)).run P W = .ok olds.toArray W)
    (hn : ∀ W : World, W.heap = w.heap → (Builtin.firstCells i.size m (.slice b m c)).run P W = .ok news.toArray W)
    (h63 : n + m ≤ 9223372036854775807) (hb : (n + m) * i.bytes ≤ 140737488355328) :
    (n + m ≤ cap → (Builtin.append_ #[t, t] ty #[.slice a n cap, .slice b m c]).run P w =
      ((match a with | some a => storeCells (a.add (n * i.size)) news | none => pure ()).run P w).andThen fun _ w' => .ok (.slice a (n + m) cap) w') ∧
    (¬ n + m ≤ cap → ∃ (nc : Nat) (w' : World), n + m ≤ nc ∧ w'.heap = w.heap ∧ w'.os = w.os ∧ w'.tape = w.tape ∧ w'.output = w.output ∧
      (Builtin.append_ #[t, t] ty #[.slice a n cap, .slice b m c]).run P w =
        .ok (.slice (some ⟨w.heap.size, 0, none⟩) (n + m) nc) (w'.alloc (.cells (olds.toArray ++ news.toArray ++ Builtin.zeroCells z.cells (nc - (n + m))) e))) := by
  constructor
  · intro hc
    cases a with
    | none => simp [Builtin.append_, run_underlying ht, Go.sizeOf, typeInfo, hi, Builtin.lenOf, hc, hn w rfl]
    | some a => simp [Builtin.append_, run_underlying ht, Go.sizeOf, typeInfo, hi, Builtin.lenOf, hc, hn w rfl]
  · intro hc
    refine ⟨grownCap w (n + m) cap e, w.drew, grownCap_ge _ _ _ _, rfl, rfl, rfl, rfl, ?_⟩
    have h63' : ¬ (9223372036854775807 < ((n : Int) + (m : Int))) := by omega
    have h48 := growslice_fits (show cap < n + m by omega) hb
    have h48' : ¬ (281474976710656 < Builtin.nextslicecap (n + m) cap * i.bytes) := by omega
    have h1 := ho w.drew rfl
    have h2 := hn w.drew rfl
    simp [Builtin.append_, run_underlying ht, Go.sizeOf, typeInfo, zeroValue, hi, hz, Builtin.lenOf, hc, h63', h48', Question.forced, h1, h2, newRow, grownCap]
    congr 2
    apply Array.ext'
    simp [List.append_assoc]

section
variable {M : Type} [Mdl M] {P : Program} {B : Nat → Prop} {w0 w w' : World} {E : Env} {own : Nat → List Nat} {h : List (Nat × LObj M)} {nx : Nat}

/-- of a slice type: the element's type, its cells, its bytes -/
def slC (P : Program) (t : TypeId) : Option (TypeId × Nat × Nat) :=
  match P.underlying t with
  | some (.slice e) => (P.info? e).bind fun i => if i.bytes = 0 then none else if i.zero.isSome then some (e, i.size, i.bytes) else none
  | _ => none
theorem slC_some {t : TypeId} {x : TypeId × Nat × Nat} (hx : slC P t = some x) : ∃ i z, P.underlying t = some (.slice x.1) ∧ P.info? x.1 = some i ∧ i.zero = some z ∧ i.size = x.2.1 ∧ i.bytes = x.2.2 ∧ i.bytes ≠ 0 := by
  unfold slC at hx
  cases hu : P.underlying t with
  | none => rw [hu] at hx; simp at hx
  | some d =>
    rw [hu] at hx
    cases d <;> simp only [reduceCtorEq] at hx
    rename_i e
    cases hi : P.info? e with
    | none => simp [hi] at hx
    | some i =>
      simp only [hi, Option.bind_some] at hx
      split at hx
      · cases hx
      · rename_i hb
        split at hx
        · rename_i hz
          obtain ⟨z, hz⟩ := Option.isSome_iff_exists.1 hz
          simp only [Option.some.injEq] at hx
          subst hx
          exact ⟨i, z, rfl, hi, hz, rfl, rfl, hb⟩
        · cases hx

/-- what a slice is made of: an array's rows (or an array variable's cells), from where, how many -/
def srcL (h : List (Nat × LObj M)) (e : TypeId) (x : LV) : Option (M × Nat × Nat × DP) :=
  match x with
  | .sl id sub sz lo len =>
    match hget h id with
    | some (.o m) => some (m, lo, len, ⟨sub = 0 ∧ sz = Mdl.sz m ∧ lo + len ≤ Mdl.len m ∧ Mdl.isArr m = true, inferInstance⟩)
    | some (.st _ r) => (Mdl.make e (((r.drop lo).take len).map fun y => [y])).map fun m => (m, 0, len, ⟨sub = 0 ∧ sz = 1 ∧ lo + len ≤ r.length, inferInstance⟩)
    | _ => none
  | _ => none

theorem rows_take {α : Type} {sz : Nat} {ll : List (List α)} (hl : ∀ r ∈ ll, r.length = sz) (lo n : Nat) (h : lo + n ≤ ll.length) :
    (((ll.drop lo).take n).flatten) = (ll.flatten.drop (lo * sz)).take (n * sz) := by
  have h1 := take_flatten_len hl (i := lo) (by omega)
  have e1 : ll.flatten.drop (lo * sz) = (ll.drop lo).flatten := by
    conv => lhs; rw [← List.take_append_drop lo ll, List.flatten_append]
    rw [List.drop_append, h1, Nat.sub_self, List.drop_of_length_le (by omega), List.nil_append, List.drop_zero]
  have hl' : ∀ r ∈ ll.drop lo, r.length = sz := fun r hr => hl r (List.mem_of_mem_drop hr)
  have h2 := take_flatten_len hl' (i := n) (by simp; omega)
  have e2 : (ll.drop lo).flatten = ((ll.drop lo).take n).flatten ++ ((ll.drop lo).drop n).flatten := by rw [← List.flatten_append, List.take_append_drop]
  rw [e1, e2]
  generalize ((ll.drop lo).take n).flatten = A at *
  rw [List.take_append_of_le_length (by omega), List.take_of_length_le (by omega)]

/-- the cells that a slice holds -/
theorem srcL_ok {e : TypeId} {x : LV} {v : Value} {m : M} {lo len : Nat} {pr : DP} (I : Inv B w0 E own h nx w) (hx : VR E x v) (hs : srcL h e x = some (m, lo, len, pr)) (hp : pr.p) :
    ∃ (s : Nat) (ll : List (List LV)) (a : Option Addr) (cap : Nat) (cells : List Value), Mdl.view m = .arr s ll ∧ lo + len ≤ ll.length ∧ v = .slice a len cap ∧ cells.length = len * s ∧
      VRs E ((ll.drop lo).take len).flatten cells ∧ ∀ W : World, W.heap = w.heap → (Builtin.firstCells s len (.slice a len cap)).run P W = .ok cells.toArray W := by
  unfold srcL at hs
  cases hx
  case sl id sub sz lo' len' ei a cap he hlc hcap =>
    simp only at hs
    have cells_of : ∀ (s : Nat) (cells : List Value), cells.length = len' * s → 0 < s → (0 < cap → ∀ j u, cells[j]? = some u → w.cell? ⟨ei.blk sub, lo' * sz + j, none⟩ = some u) →
        ∀ W : World, W.heap = w.heap → (Builtin.firstCells s len' (.slice a len' cap)).run P W = .ok cells.toArray W := by
      intro s cells hcl hs0 hcc W hW
      rcases Nat.eq_zero_or_pos cap with hc0 | hc0
      · have : len' = 0 := by omega
        subst this
        have : cells = [] := List.eq_nil_of_length_eq_zero (by simpa using hcl)
        subst this
        cases a <;> simp [Builtin.firstCells, loadCells, loadCellsFrom]
      · obtain ⟨rfl, _⟩ := hcap hc0
        have := run_loadCells_list (P := P) W ⟨ei.blk sub, lo' * sz, none⟩ cells fun j u hj => by
          rw [Addr.add_eq]
          have := hcc hc0 j u hj
          simpa [World.cell?, hW] using this
        rw [hcl] at this
        simpa [Builtin.firstCells] using this
    cases hid : hget h id with
    | none => rw [hid] at hs; simp at hs
    | some o =>
      rw [hid] at hs
      obtain ⟨e', he', hO⟩ := I.obj id o hid
      rw [he] at he'; cases he'
      cases o with
      | mp _ => simp at hs
      | lp _ => simp at hs
      | df => simp at hs
      | ch _ _ => simp at hs
      | o m1 =>
        simp only [Option.some.injEq, Prod.mk.injEq] at hs
        obtain ⟨rfl, rfl, rfl, rfl⟩ := hs
        obtain ⟨rfl, rfl, hlen, hA⟩ := hp
        obtain ⟨s, ll, hview⟩ := Mdl.isArr_ok hA
        obtain ⟨hs0, hs, hl, hw⟩ := Mdl.wf hview
        rw [hl] at hlen
        generalize own id = ow at hO
        cases hO with
        | lay E1 es own1 a1 b c d f g => rw [hview] at a1; cases a1
        | arrNil a1 b =>
          rw [hview] at a1; cases a1
          have h0 : len' = 0 := by simp at hlen; omega
          subst h0
          exact ⟨s, [], a, cap, [], hview, by simpa using hlen, rfl, by simp, by simp; exact .nil, cells_of s [] (by simp) hs0 (by simp)⟩
        | arr a1 b c d f =>
          rename_i T sz2 ll2 vs
          rw [hview] at a1; cases a1
          refine ⟨s, ll, a, cap, ((vs.toList.take (ll.length * s)).drop (lo' * s)).take (len' * s), hview, hlen, rfl, ?_, ?_, ?_⟩
          · have := Nat.mul_le_mul_right s hlen
            rw [Nat.add_mul] at this
            simp; omega
          · rw [rows_take (fun r hr => (hw r hr).1) lo' len' hlen]
            exact (d.drop _).take _
          · refine cells_of s _ ?_ hs0 ?_
            · have := Nat.mul_le_mul_right s hlen
              rw [Nat.add_mul] at this
              simp; omega
            · intro _ j u hj
              rw [List.getElem?_take] at hj
              split at hj
              · rw [List.getElem?_drop, List.getElem?_take] at hj
                split at hj
                · rw [hs]; simp [World.cell?, b]; simpa using hj
                · cases hj
              · cases hj
      | st T r =>
        simp only [Option.map_eq_some_iff, Prod.mk.injEq] at hs
        obtain ⟨m1, hmk, rfl, rfl, rfl, rfl⟩ := hs
        obtain ⟨rfl, rfl, hlen⟩ := hp
        obtain ⟨s, hview⟩ := Mdl.make_ok hmk
        obtain ⟨hs0, hs, hl, hw⟩ := Mdl.wf hview
        have hfl : ∀ l : List LV, (l.map fun y => [y]).flatten = l := by intro l; induction l with | nil => rfl | cons y l ih => simp [ih]
        rcases Nat.eq_zero_or_pos len' with h0 | h0
        · subst h0
          refine ⟨s, _, a, cap, [], hview, by simp, rfl, by simp, ?_, cells_of s [] (by simp) hs0 (by simp)⟩
          simp; exact .nil
        · have hs1 : s = 1 := by
            obtain ⟨y, hy⟩ : ∃ y, y ∈ ((r.drop lo').take len').map fun y => [y] := by
              obtain ⟨y, hy⟩ : ∃ y, ((r.drop lo').take len')[0]? = some y := by
                refine ⟨_, List.getElem?_eq_getElem ?_⟩
                simp; omega
              exact ⟨[y], List.mem_map.2 ⟨y, List.mem_of_getElem? hy, rfl⟩⟩
            have := (hw y hy).1
            obtain ⟨y', _, rfl⟩ := List.mem_map.1 hy
            simpa using this.symm
          subst hs1
          generalize own id = ow at hO
          cases hO with
          | st a1 c d f =>
            rename_i vs
            have hrl := c.length
            refine ⟨1, _, a, cap, (vs.toList.drop lo').take len', hview, by simp; omega, rfl, by simp; rw [← Array.length_toList, ← hrl]; omega, ?_, ?_⟩
            · rw [List.drop_zero, List.take_of_length_le (by simp; omega), hfl]
              exact (c.drop lo').take len'
            · refine cells_of 1 _ (by simp; rw [← Array.length_toList, ← hrl]; omega) (by omega) ?_
              intro _ j u hj
              rw [List.getElem?_take] at hj
              split at hj
              · rw [List.getElem?_drop] at hj
                simp [World.cell?, a1]; simpa using hj
              · cases hj
  all_goals cases hs

/-- the object gets a new name -/
theorem Inv.rename (I : Inv B w0 E own h nx w) {a : Nat} {o : LObj M} {e : EI} (ha : hget h a = some o) (he : E a = some e) (hna : a ≠ nx) :
    ∃ own', Inv B w0 (E.put nx e) own' ((nx, o) :: hdel h a) (nx + 1) w := by
  have hget' : ∀ k, hget ((nx, o) :: hdel h a) k = if k = nx then some o else if k = a then none else hget h k := by
    intro k
    simp only [hget, hget_hdel]
    by_cases hk : k = nx
    · subst hk; simp
    · rw [if_neg hk, show (nx == k) = false from by simp; omega]; rfl
  refine ⟨fun k => if k = nx then own a else own k, I.kept, I.new, ?_, ?_, ?_, ?_⟩
  · intro id x hx
    unfold Env.put at hx
    split at hx
    · omega
    · exact Nat.lt_succ_of_lt (I.dom id x hx)
  · intro k x hk
    rw [hget'] at hk
    by_cases hkn : k = nx
    · subst hkn
      simp only [if_true] at hk ⊢
      cases hk
      obtain ⟨e', he', hO⟩ := I.obj a o ha
      rw [he] at he'; cases he'
      exact ⟨e, Env.put_same _ _ _, hO.ext (Ext.put I.fresh)⟩
    · simp only [hkn, if_false] at hk ⊢
      split at hk
      · cases hk
      · obtain ⟨e', he', hO⟩ := I.obj k x hk
        exact ⟨e', Ext.put I.fresh _ _ he', hO.ext (Ext.put I.fresh)⟩
  · intro i j hi hj hij b hbi hbj
    rw [hget'] at hi hj
    by_cases hin : i = nx
    · have hjn : j ≠ nx := fun h => hij (hin.trans h.symm)
      simp only [hin, if_true] at hbi
      simp only [hjn, if_false] at hbj hj
      split at hj
      · simp at hj
      · rename_i hja
        exact I.disj a j (by simp [ha]) hj (fun h => hja h.symm) b hbi hbj
    · simp only [hin, if_false] at hbi hi
      split at hi
      · simp at hi
      · rename_i hia
        by_cases hjn : j = nx
        · simp only [hjn, if_true] at hbj
          exact I.disj i a hi (by simp [ha]) hia b hbi hbj
        · simp only [hjn, if_false] at hbj hj
          split at hj
          · simp at hj
          · exact I.disj i j hi hj hij b hbi hbj
  · intro k x hk b hbk
    rw [hget'] at hk
    by_cases hkn : k = nx
    · simp only [hkn, if_true] at hbk
      exact I.may a o ha b hbk
    · simp only [hkn, if_false] at hbk hk
      split at hk
      · cases hk
      · exact I.may k x hk b hbk

def appL (P : Program) (h : List (Nat × LObj M)) (nx : Nat) (T : TypeId) (s x : LV) : Eff M :=
  match slC P T with
  | some (e, sz, by_) =>
    match srcL h e x with
    | some (m2, lo, len, pr) =>
      match s with
      | .ns => { pre := pr.p ∧ Mdl.sz m2 = sz ∧ len ≤ 2147483648 ∧ by_ ≤ 65536, v := .sl nx 0 sz 0 len, up := some ((nx, .o (Mdl.cut m2 lo len)) :: h, nx + 1) }
      | .sl a sub sz1 z n =>
        match hget h a with
        | some (.o m) =>
          match Mdl.cat m m2 lo len with
          | some m' => { pre := pr.p ∧ sub = 0 ∧ z = 0 ∧ sz1 = sz ∧ Mdl.sz m = sz ∧ Mdl.isArr m = true ∧ n = Mdl.len m ∧ n + len ≤ 2147483648 ∧ by_ ≤ 65536,
                         v := .sl nx 0 sz 0 (n + len), up := some ((nx, .o m') :: hdel h a, nx + 1), foot := [a] }
          | none => bad
        | _ => bad
      | _ => bad
    | none => bad
  | none => bad

theorem new_arr (I : Inv B w0 E own h nx w) {m : M} {s : Nat} {ll : List (List LV)} {vs : Array Value} {T : TypeId} {W : World} (hm : Mdl.view m = .arr s ll)
    (hW : W.heap = w.heap ∧ W.os = w.os ∧ W.tape = w.tape ∧ W.output = w.output) (hl : ll.length * s ≤ vs.size) (hv : VRs E ll.flatten (vs.toList.take (ll.length * s))) {cap : Nat} (hc : cap * s ≤ vs.size) (hlc : ll.length ≤ cap) :
    ∃ own', Inv B w0 (E.put nx (newEI w vs.size)) own' ((nx, .o m) :: h) (nx + 1) (W.alloc (.cells vs T)) ∧
      VR (E.put nx (newEI w vs.size)) (.sl nx 0 s 0 ll.length) (.slice (some ⟨w.heap.size, 0, none⟩) ll.length cap) := by
  have hsz : W.heap.size = w.heap.size := by rw [hW.1]
  have hhp : (W.alloc (.cells vs T)).heap = w.heap.push (.cells vs T) := by show W.heap.push _ = _; rw [hW.1]
  refine ⟨_, I.fresh_obj (ow := [w.heap.size]) hW.2.1 hW.2.2.1 hW.2.2.2 (by rw [hhp]; simp) (fun b hb => by rw [hhp, Array.getElem?_push, if_neg (by omega)]) ?_ (by simp), ?_⟩
  · exact .arr (t := T) (vs := vs) hm (by rw [hhp]; simp [newEI]) hl (hv.ext (Ext.put I.fresh)) rfl
  · exact VR.sl (e := newEI w vs.size) (Env.put_same _ _ _) hlc fun _ => ⟨by simp [newEI], by simpa [newEI] using hc⟩

theorem zeroCells_size (z : Array Value) (n : Nat) : (Builtin.zeroCells z n).size = n * z.size := by simp [Builtin.zeroCells]

theorem appL_ok {T ty : TypeId} {s x : LV} {vs vx : Value} (hz : ∀ i z, P.info? (slC P T |>.map (·.1) |>.getD 0) = some i → i.zero = some z → z.cells.size = i.size)
    (I : Inv B w0 E own h nx w) (hs : VR E s vs) (hx : VR E x vx) (hp : (appL P h nx T s x).pre) :
    ∃ E' own' v w', (Builtin.append_ #[T, T] ty #[vs, vx]).run P w = .ok v w' ∧ Grow nx E E' ∧ Inv B w0 E' own' ((appL P h nx T s x).h h) ((appL P h nx T s x).nx nx) w' ∧ VR E' (appL P h nx T s x).v v := by
  unfold appL at *
  cases hsl : slC P T with
  | none => rw [hsl] at hp; exact hp.elim
  | some y =>
    obtain ⟨e, sz, by_⟩ := y
    rw [hsl] at hp hz
    simp only [Option.map_some, Option.getD_some] at hz
    obtain ⟨i, zv, hu, hi, hzv, hsize, hby, hb0⟩ := slC_some hsl
    simp only at hu hi hsize hby
    have hzs := hz i zv hi hzv
    simp only at hp ⊢
    cases hsrc : srcL h e x with
    | none => rw [hsrc] at hp; exact hp.elim
    | some q =>
      obtain ⟨m2, lo, len, pr⟩ := q
      rw [hsrc] at hp
      simp only at hp ⊢
      cases hs
      case ns =>
        obtain ⟨a0, ha0⟩ : ∃ a0 : Option Addr, a0 = none := ⟨_, rfl⟩
        rw [← ha0]
        simp only at hp ⊢
        obtain ⟨hpr, hsz2, hlen, hbb⟩ := hp
        obtain ⟨s2, ll2, b, c, news, hv2, hl2, rfl, hnl, hnr, hnc⟩ := srcL_ok (P := P) I hx hsrc hpr
        obtain ⟨hs0, hss, _, hw2⟩ := Mdl.wf hv2
        rw [hss] at hsz2
        subst hsz2
        have hcut := Mdl.cut_ok (lo := lo) (n := len) hv2
        have hcl : ((ll2.drop lo).take len).length = len := by simp; omega
        obtain ⟨h1, h2⟩ := run_append_slices (w := w) T ty e i zv hu hi hzv a0 b 0 0 len c [] news (by intro W _; cases a0 <;> simp [Builtin.firstCells, loadCells, loadCellsFrom]) (by rw [hsize]; exact hnc) (by omega) (by
          rw [hby]; have : (0 + len) * by_ ≤ 2147483648 * 65536 := Nat.mul_le_mul (by omega) hbb
          omega)
        by_cases hroom : 0 + len ≤ 0
        · have h0 : len = 0 := by omega
          subst h0
          have hnw : news = [] := List.eq_nil_of_length_eq_zero (by simpa using hnl)
          subst hnw
          have hr : (Builtin.append_ #[T, T] ty #[.slice a0 0 0, .slice b 0 c]).run P w = .ok (.slice a0 0 0) w := by
            rw [h1 hroom]; cases a0 <;> simp [storeCells]
          have hE := Grow.put (e := { blk := fun _ => 0, room := fun _ => 0 }) I.fresh
          refine ⟨_, _, _, w, hr, hE, I.fresh_obj (ow := []) rfl rfl rfl (Nat.le_refl _) (fun _ _ => rfl) (.arrNil (sz := s2) (by rw [hcut]; simp) rfl) (by simp), ?_⟩
          exact .sl (Env.put_same _ _ _) (Nat.le_refl _) (fun h => absurd h (Nat.lt_irrefl _))
        · obtain ⟨nc, w', hnc', hh, ho, ht, hout, hr⟩ := h2 hroom
          simp only [Nat.zero_add] at hnc' hr
          have hzc := zeroCells_size zv.cells (nc - len)
          rw [hzs, hsize] at hzc
          have hsub : nc * s2 = len * s2 + (nc - len) * s2 := by rw [← Nat.add_mul]; congr 1; omega
          obtain ⟨own', hI, hv⟩ := new_arr (W := w') (vs := [].toArray ++ news.toArray ++ Builtin.zeroCells zv.cells (nc - len)) (T := e) (cap := nc) I hcut ⟨hh, ho, ht, hout⟩ (by simp [hcl, hnl]) (by
            rw [hcl]; simp [← hnl]; exact hnr) (by simp [hnl, hzc]; omega) (by rw [hcl]; omega)
          rw [hcl] at hv
          refine ⟨_, own', _, _, hr, Grow.put I.fresh, hI, by simpa using hv⟩
      case sl a sub sz1 z n ea aa cap hea hncap hcapa =>
        simp only at hp ⊢
        cases hida : hget h a with
        | none => rw [hida] at hp; exact hp.elim
        | some oa =>
          rw [hida] at hp
          cases oa with
          | st => exact hp.elim
          | mp _ => exact hp.elim
          | lp _ => exact hp.elim
          | df => exact hp.elim
          | ch _ _ => exact hp.elim
          | o m =>
            simp only at hp ⊢
            cases hcat : Mdl.cat m m2 lo len with
            | none => rw [hcat] at hp; exact hp.elim
            | some m' =>
              rw [hcat] at hp
              simp only at hp ⊢
              obtain ⟨hpr, rfl, rfl, rfl, hsz1, hA, hn, hlen, hbb⟩ := hp
              obtain ⟨s2, ll2, b, c, news, hv2, hl2, rfl, hnl, hnr, hnc⟩ := srcL_ok (P := P) I hx hsrc hpr
              have hsrc1 : srcL h e (.sl a 0 sz1 0 n) = some (m, 0, n, ⟨0 = 0 ∧ sz1 = Mdl.sz m ∧ 0 + n ≤ Mdl.len m ∧ Mdl.isArr m = true, inferInstance⟩) := by simp [srcL, hida]
              obtain ⟨s1, ll1, aa', cap', olds, hv1, hl1, hveq, hol, hor, hoc⟩ := srcL_ok (P := P) I (VR.sl hea hncap hcapa) hsrc1 ⟨rfl, hsz1.symm, by omega, hA⟩
              cases hveq
              obtain ⟨hs0, hss, hlm, hw1⟩ := Mdl.wf hv1
              rw [hsz1] at hss
              subst hss
              obtain ⟨hs12, hv'⟩ := Mdl.cat_ok hv1 hv2 hl2 hcat
              subst hs12
              rw [hlm] at hn
              have hpl : ((ll2.drop lo).take len).length = len := by simp; omega
              have hcl : (ll1 ++ (ll2.drop lo).take len).length = n + len := by rw [List.length_append, hpl, hn]
              rw [List.drop_zero, List.take_of_length_le (by omega)] at hor
              obtain ⟨h1, h2⟩ := run_append_slices (w := w) T ty e i zv hu hi hzv aa b n cap len c olds news (by rw [hsize]; exact hoc) (by rw [hsize]; exact hnc) (by omega) (by
                rw [hby]; have : (n + len) * by_ ≤ 2147483648 * 65536 := Nat.mul_le_mul (by omega) hbb
                omega)
              have hanx : a ≠ nx := Nat.ne_of_lt (I.liveLt hida)
              by_cases hroom : n + len ≤ cap
              · have hr := h1 hroom
                obtain ⟨e', he', hO⟩ := I.obj a _ hida
                rw [hea] at he'; cases he'
                rcases Nat.eq_zero_or_pos cap with hc0 | hc0
                · -- nothing there, nothing added
                  have hn0 : n = 0 := by omega
                  have hl0 : len = 0 := by omega
                  subst hc0 hn0 hl0
                  have hll : ll1 = [] := List.eq_nil_of_length_eq_zero hn.symm
                  subst hll
                  have hnw : news = [] := List.eq_nil_of_length_eq_zero (by simpa using hnl)
                  subst hnw
                  have hr' : (Builtin.append_ #[T, T] ty #[.slice aa 0 0, .slice b 0 c]).run P w = .ok (.slice aa 0 0) w := by
                    rw [hr]; cases aa <;> simp [storeCells]
                  have hO' : OR E ea (.o m') w (own a) := by
                    generalize own a = ow at hO
                    cases hO with
                    | lay E1 es own1 a1 b1 c1 d f g => rw [hv1] at a1; cases a1
                    | arrNil a1 b1 => rw [hv1] at a1; cases a1; exact .arrNil (sz := s2) (by rw [hv']; simp) b1
                    | arr a1 b1 c1 d f => rw [hv1] at a1; cases a1; exact .arr (by rw [hv']) b1 (by simp) (by simp; exact .nil) f
                  obtain ⟨own', hI⟩ := (I.turn (w' := w) (ow := own a) hida hea rfl rfl rfl (Nat.le_refl _) (fun _ _ _ => rfl) hO' (fun _ hb => .inl hb)).rename (a := a) (by rw [hget_hset, if_pos rfl]) hea hanx
                  refine ⟨_, own', _, w, hr', Grow.put I.fresh, hI.forget ?_, .sl (Env.put_same _ _ _) (Nat.le_refl _) (fun h => absurd h (Nat.lt_irrefl _))⟩
                  intro k o hk
                  simp only [Eff.h, hget] at hk ⊢
                  by_cases hkn : nx = k
                  · subst hkn; simpa using hk
                  · rw [show (nx == k) = false from by simpa using hkn] at hk ⊢
                    simp only [cond_false, hget_hdel, hget_hset] at hk ⊢
                    split at hk
                    · cases hk
                    · rename_i hka; rw [if_neg hka, if_neg hka]; exact hk
                · obtain ⟨rfl, hroom2⟩ := hcapa hc0
                  obtain ⟨ow, how⟩ : ∃ ow, ow = own a := ⟨_, rfl⟩
                  rw [← how] at hO
                  cases hO with
                  | lay E1 es own1 a1 b1 c1 d f g => rw [hv1] at a1; cases a1
                  | arrNil a1 b1 =>
                    rw [b1] at hroom2
                    have : 0 < (0 + cap) * s2 := Nat.mul_pos (by omega) hs0
                    omega
                  | arr a1 b1 c1 d f =>
                    rename_i TT sz3 ll3 cur
                    rw [hv1] at a1; cases a1
                    have hfit : (n + len) * s2 ≤ cur.size := by
                      have := Nat.mul_le_mul_right s2 hroom
                      rw [f, Nat.zero_add] at hroom2
                      omega
                    rw [Nat.add_mul] at hfit
                    have hone : ∀ u ∈ news, u.oneCell' = true := by
                      intro u hu
                      obtain ⟨j, hj⟩ := List.getElem?_of_mem hu
                      have hjl := hnr.length
                      have hj2 : j < ((ll2.drop lo).take len).flatten.length := by rw [hjl]; exact (List.getElem?_eq_some_iff.1 hj).1
                      obtain ⟨u', hu', hvr⟩ := hnr.get j _ (List.getElem?_eq_getElem hj2)
                      rw [hj] at hu'; cases hu'
                      obtain ⟨_, _, _, hw2⟩ := Mdl.wf hv2
                      obtain ⟨r, hr1, hr2⟩ := List.mem_flatten.1 (List.getElem_mem hj2)
                      exact hvr.isOne ((hw2 r (List.mem_of_mem_drop (List.mem_of_mem_take hr1))).2 _ hr2)
                    have hst := run_storeCells_at P (ea.blk 0) (n * s2) TT news 0 cur w b1 (by simp [hnl]; omega) hone
                    simp only [Nat.add_zero] at hst
                    have hr' : (Builtin.append_ #[T, T] ty #[.slice (some ⟨ea.blk 0, 0 * s2, none⟩) n cap, .slice b len c]).run P w =
                        .ok (.slice (some ⟨ea.blk 0, 0 * s2, none⟩) (n + len) cap) (w.setRow (ea.blk 0) (cur.toList.take (n * s2) ++ news ++ cur.toList.drop (n * s2 + news.length)).toArray) := by
                      rw [hr]
                      simp only [hsize, Addr.add_eq, Nat.zero_mul, Nat.zero_add, hst, Result.andThen_ok]
                    have hO' : OR E ea (.o m') (w.setRow (ea.blk 0) (cur.toList.take (n * s2) ++ news ++ cur.toList.drop (n * s2 + news.length)).toArray) [ea.blk 0] := by
                      refine .arr (vs := (cur.toList.take (n * s2) ++ news ++ cur.toList.drop (n * s2 + news.length)).toArray) hv' (setRow_heap _ _ _ _ _ _ b1) ?_ ?_ ?_
                      · rw [hcl, Nat.add_mul]; simp [hnl]; omega
                      · rw [hcl, Nat.add_mul, List.flatten_append]
                        have e1 : (cur.toList.take (n * s2) ++ news ++ cur.toList.drop (n * s2 + news.length)).take (n * s2 + len * s2) = cur.toList.take (n * s2) ++ news := by
                          rw [List.take_append_of_le_length (by simp [hnl]; omega), List.take_of_length_le (by simp [hnl]; omega)]
                        simp only [e1]
                        rw [← hn] at d
                        exact d.append hnr
                      · rw [f]; simp [hnl]; omega
                    obtain ⟨own', hI⟩ := (I.turn (w' := w.setRow (ea.blk 0) (cur.toList.take (n * s2) ++ news ++ cur.toList.drop (n * s2 + news.length)).toArray) (ow := [ea.blk 0]) hida hea rfl rfl rfl (by simp [World.setRow]) (fun b hb hnb => setRow_other _ _ _ _ (by rw [← how] at hnb; simpa using hnb)) hO' (fun b hb => .inl (by rw [← how]; exact hb))).rename (a := a) (by rw [hget_hset, if_pos rfl]) hea hanx
                    refine ⟨_, own', _, _, hr', Grow.put I.fresh, hI.forget ?_, .sl (Env.put_same _ _ _) hroom fun _ => ⟨rfl, hroom2⟩⟩
                    intro k o hk
                    simp only [Eff.h, hget] at hk ⊢
                    by_cases hkn : nx = k
                    · subst hkn; simpa using hk
                    · rw [show (nx == k) = false from by simpa using hkn] at hk ⊢
                      simp only [cond_false, hget_hdel, hget_hset] at hk ⊢
                      split at hk
                      · cases hk
                      · rename_i hka; rw [if_neg hka, if_neg hka]; exact hk
              · obtain ⟨nc, w', hnc', hh, ho, ht, hout, hr⟩ := h2 hroom
                have hzc := zeroCells_size zv.cells (nc - (n + len))
                rw [hzs, hsize] at hzc
                have hsub : nc * s2 = n * s2 + len * s2 + (nc - (n + len)) * s2 := by rw [← Nat.add_mul, ← Nat.add_mul]; congr 1; omega
                obtain ⟨own', hI, hv⟩ := new_arr (W := w') (vs := olds.toArray ++ news.toArray ++ Builtin.zeroCells zv.cells (nc - (n + len))) (T := e) (cap := nc) (I.del a) hv' ⟨hh, ho, ht, hout⟩ (by rw [hcl, Nat.add_mul]; simp only [Array.size_append, List.size_toArray, hol, hnl, hzc]; omega) (by
                  rw [hcl, Nat.add_mul, List.flatten_append]
                  have := hor.append hnr
                  simp only [Array.toList_append, List.append_assoc]
                  have e3 : ∀ Z : List Value, (olds ++ (news ++ Z)).take (n * s2 + len * s2) = olds ++ news := by
                    intro Z
                    rw [← List.append_assoc, List.take_append_of_le_length (by simp [hol, hnl]), List.take_of_length_le (by simp [hol, hnl])]
                  rw [e3]
                  exact this) (by simp [hol, hnl, hzc]; omega) (by rw [hcl]; omega)
                rw [hcl] at hv
                refine ⟨_, own', _, _, hr, Grow.put I.fresh, hI, hv⟩
      all_goals exact hp.elim
end
end Lx

/- The engine, part 6: the other operations. -/
namespace Lx
open Go Go.RowKit

section
variable {M : Type} [Mdl M] {P : Program} {B : Nat → Prop} {w0 w w' : World} {E : Env} {own : Nat → List Nat} {h : List (Nat × LObj M)} {nx : Nat}

/-! literals -/
def plC (P : Program) (t : TypeId) : Option (List LV × (Nat → Option (Nat × Nat))) :=
  match P.info? t, P.underlying t with
  | some it, some (.struct fs) =>
    match it.zero, fs.toList.mapM (fun f => (P.info? f.type).map fun i => (f.offset, i.size)) with
    | some z, some pl => some ((ofValue z).cells, fun i => pl[i]?)
    | _, _ => none
  | some it, some (.array _ e) =>
    match it.zero, P.info? e with
    | some z, some ie => some ((ofValue z).cells, fun i => some (i * ie.size, ie.size))
    | _, _ => none
  | _, _ => none

def buildL (P : Program) (t : TypeId) (ps : List (Nat × LV)) : Eff M :=
  match plC P t with
  | some (z, pl) => { pre := (z.all LV.one = true ∧ 0 < z.length) ∧ (fillL pl z ps).1, v := .agg (fillL pl z ps).2 }
  | none => bad

omit [Mdl M] in
theorem buildL_ok {t : TypeId} {ps : List (Nat × LV)} {qs : List (Nat × Value)} (hl : ps.length = qs.length) (ha : ∀ (j : Nat) a b, ps[j]? = some a → qs[j]? = some b → a.1 = b.1 ∧ VR E a.2 b.2)
    (hp : (buildL (M := M) P t ps).pre) : ∃ v, (Instr.build t qs.toArray).run P w = .ok v w ∧ VR E (buildL (M := M) P t ps).v v := by
  unfold buildL at *
  cases hpl : plC P t with
  | none => rw [hpl] at hp; exact hp.elim
  | some zp =>
    obtain ⟨z, pl⟩ := zp
    rw [hpl] at hp
    obtain ⟨⟨hz1, hz0⟩, hp⟩ := hp
    simp only
    unfold plC at hpl
    cases hit : P.info? t with
    | none => rw [hit] at hpl; simp at hpl
    | some it =>
      cases hu : P.underlying t with
      | none => rw [hit, hu] at hpl; simp at hpl
      | some d =>
        rw [hit, hu] at hpl
        cases d <;> simp only [reduceCtorEq] at hpl
        case struct fs =>
          cases hz : it.zero with
          | none => rw [hz] at hpl; simp at hpl
          | some zv =>
            cases hm : fs.toList.mapM (fun f => (P.info? f.type).map fun i => (f.offset, i.size)) with
            | none => rw [hz, hm] at hpl; simp at hpl
            | some places =>
              rw [hz, hm] at hpl
              simp only [Option.some.injEq, Prod.mk.injEq] at hpl
              obtain ⟨rfl, rfl⟩ := hpl
              obtain ⟨us, hus, hr, _⟩ := fillL_ok (E := E) (fun i => places[i]?) _ ps zv.cells qs (ofValue_cells_ok (E := E) zv ⟨hz1, hz0⟩) (by simpa using hz1) hl ha hp
              refine ⟨_, run_build w t qs.toArray us ?_, by simpa using VR.agg hr⟩
              simp [Program.built, hit, hu, hz, hm]
              exact hus
        case array n e =>
          cases hz : it.zero with
          | none => rw [hz] at hpl; simp at hpl
          | some zv =>
            cases hie : P.info? e with
            | none => rw [hz, hie] at hpl; simp at hpl
            | some ie =>
              rw [hz, hie] at hpl
              simp only [Option.some.injEq, Prod.mk.injEq] at hpl
              obtain ⟨rfl, rfl⟩ := hpl
              obtain ⟨us, hus, hr, _⟩ := fillL_ok (E := E) (fun i => some (i * ie.size, ie.size)) _ ps zv.cells qs (ofValue_cells_ok (E := E) zv ⟨hz1, hz0⟩) (by simpa using hz1) hl ha hp
              refine ⟨_, run_build w t qs.toArray us ?_, by simpa using VR.agg hr⟩
              simp [Program.built, hit, hu, hz, hie]
              exact hus

/-- the parts of a slice literal, all in a row -/
def rowsL : Nat → List (Nat × LV) → Option (List (List LV))
  | _, [] => some []
  | k, (i, x) :: r => bif i == k then (rowsL (k + 1) r).map fun l => x.cells :: l else none

def bsliceL (P : Program) (h : List (Nat × LObj M)) (nx : Nat) (t : TypeId) (n : Nat) (ps : List (Nat × LV)) : Eff M :=
  match slC P t with
  | some (e, sz, _) =>
    match rowsL 0 ps with
    | some rows =>
      match Mdl.make (M := M) e rows with
      | some m => { pre := rows.length = n ∧ Mdl.sz m = sz ∧ n * sz ≤ 16777216, v := .sl nx 0 sz 0 n, up := some ((nx, .o m) :: h, nx + 1) }
      | none => bad
    | none => bad
  | none => bad

theorem fill_rows (sz : Nat) : ∀ (qs : List (Nat × Value)) (k : Nat) (A : Array Value) (pre : List Value), (∀ (j : Nat) q, qs[j]? = some q → q.1 = k + j ∧ q.2.cells.size = sz) →
    A.size = pre.length + qs.length * sz → A.toList.take pre.length = pre → pre.length = k * sz →
    ∃ us : Array Value, Instr.fill (fun i => some (i * sz, sz)) A qs = some us ∧ us.toList = pre ++ (qs.map fun q => q.2.cells.toList).flatten
  | [], k, A, pre, _, hA, hpre, _ => ⟨A, rfl, by
      simp at hA
      rw [← hpre]; simp; rw [List.take_of_length_le (by simp; omega)]⟩
  | (i, v) :: qs, k, A, pre, hq, hA, hpre, hk => by
    obtain ⟨hi, hv⟩ := hq 0 _ rfl
    simp only [Nat.add_zero] at hi
    simp only at hv
    subst hi
    have hlen : qs.length * sz + sz = (qs.length + 1) * sz := by rw [Nat.add_mul]; omega
    simp only [List.length_cons] at hA
    have hfold := fill_fold (i * sz) v.cells.toList 0 A (by simp; omega)
    obtain ⟨A', hA'⟩ : ∃ A' : Array Value, A' = (v.cells.toList.zipIdx 0).foldl (fun (a : Array Value) (x : Value × Nat) => a.setIfInBounds (i * sz + x.2) x.1) A := ⟨_, rfl⟩
    rw [← hA'] at hfold
    simp only [Nat.add_zero] at hfold
    rw [hk] at hpre
    rw [hpre] at hfold
    have hvl : v.cells.toList.length = sz := by simpa using hv
    have hsz' : A'.size = A.size := by
      have := congrArg List.length hfold
      simp only [Array.length_toList, List.length_append, List.length_drop, hvl, hk] at this
      omega
    obtain ⟨us, hus, hul⟩ := fill_rows sz qs (i + 1) A' (pre ++ v.cells.toList) (fun j q hj => by
        obtain ⟨a, b⟩ := hq (j + 1) q (by simpa using hj)
        exact ⟨by omega, b⟩) (by rw [hsz', List.length_append, hvl]; omega) (by
        rw [hfold, List.take_append_of_le_length (by simp), List.take_of_length_le (by simp)]) (by rw [List.length_append, hvl, hk, Nat.add_mul]; omega)
    refine ⟨us, ?_, by rw [hul]; simp [List.append_assoc]⟩
    simp only [Instr.fill]
    rw [if_neg (by simp [hv]; omega), ← hus]
    congr 1
    rw [hA', ← Array.foldl_toList]
    simp

omit [Mdl M] in
theorem rowsL_ok : ∀ (ps : List (Nat × LV)) (k : Nat) (rows : List (List LV)) (qs : List (Nat × Value)), rowsL k ps = some rows → ps.length = qs.length →
    (∀ (j : Nat) a b, ps[j]? = some a → qs[j]? = some b → a.1 = b.1 ∧ VR E a.2 b.2) → (∀ r ∈ rows, 0 < r.length ∧ ∀ x ∈ r, x.one = true) →
    rows.length = qs.length ∧ (∀ (j : Nat) q r, qs[j]? = some q → rows[j]? = some r → q.1 = k + j ∧ VRs E r q.2.cells.toList)
  | [], k, rows, qs, hr, hl, _, _ => by
    simp [rowsL] at hr
    subst hr
    simp at hl
    have : qs = [] := List.eq_nil_of_length_eq_zero hl.symm
    subst this
    exact ⟨rfl, by simp⟩
  | (i, x) :: ps, k, rows, [], _, hl, _, _ => by simp at hl
  | (i, x) :: ps, k, rows, q :: qs, hr, hl, ha, hp => by
    simp only [rowsL] at hr
    by_cases hik : i = k
    · subst hik
      simp only [beq_self_eq_true, cond_true, Option.map_eq_some_iff] at hr
      obtain ⟨l, hl', rfl⟩ := hr
      obtain ⟨h1, h2⟩ := rowsL_ok ps (i + 1) l qs hl' (by simpa using hl) (fun j a b hj hk => ha (j + 1) a b (by simpa using hj) (by simpa using hk)) (fun r hr => hp r (by simp [hr]))
      obtain ⟨hq1, hq2⟩ := ha 0 _ _ rfl rfl
      simp only at hq1 hq2
      obtain ⟨hpos, hpure⟩ := hp x.cells (by simp)
      have hone : x.cells.all LV.one = true := by simp; intro y hy; exact hpure y hy
      refine ⟨by simp [h1], fun j q' r hj hr' => ?_⟩
      cases j with
      | zero =>
        simp at hj hr'
        subst hj hr'
        exact ⟨by simpa using hq1.symm, hq2.cells (cells_one_ne hone hpos).1 (cells_one_ne hone hpos).2⟩
      | succ j =>
        obtain ⟨a, b⟩ := h2 j q' r (by simpa using hj) (by simpa using hr')
        exact ⟨by omega, b⟩
    · rw [show (i == k) = false from by simpa using hik] at hr
      simp at hr

theorem bsliceL_ok {t : TypeId} {n : Nat} {ps : List (Nat × LV)} {qs : List (Nat × Value)} (I : Inv B w0 E own h nx w) (hl : ps.length = qs.length)
    (ha : ∀ (j : Nat) a b, ps[j]? = some a → qs[j]? = some b → a.1 = b.1 ∧ VR E a.2 b.2) (hp : (bsliceL P h nx t n ps).pre) :
    ∃ E' own' v w', (Instr.buildSlice t n qs.toArray).run P w = .ok v w' ∧ Grow nx E E' ∧ Inv B w0 E' own' ((bsliceL P h nx t n ps).h h) ((bsliceL P h nx t n ps).nx nx) w' ∧ VR E' (bsliceL P h nx t n ps).v v := by
  unfold bsliceL at *
  cases hsl : slC P t with
  | none => rw [hsl] at hp; exact hp.elim
  | some y =>
    obtain ⟨e, sz, by_⟩ := y
    rw [hsl] at hp
    simp only at hp ⊢
    obtain ⟨i, zv, hu, hi, hzv, hsize, hby, hb0⟩ := slC_some hsl
    simp only at hu hi hsize
    cases hrows : rowsL 0 ps with
    | none => rw [hrows] at hp; exact hp.elim
    | some rows =>
      rw [hrows] at hp
      simp only at hp ⊢
      cases hm : Mdl.make (M := M) e rows with
      | none => rw [hm] at hp; exact hp.elim
      | some m =>
        rw [hm] at hp
        simp only at hp ⊢
        obtain ⟨hn, hsz, hlim⟩ := hp
        obtain ⟨s, hv⟩ := Mdl.make_ok hm
        obtain ⟨hs0, hss, _, hw⟩ := Mdl.wf hv
        rw [hss] at hsz
        subst hsz
        obtain ⟨h1, h2⟩ := rowsL_ok (E := E) ps 0 rows qs hrows hl ha (fun r hr => ⟨by rw [(hw r hr).1]; exact hs0, (hw r hr).2⟩)
        have hq : ∀ (j : Nat) q, qs[j]? = some q → q.1 = 0 + j ∧ q.2.cells.size = s := by
          intro j q hj
          have hjl : j < rows.length := by rw [h1]; exact (List.getElem?_eq_some_iff.1 hj).1
          obtain ⟨a, b⟩ := h2 j q _ hj (List.getElem?_eq_getElem hjl)
          refine ⟨a, ?_⟩
          have := b.length
          rw [(hw _ (List.getElem_mem hjl)).1] at this
          simpa using this.symm
        obtain ⟨Z, hZ⟩ : ∃ Z : Array Value, Z = if n * s = 0 then #[] else zv.cells := ⟨_, rfl⟩
        obtain ⟨us, hus, hul⟩ := fill_rows s qs 0 ((Array.range (n * s)).map (Z[· % Z.size]!)) [] hq (by simp; rw [← h1, hn]) (by simp) (by simp)
        have hnews : VRs E rows.flatten us.toList := by
          rw [hul]
          simp only [List.nil_append]
          have : ∀ (rs : List (List LV)) (ks : List (Nat × Value)), rs.length = ks.length → (∀ (j : Nat) q r, ks[j]? = some q → rs[j]? = some r → VRs E r q.2.cells.toList) → True →
              VRs E rs.flatten (ks.map fun q => q.2.cells.toList).flatten := by
            intro rs
            induction rs with
            | nil => intro ks hk _ _; have : ks = [] := List.eq_nil_of_length_eq_zero hk.symm
                     subst this; exact .nil
            | cons r rs ih =>
              intro ks hk hr hp
              cases ks with
              | nil => simp at hk
              | cons q ks =>
                simp only [List.flatten_cons, List.map_cons]
                exact (hr 0 q r rfl rfl).append (ih ks (by simpa using hk) (fun j q' r' hj hr' => hr (j + 1) q' r' (by simpa using hj) (by simpa using hr')) hp)
          exact this rows qs h1 (fun j q r hj hr => (h2 j q r hj hr).2) trivial
        have hfl := flatten_len fun r hr => (hw r hr).1
        have hul2 : us.size = rows.length * s := by
          have := hnews.length
          rw [hfl] at this; simpa using this.symm
        obtain ⟨own', hI, hvr⟩ := new_arr (W := w) (vs := us) (T := e) (cap := rows.length) I hv ⟨rfl, rfl, rfl, rfl⟩ (by omega) (by rw [List.take_of_length_le (by simp; omega)]; exact hnews) (by omega) (Nat.le_refl _)
        rw [hn] at hvr
        refine ⟨_, own', _, _, ?_, Grow.put I.fresh, hI, hvr⟩
        have hlim' : ¬ (16777216 < n * s) := by omega
        by_cases h0 : n * s = 0
        · rw [if_pos h0] at hZ
          subst hZ
          rw [h0] at hus
          simp [Instr.buildSlice, run_underlying hu, Go.sizeOf, typeInfo, hi, hsize, h0, newRow]
          have hr0 : ∀ f : Nat → Value, (Array.range 0).map f = #[] := by intro f; apply Array.ext'; simp
          rw [hr0] at hus ⊢
          rw [hus]
          simp
        · rw [if_neg h0] at hZ
          subst hZ
          simp [Instr.buildSlice, run_underlying hu, Go.sizeOf, typeInfo, hi, hsize, h0, hlim', zeroValue, hzv, hus, newRow]

/-! make: a row of zeroes -/
def mksliceL (P : Program) (h : List (Nat × LObj M)) (nx : Nat) (t : TypeId) (l c : LV) : Eff M :=
  match slC P t, l, c with
  | some (e, sz, by_), .i _ n, .i _ n' =>
    match zcells P e with
    | some cs =>
      match Mdl.make (M := M) e (List.replicate n.toNat cs) with
      | some m => { pre := 0 ≤ n ∧ n = n' ∧ n ≤ 16777216 ∧ by_ ≤ 65536 ∧ Mdl.sz m = sz ∧ cs.length = sz ∧ cs.all LV.one = true ∧ 0 < cs.length,
                    v := .sl nx 0 sz 0 n.toNat, up := some ((nx, .o m) :: h, nx + 1) }
      | none => bad
    | none => bad
  | _, _, _ => bad

theorem toList_madeCells {z : Array Value} {s : Nat} (hs : z.size = s) (h0 : 0 < s) : ∀ n : Nat, (madeCells z (n * s)).toList = (List.replicate n z.toList).flatten
  | 0 => by simp [madeCells, Array.range_zero']
  | n + 1 => by
    rw [List.replicate_succ', List.flatten_append, ← toList_madeCells hs h0 n]
    apply List.ext_getElem?
    intro j
    have hlen : (madeCells z (n * s)).toList.length = n * s := by simp [madeCells]
    have hm : (n + 1) * s = n * s + s := by rw [Nat.add_mul]; omega
    by_cases hj : j < n * s
    · rw [List.getElem?_append_left (by rw [hlen]; exact hj)]
      simp only [madeCells, Array.toList_map, Array.toList_range, List.getElem?_map, List.getElem?_range (show j < (n + 1) * s by omega), List.getElem?_range hj]
    · rw [List.getElem?_append_right (by rw [hlen]; omega), hlen]
      by_cases hj2 : j < (n + 1) * s
      · have hmod : j % z.size = j - n * s := by
          rw [hs]
          have : j = (j - n * s) + n * s := by omega
          rw [this, Nat.add_mul_mod_self_right, Nat.mod_eq_of_lt (by omega)]
          omega
        have hlt : j - n * s < z.size := by rw [hs]; omega
        simp only [madeCells, Array.toList_map, Array.toList_range, List.getElem?_map, List.getElem?_range hj2, Option.map_some, hmod, List.flatten_cons, List.flatten_nil, List.append_nil]
        rw [getElem!_pos z (j - n * s) hlt]
        simp [hlt]
      · rw [List.getElem?_eq_none (by simp [madeCells]; omega), List.getElem?_eq_none (by simp; omega)]

theorem VRs.replicate {l : List LV} {vs : List Value} (h : VRs E l vs) : ∀ n : Nat, VRs E (List.replicate n l).flatten (List.replicate n vs).flatten
  | 0 => .nil
  | n + 1 => by
    simp only [List.replicate_succ, List.flatten_cons]
    exact h.append (VRs.replicate h n)

theorem mksliceL_ok {t : TypeId} {l c : LV} {vl vc : Value} (I : Inv B w0 E own h nx w) (hl : VR E l vl) (hc : VR E c vc) (hp : (mksliceL P h nx t l c).pre) :
    ∃ E' own' v w', (Instr.makeSlice t vl vc).run P w = .ok v w' ∧ Grow nx E E' ∧ Inv B w0 E' own' ((mksliceL P h nx t l c).h h) ((mksliceL P h nx t l c).nx nx) w' ∧ VR E' (mksliceL P h nx t l c).v v := by
  unfold mksliceL at *
  cases hsl : slC P t with
  | none => rw [hsl] at hp; exact hp.elim
  | some y =>
    obtain ⟨e, sz, by_⟩ := y
    rw [hsl] at hp
    cases l <;> try exact hp.elim
    cases c <;> try exact hp.elim
    rename_i k n k' n'
    cases hl
    cases hc
    simp only at hp ⊢
    cases hzc : zcells P e with
    | none => rw [hzc] at hp; exact hp.elim
    | some cs =>
      rw [hzc] at hp
      simp only at hp ⊢
      cases hm : Mdl.make (M := M) e (List.replicate n.toNat cs) with
      | none => rw [hm] at hp; exact hp.elim
      | some m =>
        rw [hm] at hp
        simp only at hp ⊢
        obtain ⟨h0, hnn, hn, hby, hsz, hcl, hone, hpos⟩ := hp
        subst hnn
        obtain ⟨i, zv, hu, hi, hzv, hsize, hbyt, hb0⟩ := slC_some hsl
        simp only at hu hi hsize hbyt
        unfold zcells at hzc
        rw [hi] at hzc
        simp only [Option.bind_some, hzv, Option.map_some, Option.some.injEq] at hzc
        subst hzc
        obtain ⟨s, hv⟩ := Mdl.make_ok hm
        obtain ⟨hs0, hss, _, hw⟩ := Mdl.wf hv
        have hcells := ofValue_cells_ok (E := E) zv ⟨hone, hpos⟩
        have hzs : zv.cells.size = s := by
          have := hcells.length
          rw [hcl, ← hsz, hss] at this
          simpa using this.symm
        have hbytes : (i.bytes : Int) * n ≤ 281474976710656 := by
          have h1 : i.bytes ≤ 65536 := by omega
          have : (i.bytes : Int) * n ≤ 65536 * 16777216 := Int.mul_le_mul (by omega) hn h0 (by omega)
          omega
        have hrun := run_make w t e i zv hu hi hzv k k' n n h0 (Int.le_refl _) hbytes (by omega)
        have hsi : i.size = s := by omega
        rw [hsi] at hrun
        have hlen : (List.replicate n.toNat (ofValue zv).cells).length = n.toNat := by simp
        obtain ⟨own', hI, hvr⟩ := new_arr (W := w) (vs := madeCells zv.cells (n.toNat * s)) (T := e) (cap := n.toNat) I hv ⟨rfl, rfl, rfl, rfl⟩ (by rw [hlen, size_madeCells]; exact Nat.le_refl _) (by
          rw [hlen, List.take_of_length_le (by simp [madeCells]), toList_madeCells hzs hs0]
          exact hcells.replicate _) (by rw [size_madeCells]; exact Nat.le_refl _) (by rw [hlen]; exact Nat.le_refl _)
        rw [hlen] at hvr
        have : sz = s := by omega
        subst this
        exact ⟨_, own', _, _, hrun, Grow.put I.fresh, hI, hvr⟩
end
end Lx

/- The engine, part 7: values. -/
namespace Lx
open Go Go.RowKit

section
variable {M : Type} [Mdl M] {P : Program} {B : Nat → Prop} {w0 w w' : World} {E : Env} {own : Nat → List Nat} {h : List (Nat × LObj M)} {nx : Nat}

def isPtr (P : Program) (t : TypeId) : Bool := match P.underlying t with | some (.pointer _) => true | _ => false
def isBoolT (P : Program) (t : TypeId) : Bool := match P.underlying t with | some .bool => true | _ => false

/-- integers -/
def isStrT (P : Program) (t : TypeId) : Bool := match P.underlying t with | some .string => true | _ => false
theorem isStrT_ok {t : TypeId} (h : isStrT P t = true) : P.underlying t = some .string := by
  unfold isStrT at h; cases hq : P.underlying t with
  | none => rw [hq] at h; cases h
  | some d => rw [hq] at h; cases d <;> first | rfl | cases h
/-- strings, so that the kernel computes them -/
def bcat (x y : ByteArray) : ByteArray := ⟨⟨x.data.toList ++ y.data.toList⟩⟩
theorem bcat_eq (x y : ByteArray) : bcat x y = x ++ y := by
  apply ByteArray.ext
  simp [bcat]
def bcut (x : ByteArray) (l k : Nat) : ByteArray := ⟨⟨(x.data.toList.take k).drop l⟩⟩
theorem bcut_eq (x : ByteArray) (l k : Nat) : bcut x l k = x.extract l k := by
  apply ByteArray.ext
  apply Array.ext'
  simp only [bcut, ByteArray.data_extract, Array.toList_extract, List.extract_eq_take_drop]
  rw [List.drop_take]
def beqs : List UInt8 → List UInt8 → Bool
  | [], [] => true
  | a :: l, b :: r => bif Nat.beq a.toNat b.toNat then beqs l r else false
  | _, _ => false
theorem beqs_eq : ∀ x y, beqs x y = (x == y)
  | [], [] => rfl
  | [], _ :: _ => rfl
  | _ :: _, [] => rfl
  | a :: l, b :: r => by
    have h : (a == b) = Nat.beq a.toNat b.toNat := by
      rw [Bool.eq_iff_iff]; simp [UInt8.toNat_inj]
    simp only [beqs, List.cons_beq_cons, beqs_eq l r, h]
    cases Nat.beq a.toNat b.toNat <;> rfl

def intL (op : BinOp) (k : IntKind) (x : Int) (k' : IntKind) (y : Int) : PV :=
  match op with
  | .add => pv (k = k') (.i k (k.wrap (x + y)))
  | .sub => pv (k = k') (.i k (k.wrap (x - y)))
  | .mul => pv (k = k') (.i k (k.wrap (x * y)))
  | .quo => pv (k = k' ∧ y ≠ 0) (.i k (k.wrap (x.tdiv y)))
  | .rem => pv (k = k' ∧ y ≠ 0) (.i k (x.tmod y))
  | .and => pv (k = k') (.i k (bits .and k x y))
  | .or => pv (k = k') (.i k (bits .or k x y))
  | .xor => pv (k = k') (.i k (bits .xor k x y))
  | .andNot => pv (k = k') (.i k (bits .andNot k x y))
  | .shl => pv (0 ≤ y) (.i k (k.wrap (x * 2 ^ min y.toNat k.bits)))
  | .shr => pv (0 ≤ y) (.i k (x.fdiv (2 ^ min y.toNat k.bits)))
  | .eql => pv (k = k') (.b (x == y))
  | .neq => pv (k = k') (.b (x != y))
  | .lss => pv (k = k') (.b (decide (x < y)))
  | .leq => pv (k = k') (.b (decide (x ≤ y)))
  | .gtr => pv (k = k') (.b (decide (x > y)))
  | .geq => pv (k = k') (.b (decide (x ≥ y)))

theorem intL_ok {op : BinOp} {k k' : IntKind} {x y : Int} {t : TypeId} (hp : (intL op k x k' y).1) :
    ∃ v, (binOp op t (.int k x) (.int k' y)).run P w = .ok v w ∧ VR E (intL op k x k' y).2 v := by
  cases op <;> simp only [intL] at hp ⊢
  case add => subst hp; exact ⟨_, by simp [binOp, Op.intArith], .i⟩
  case sub => subst hp; exact ⟨_, by simp [binOp, Op.intArith], .i⟩
  case mul => subst hp; exact ⟨_, by simp [binOp, Op.intArith], .i⟩
  case quo => obtain ⟨rfl, hy⟩ := hp; exact ⟨_, by simp [binOp, Op.intDiv, hy], .i⟩
  case rem => obtain ⟨rfl, hy⟩ := hp; exact ⟨_, by simp [binOp, Op.intDiv, hy], .i⟩
  case and => subst hp; exact ⟨_, by simp [binOp, Op.intBits]; rfl, .i⟩
  case or => subst hp; exact ⟨_, by simp [binOp, Op.intBits]; rfl, .i⟩
  case xor => subst hp; exact ⟨_, by simp [binOp, Op.intBits]; rfl, .i⟩
  case andNot => subst hp; exact ⟨_, by simp [binOp, Op.intBits, bits], .i⟩
  case shl => exact ⟨_, by simp [binOp, Op.shift, show ¬ y < 0 by omega], .i⟩
  case shr => exact ⟨_, by simp [binOp, Op.shift, show ¬ y < 0 by omega], .i⟩
  case eql => subst hp; exact ⟨_, by simp [binOp, Op.intCmp], .b⟩
  case neq => subst hp; exact ⟨_, by simp [binOp, Op.intCmp], .b⟩
  case lss => subst hp; exact ⟨_, by simp [binOp, Op.intCmp], .b⟩
  case leq => subst hp; exact ⟨_, by simp [binOp, Op.intCmp], .b⟩
  case gtr => subst hp; exact ⟨_, by simp [binOp, Op.intCmp], .b⟩
  case geq => subst hp; exact ⟨_, by simp [binOp, Op.intCmp], .b⟩

/-- strings -/
def strL (op : BinOp) (x y : ByteArray) : PV :=
  match op with
  | .add => pv (x.size + y.size ≤ 9223372036854775807) (.s (bcat x y))
  | .eql => pv (True) (.b (beqs x.data.toList y.data.toList))
  | .neq => pv (True) (.b !(beqs x.data.toList y.data.toList))
  | _ => pv (False) (.any)
theorem strL_ok {op : BinOp} {x y : ByteArray} {t : TypeId} (hp : (strL op x y).1) :
    ∃ v, (binOp op t (.string x) (.string y)).run P w = .ok v w ∧ VR E (strL op x y).2 v := by
  cases op <;> simp only [strL] at hp ⊢
  case add =>
    have hm : IntKind.i64.max = 9223372036854775807 := rfl
    refine ⟨_, ?_, .s⟩
    simp only [binOp, Op.stringOp, hm]
    rw [if_neg (by omega)]
    simp [bcat_eq]
  case eql => exact ⟨_, by simp [binOp, Op.stringOp, beqs_eq, ByteArray.toList_eq], .b⟩
  case neq => exact ⟨_, by simp [binOp, Op.stringOp, beqs_eq, ByteArray.toList_eq], .b⟩

def binL (P : Program) (op : BinOp) (t : TypeId) (x y : LV) : PV :=
  match x, y with
  | .i k a, .i k' b => intL op k a k' b
  | .s a, .s b => strL op a b
  | .b a, .b b => match op with
    | .eql => pv (isBoolT P t = true) (.b (a == b))
    | .neq => pv (isBoolT P t = true) (.b (!(a == b)))
    | _ => pv (False) (.any)
  | .np, .np => match op with
    | .eql => pv (isPtr P t = true) (.b true)
    | .neq => pv (isPtr P t = true) (.b false)
    | _ => pv (False) (.any)
  | .p .., .np => match op with
    | .eql => pv (isPtr P t = true) (.b false)
    | .neq => pv (isPtr P t = true) (.b true)
    | _ => pv (False) (.any)
  | _, _ => pv (False) (.any)

theorem binL_ok {op : BinOp} {t : TypeId} {x y : LV} {vx vy : Value} {ox oy : Operand} (hx : VR E x vx) (hy : VR E y vy) (hp : (binL P op t x y).1) :
    ∃ v, (do eqGuard op t ox oy vx vy; binOp op t vx vy : Sem Value).run P w = .ok v w ∧ VR E (binL P op t x y).2 v := by
  have key : ∀ r : PV, (∃ v, (binOp op t vx vy).run P w = .ok v w ∧ VR E r.2 v) → (eqGuard op t ox oy vx vy).run P w = .ok () w →
      ∃ v, (do eqGuard op t ox oy vx vy; binOp op t vx vy : Sem Value).run P w = .ok v w ∧ VR E r.2 v := by
    rintro r ⟨v, h1, h2⟩ h3
    exact ⟨v, by simp [h3, h1], h2⟩
  cases hx <;> cases hy <;> try exact hp.elim
  case i.i k a k' b =>
    refine key _ (intL_ok hp) ?_
    cases op <;> simp [eqGuard]
  case s.s a b =>
    refine key _ (strL_ok hp) ?_
    cases op <;> simp [eqGuard]
  case b.b a b =>
    refine key _ ?_ (by cases op <;> simp [eqGuard])
    cases op <;> simp only [binL] at hp ⊢
    case eql =>
      have hu : P.underlying t = some .bool := by
        unfold isBoolT at hp; cases hq : P.underlying t with
        | none => rw [hq] at hp; cases hp
        | some d => rw [hq] at hp; cases d <;> first | rfl | cases hp
      exact ⟨_, run_eql_bool _ t a b hu, .b⟩
    case neq =>
      have hu : P.underlying t = some .bool := by
        unfold isBoolT at hp; cases hq : P.underlying t with
        | none => rw [hq] at hp; cases hp
        | some d => rw [hq] at hp; cases d <;> first | rfl | cases hp
      refine ⟨_, run_neq_bool _ t a b hu, ?_⟩
      have : (a != b) = !(a == b) := rfl
      first | exact .b | (rw [← this]; exact .b)
  case np.np =>
    refine key _ ?_ (by cases op <;> simp [eqGuard])
    have hu : isPtr P t = true → P.underlying t = some (.pointer (P.pointee t)) := by
      intro hp
      unfold isPtr at hp; cases hq : P.underlying t with
      | none => rw [hq] at hp; cases hp
      | some d => rw [hq] at hp; cases d <;> first | (simp [Program.pointee, hq]; done) | cases hp
    cases op <;> simp only [binL] at hp ⊢
    case eql => exact ⟨_, run_eql_pointer_nil _ t none (hu hp), .b⟩
    case neq => exact ⟨_, run_neq_pointer_nil _ t none (hu hp), .b⟩
  case p.np id sub sz row col e he =>
    refine key _ ?_ (by cases op <;> simp [eqGuard])
    have hu : isPtr P t = true → P.underlying t = some (.pointer (P.pointee t)) := by
      intro hp
      unfold isPtr at hp; cases hq : P.underlying t with
      | none => rw [hq] at hp; cases hp
      | some d => rw [hq] at hp; cases d <;> first | (simp [Program.pointee, hq]; done) | cases hp
    cases op <;> simp only [binL] at hp ⊢
    case eql => exact ⟨_, run_eql_pointer_nil _ t _ (hu hp), .b⟩
    case neq => exact ⟨_, run_neq_pointer_nil _ t _ (hu hp), .b⟩

def unL (op : UnOp) (x : LV) : PV :=
  match op, x with
  | .not, .b x => pv (True) (.b !x)
  | .neg, .i k n => pv (True) (.i k (k.wrap (0 - n)))
  | .xor, .i k n => pv (True) (.i k (bits .xor k (if k.signed = true then -1 else k.max) n))
  | _, _ => pv (False) (.any)
theorem unL_ok {op : UnOp} {x : LV} {v : Value} (hx : VR E x v) (hp : (unL op x).1) : ∃ u, (Op.unary op v).run P w = .ok u w ∧ VR E (unL op x).2 u := by
  cases hx <;> cases op <;> try exact hp.elim
  case b.not => exact ⟨_, rfl, .b⟩
  case i.neg => exact ⟨_, rfl, .i⟩
  case i.xor => exact ⟨_, rfl, .i⟩

def extractL (x : LV) (i : Nat) : PV := match x with | .tup l => pv (i < l.length) (l.getD i .any) | _ => pv False .any
theorem extractL_ok {x : LV} {i : Nat} {v : Value} (hx : VR E x v) (hp : (extractL x i).1) : ∃ u, (Instr.extract v i).run P w = .ok u w ∧ VR E (extractL x i).2 u := by
  cases hx <;> try exact hp.elim
  case tup l vs hl =>
    simp only [extractL] at hp ⊢
    obtain ⟨u, hu, hr⟩ := hl.get i _ (List.getElem?_eq_getElem hp)
    refine ⟨u, by simp [Instr.extract, hu], ?_⟩
    rw [List.getD_eq_getElem?_getD, List.getElem?_eq_getElem hp]
    exact hr

/-- conversions of integers, of strings to strings -/
def convT (P : Program) (src dst : TypeId) : Option (Option IntKind) :=
  match P.underlying src, P.underlying dst with
  | some (.int _), some (.int k) => some (some k)
  | some .string, some .string => some none
  | _, _ => none
def convL (P : Program) (src dst : TypeId) (x : LV) : PV :=
  match convT P src dst, x with
  | some (some k), .i _ n => pv (True) (.i k (k.wrap n))
  | some none, .s y => pv (True) (.s y)
  | _, _ => pv (False) (.any)
theorem convL_ok {src dst : TypeId} {x : LV} {v : Value} (hx : VR E x v) (hp : (convL P src dst x).1) : ∃ u, (convert src dst v).run P w = .ok u w ∧ VR E (convL P src dst x).2 u := by
  unfold convL at *
  cases hc : convT P src dst with
  | none => rw [hc] at hp; cases x <;> exact hp.elim
  | some c =>
    rw [hc] at hp
    unfold convT at hc
    cases hs : P.underlying src with
    | none => rw [hs] at hc; simp at hc
    | some ds =>
      cases hd : P.underlying dst with
      | none => rw [hs, hd] at hc; cases ds <;> simp at hc
      | some dd =>
        rw [hs, hd] at hc
        cases ds <;> cases dd <;> simp only [reduceCtorEq, Option.some.injEq] at hc
        case int.int k0 k =>
          subst hc
          cases hx <;> try exact hp.elim
          exact ⟨_, by simp [convert, run_underlying hs, run_underlying hd, Conv.intToInt], .i⟩
        case string.string =>
          subst hc
          cases hx <;> try exact hp.elim
          exact ⟨_, by simp [convert, run_underlying hs, run_underlying hd], .s⟩

/-- a field of a struct that is a value; a part of an array that is a value -/
def partL (P : Program) (t : TypeId) (l : List LV) (off : Nat) : PV :=
  match tyC P t with
  | some none => pv (off < l.length) (l.getD off .any)
  | some (some n) => pv (off + n ≤ l.length) (.agg ((l.drop off).take n))
  | none => pv (False) (.any)
theorem partL_ok {t : TypeId} {l : List LV} {vs : List Value} {off : Nat} (hl : VRs E l vs) (hp : (partL P t l off).1) : ∃ u, (part t vs.toArray off).run P w = .ok u w ∧ VR E (partL P t l off).2 u := by
  unfold partL at *
  cases ht : tyC P t with
  | none => rw [ht] at hp; exact hp.elim
  | some y =>
    rw [ht] at hp
    obtain ⟨h1, h2⟩ := tyC_size (w := w) ht
    cases y with
    | none =>
      simp only at hp ⊢
      obtain ⟨u, hu, hr⟩ := hl.get off _ (List.getElem?_eq_getElem hp)
      refine ⟨u, by simp only [Option.isSome_none] at h2; simp [part, h2, hu], ?_⟩
      rw [List.getD_eq_getElem?_getD, List.getElem?_eq_getElem hp]
      exact hr
    | some n =>
      simp only at hp ⊢
      simp only [Option.isSome_some] at h2
      simp only [Option.getD_some] at h1
      refine ⟨.agg ((vs.drop off).take n).toArray, ?_, .agg ((hl.drop off).take n)⟩
      simp [part, h2, h1]

def strIx (s : ByteArray) (n : Nat) : UInt8 := s.data.getD n 0
def indexL (P : Program) (t : TypeId) (x i : LV) : PV :=
  match x, i with
  | .s s, .i _ n => pv (isStrT P t = true ∧ 0 ≤ n ∧ n < s.size) (.i .u8 (strIx s n.toNat).toNat)
  | _, _ => pv (False) (.any)
theorem indexL_ok {t : TypeId} {x i : LV} {v k : Value} (hx : VR E x v) (hi : VR E i k) (hp : (indexL P t x i).1) : ∃ u, (Instr.index t v k).run P w = .ok u w ∧ VR E (indexL P t x i).2 u := by
  cases hx <;> cases hi <;> try exact hp.elim
  case s.i s kk n =>
    obtain ⟨hu, h0, h1⟩ := hp
    have hu := isStrT_ok hu
    have hlt : n.toNat < s.size := by omega
    have hb : s[n.toNat]? = some (strIx s n.toNat) := by
      have hlt' : n.toNat < s.data.size := hlt
      show (if h : n.toNat < s.size then some s[n.toNat] else none) = _
      rw [dif_pos hlt]
      congr 1
      unfold strIx
      rw [Array.getD_eq_getD_getElem?, Array.getElem?_eq_getElem hlt']
      rfl
    refine ⟨.int .u8 (strIx s n.toNat).toNat, ?_, .i⟩
    simp [Instr.index, asIntOf, run_underlying hu, h0, hb]

/-! slices -/
def ix (x : Option LV) (d : Int) : Option Int := match x with | some (.i _ n) => some n | some _ => none | none => some d
def sliceL (P : Program) (h : List (Nat × LObj M)) (t : TypeId) (x : LV) (lo hi mx : Option LV) : PV :=
  match x with
  | .s s =>
    match ix lo 0, ix hi s.size, mx with
    | some l, some k, none => pv (isStrT P t = true ∧ 0 ≤ l ∧ l ≤ k ∧ k ≤ s.size) (.s (bcut s l.toNat k.toNat))
    | _, _, _ => pv (False) (.any)
  | .sl id sub sz z n =>
    match elC P t, ix lo 0, ix hi n, ix mx n with
    | some (es, none), some l, some k, some m => pv (es = sz ∧ 0 ≤ l ∧ l ≤ k ∧ k ≤ m ∧ m ≤ n ∧ (mx.isSome = true → hi.isSome = true)) (.sl id sub sz (z + l.toNat) (k - l).toNat)
    | _, _, _, _ => pv (False) (.any)
  | .p id sub _ row col =>
    match elC P t, hget h id with
    | some (es, some n), some (.st _ r) =>
      match ix lo 0, ix hi n, mx with
      | some l, some k, none => pv (es = 1 ∧ sub = 0 ∧ row = 0 ∧ 0 ≤ l ∧ l ≤ k ∧ k ≤ n ∧ col + n ≤ r.length) (.sl id 0 1 (col + l.toNat) (k - l).toNat)
      | _, _, _ => pv (False) (.any)
    | _, _ => pv (False) (.any)
  | _ => pv (False) (.any)

/-- optional operands -/
inductive VO (E : Env) : Option LV → Option Value → Prop
  | none : VO E none none
  | some {x v} : VR E x v → VO E (some x) (some v)

theorem bound_ok {x : LV} {v : Value} {n : Int} {y : Nat} {code : BoundsCode} (hx : VR E x v) (hn : ix (some x) 0 = some n) (h0 : 0 ≤ n) (h1 : n ≤ y) : (Instr.sliceBound v y code).run P w = .ok n.toNat w := by
  cases hx <;> simp [ix] at hn
  subst hn
  exact run_sliceBound _ _ _ _ _ h0 h1

theorem bounds_ok {isS : Bool} {len cap : Nat} {lo hi mx : Option LV} {vl vh vm : Option Value} {l k m : Int} (hl : VO E lo vl) (hh : VO E hi vh) (hm : VO E mx vm)
    (e1 : ix lo 0 = some l) (e2 : ix hi len = some k) (e3 : ix mx cap = some m) (h0 : 0 ≤ l) (h1 : l ≤ k) (h2 : k ≤ m) (h3 : m ≤ cap) (hmx : mx.isSome = true → hi.isSome = true) :
    (Instr.sliceBounds isS len cap vl vh vm).run P w = .ok (l.toNat, k.toNat, m.toNat) w := by
  have ixs : ∀ {x : LV} {d n : Int}, ix (some x) d = some n → ix (some x) 0 = some n := by intro x d n hx; cases x <;> simp [ix] at hx ⊢; exact hx
  cases hm with
  | none =>
    simp [ix] at e3
    subst e3
    cases hh with
    | none =>
      simp [ix] at e2
      subst e2
      cases hl with
      | none => simp [ix] at e1; subst e1; simp [Instr.sliceBounds]
      | some hx =>
        have := bound_ok (P := P) (w := w) (y := len) (code := .sliceB) hx (ixs e1) h0 h1
        simp [Instr.sliceBounds, this]
    | some hy =>
      have hb := fun code => bound_ok (P := P) (w := w) (y := cap) (code := code) hy (ixs e2) (by omega) (by omega)
      cases hl with
      | none => simp [ix] at e1; subst e1; simp [Instr.sliceBounds, hb]
      | some hx =>
        have := bound_ok (P := P) (w := w) (y := k.toNat) (code := .sliceB) hx (ixs e1) h0 (by omega)
        simp [Instr.sliceBounds, hb, this]
  | some hz =>
    have ha := fun code => bound_ok (P := P) (w := w) (y := cap) (code := code) hz (ixs e3) (by omega) h3
    cases hh with
    | none => simp at hmx
    | some hy =>
      have hb := bound_ok (P := P) (w := w) (y := m.toNat) (code := .slice3B) hy (ixs e2) (by omega) (by omega)
      cases hl with
      | none => simp [ix] at e1; subst e1; simp [Instr.sliceBounds, ha, hb]
      | some hx =>
        have := bound_ok (P := P) (w := w) (y := k.toNat) (code := .slice3C) hx (ixs e1) h0 (by omega)
        simp [Instr.sliceBounds, ha, hb, this]

theorem sliceL_ok {t : TypeId} {x : LV} {v : Value} {lo hi mx : Option LV} {vl vh vm : Option Value} (I : Inv B w0 E own h nx w) (hx : VR E x v) (hl : VO E lo vl) (hh : VO E hi vh) (hm : VO E mx vm)
    (hp : (sliceL P h t x lo hi mx).1) : ∃ u, (Instr.sliceAt t v vl vh vm).run P w = .ok u w ∧ VR E (sliceL P h t x lo hi mx).2 u := by
  unfold sliceL at *
  cases hx <;> try exact hp.elim
  case s s =>
    simp only at hp ⊢
    cases e1 : ix lo 0 with
    | none => rw [e1] at hp; exact hp.elim
    | some l =>
      cases e2 : ix hi s.size with
      | none => rw [e1, e2] at hp; exact hp.elim
      | some k =>
        cases hm with
        | some _ => rw [e1, e2] at hp; exact hp.elim
        | none =>
          rw [e1, e2] at hp
          obtain ⟨hu, h0, h1, h2⟩ := hp
          have := bounds_ok (P := P) (w := w) (isS := false) (len := s.size) (cap := s.size) (m := s.size) hl hh (VO.none) e1 e2 (by simp [ix]) h0 h1 h2 (Int.le_refl _) (by simp)
          have hu := isStrT_ok hu
          simp only [bcut_eq]
          refine ⟨.string (s.extract l.toNat k.toNat), ?_, .s⟩
          simp [Instr.sliceAt, Instr.slice, run_underlying hu, this]
  case sl id sub sz z n e a cap he hnc hcap =>
    simp only at hp ⊢
    cases hel : elC P t with
    | none => rw [hel] at hp; exact hp.elim
    | some q =>
      obtain ⟨es, an⟩ := q
      cases an with
      | some _ => rw [hel] at hp; exact hp.elim
      | none =>
        cases e1 : ix lo 0 with
        | none => rw [hel, e1] at hp; exact hp.elim
        | some l =>
          cases e2 : ix hi n with
          | none => rw [hel, e1, e2] at hp; exact hp.elim
          | some k =>
            cases e3 : ix mx n with
            | none => rw [hel, e1, e2, e3] at hp; exact hp.elim
            | some m =>
              rw [hel, e1, e2, e3] at hp
              obtain ⟨rfl, h0, h1, h2, h3, hmx⟩ := hp
              unfold elC at hel
              cases hu : P.underlying t with
              | none => rw [hu] at hel; simp at hel
              | some d =>
                rw [hu] at hel
                cases d <;> simp only [reduceCtorEq] at hel
                case array => cases hq : P.info? _ with
                  | none => rw [hq] at hel; simp at hel
                  | some i => rw [hq] at hel; simp at hel
                case slice el =>
                  cases hi' : P.info? el with
                  | none => rw [hi'] at hel; simp at hel
                  | some ie =>
                    rw [hi'] at hel
                    simp only [Option.map_some, Option.some.injEq, Prod.mk.injEq, and_true] at hel
                    subst hel
                    -- the capacity's own bound
                    obtain ⟨m', e3', hm1, hm2⟩ : ∃ m' : Int, ix mx cap = some m' ∧ k ≤ m' ∧ m' ≤ cap := by
                      cases hm with
                      | none => exact ⟨cap, by simp [ix], by simp [ix] at e3; omega, Int.le_refl _⟩
                      | some hz => exact ⟨m, by cases hz <;> simp [ix] at e3 ⊢; exact e3, h2, by omega⟩
                    have hb := bounds_ok (P := P) (w := w) (isS := true) (len := n) (cap := cap) hl hh hm e1 e2 e3' h0 h1 hm1 hm2 hmx
                    have hs : (Go.sizeOf el).run P w = .ok ie.size w := by simp [Go.sizeOf, typeInfo, hi']
                    refine ⟨.slice (if m'.toNat = l.toNat then a else a.map (·.add (l.toNat * ie.size))) (k.toNat - l.toNat) (m'.toNat - l.toNat), ?_, ?_⟩
                    · simp [Instr.sliceAt, Instr.slice, run_underlying hu, hb, hs]
                    · show VR E (.sl id sub ie.size (z + l.toNat) (k - l).toNat) _
                      rw [show (k - l).toNat = k.toNat - l.toNat by omega]
                      refine .sl he (by omega) fun hpos => ?_
                      obtain ⟨ha, hr⟩ := hcap (by omega)
                      rw [if_neg (by omega), ha]
                      constructor
                      · simp [Addr.add_eq, Nat.add_mul]
                      · refine Nat.le_trans (Nat.mul_le_mul_right _ ?_) hr
                        omega
  case p id sub sz row col e he =>
    simp only at hp ⊢
    cases hel : elC P t with
    | none => rw [hel] at hp; cases hget h id <;> exact hp.elim
    | some q =>
      obtain ⟨es, an⟩ := q
      cases an with
      | none => rw [hel] at hp; cases hget h id <;> exact hp.elim
      | some n =>
        cases hid : hget h id with
        | none => rw [hel, hid] at hp; exact hp.elim
        | some o =>
          cases o with
          | o m => rw [hel, hid] at hp; exact hp.elim
          | mp _ => rw [hel, hid] at hp; exact hp.elim
          | lp _ => rw [hel, hid] at hp; exact hp.elim
          | df => rw [hel, hid] at hp; exact hp.elim
          | ch _ _ => rw [hel, hid] at hp; exact hp.elim
          | st T r =>
            rw [hel, hid] at hp
            simp only at hp ⊢
            cases e1 : ix lo 0 with
            | none => rw [e1] at hp; exact hp.elim
            | some l =>
              cases e2 : ix hi n with
              | none => rw [e1, e2] at hp; exact hp.elim
              | some k =>
                cases hm with
                | some _ => rw [e1, e2] at hp; exact hp.elim
                | none =>
                  rw [e1, e2] at hp
                  obtain ⟨rfl, rfl, rfl, h0, h1, h2, h3⟩ := hp
                  obtain ⟨e', he', hO⟩ := I.obj id _ hid
                  rw [he] at he'; cases he'
                  have hroom : e.room 0 = r.length := by
                    generalize own id = ow at hO
                    cases hO with
                    | st a c d f => rw [f, c.length]; simp
                  unfold elC at hel
                  cases hu : P.underlying t with
                  | none => rw [hu] at hel; simp at hel
                  | some d =>
                    rw [hu] at hel
                    cases d <;> simp only [reduceCtorEq] at hel
                    case slice => cases hq : P.info? _ with
                      | none => rw [hq] at hel; simp at hel
                      | some i => rw [hq] at hel; simp at hel
                    case array n' el =>
                      cases hi' : P.info? el with
                      | none => rw [hi'] at hel; simp at hel
                      | some ie =>
                        rw [hi'] at hel
                        simp only [Option.map_some, Option.some.injEq, Prod.mk.injEq] at hel
                        obtain ⟨hes, rfl⟩ := hel
                        have hb := bounds_ok (P := P) (w := w) (isS := false) (len := n') (cap := n') (m := n') hl hh (VO.none) e1 e2 (by simp [ix]) h0 h1 h2 (Int.le_refl _) (by simp)
                        have hs : (Go.sizeOf el).run P w = .ok 1 w := by simp [Go.sizeOf, typeInfo, hi', hes]
                        refine ⟨.slice (some (if n' = l.toNat then ⟨e.blk 0, 0 * sz + col, none⟩ else (⟨e.blk 0, 0 * sz + col, none⟩ : Addr).add (l.toNat * 1))) (k.toNat - l.toNat) (n' - l.toNat), ?_, ?_⟩
                        · simp [Instr.sliceAt, run_underlying hu, Instr.sureAddr, hb, hs]
                        · show VR E (.sl id 0 1 (col + l.toNat) (k - l).toNat) _
                          rw [show (k - l).toNat = k.toNat - l.toNat by omega]
                          refine .sl he (by omega) fun hpos => ?_
                          rw [if_neg (by omega)]
                          constructor
                          · simp [Addr.add_eq]
                          · rw [hroom]; omega
end
end Lx

/- The engine, part 8: the operations' effects, and a run of concrete values (definitions). -/
namespace Lx
open Go Go.RowKit

/-! arrays of any cells -/
def okRow (sz : Nat) (r : List LV) : Bool := Nat.beq r.length sz && r.all LV.one
theorem okRow_ok {sz : Nat} {r : List LV} (h : okRow sz r = true) : r.length = sz ∧ ∀ x ∈ r, x.one = true := by
  simp only [okRow, Bool.and_eq_true, Nat.beq_eq] at h
  exact ⟨h.1, by simpa using h.2⟩
structure CA (P : Program) where
  sz : Nat
  rows : List (List LV)
  pos : 0 < sz
  ok : ∀ r ∈ rows, r.length = sz ∧ ∀ x ∈ r, x.one = true
namespace CA
variable {P : Program}
def view (m : CA P) : View (CA P) := .arr m.sz m.rows
def set (m : CA P) (i : Nat) (r : List LV) : Option (CA P) :=
  if h : okRow m.sz r = true then some ⟨m.sz, m.rows.set i r, m.pos, fun x hx => (List.mem_or_eq_of_mem_set hx).elim (m.ok x) (fun e => e ▸ okRow_ok h)⟩ else none
def cat (m m2 : CA P) (lo n : Nat) : Option (CA P) :=
  if h : m2.sz = m.sz then some ⟨m.sz, m.rows ++ (m2.rows.drop lo).take n, m.pos, fun x hx => (List.mem_append.1 hx).elim (m.ok x) (fun e => h ▸ m2.ok x (List.mem_of_mem_drop (List.mem_of_mem_take e)))⟩ else none
def cut (m : CA P) (lo n : Nat) : CA P := ⟨m.sz, (m.rows.drop lo).take n, m.pos, fun x hx => m.ok x (List.mem_of_mem_drop (List.mem_of_mem_take hx))⟩
def make (t : TypeId) (rs : List (List LV)) : Option (CA P) :=
  match P.info? t with
  | some i => if h : 0 < i.size ∧ rs.all (okRow i.size) = true then some ⟨i.size, rs, h.1, fun r hr => okRow_ok (List.all_eq_true.1 h.2 r hr)⟩ else none
  | none => none
end CA
instance (P : Program) : Mdl (CA P) where
  view := CA.view
  isArr _ := true
  sz m := m.sz
  len m := m.rows.length
  row m i := m.rows.getD i []
  set := CA.set
  cat := CA.cat
  cut := CA.cut
  make := CA.make
  wf := by
    intro m s ll h
    cases h
    exact ⟨m.pos, rfl, rfl, m.ok⟩
  row_ok := by
    intro m s ll i h hi
    cases h
    simp [hi]
  set_ok := by
    intro m s ll i r m' h hs
    cases h
    unfold CA.set at hs
    split at hs
    · cases hs; rfl
    · cases hs
  cat_ok := by
    intro m s ll m2 s2 ll2 lo n m' h h2 _ hc
    cases h; cases h2
    unfold CA.cat at hc
    split at hc
    · rename_i e; cases hc; exact ⟨e, rfl⟩
    · cases hc
  cut_ok := by
    intro m s ll lo n h
    cases h; rfl
  make_ok := by
    intro t rs m h
    unfold CA.make at h
    split at h
    · split at h
      · cases h; exact ⟨_, rfl⟩
      · cases h
    · cases h
  isArr_ok := fun {m} _ => ⟨_, _, rfl⟩
  lay_len := by intro m objs h; cases h

section
variable {M : Type} [Mdl M]
abbrev Hp (M : Type) := List (Nat × LObj M)

/-! the remaining operations -/
def ofPV (x : PV) : Eff M := { pre := x.fst, v := x.snd }
def lenL (P : Program) (h : Hp M) (t : TypeId) (x : LV) : PV :=
  match P.underlying t, x with
  | some .string, .s s => pv True (.i .i64 s.size)
  | some .string, .t j 1 tab => pv (0 < tab.length) (.tl j 1 tab)
  | some (.slice _), .sl _ _ _ _ n => pv True (.i .i64 n)
  | some (.slice _), .ns => pv True (.i .i64 0)
  | some (.slice _), .t j 2 tab => pv (0 < tab.length) (.tl j 2 tab)
  | some (.chan _ _), .c id => match hget h id with
    | some (.ch _ vs) => pv True (.i .i64 vs.length)
    | _ => pv False .any
  | some (.array n _), _ => pv True (.i .i64 n)
  | some (.map _ _), .nm => pv True (.i .i64 0)
  | some (.map _ _), .m id => match hget h id with
    | some (.mp es) => pv True (.i .i64 es.length)
    | _ => pv False .any
  | _, _ => pv False .any
def maxL : LV → LV → PV
  | .i k x, .i _ y => pv True (.i k (if y > x then y else x))
  | _, _ => pv False .any

/-- equality of values of a type -/
def allEq (f : Nat → Option Bool) : Nat → Nat → Option Bool
  | _, 0 => some true
  | i, n + 1 => match f i with
    | some true => allEq f (i + 1) n
    | r => r
def allEqL {α : Type} (f : α → Option Bool) : List α → Option Bool
  | [] => some true
  | a :: r => match f a with
    | some true => allEqL f r
    | r => r
def eqV (P : Program) : Nat → TypeId → LV → LV → Option Bool
  | 0, _, _, _ => none
  | d + 1, t, x, y =>
    match P.underlying t with
    | some .bool => match x, y with
      | .b a, .b b => some (a == b)
      | _, _ => none
    | some (.int _) => match x, y with
      | .i k a, .i k' b => if k = k' then some (a == b) else none
      | _, _ => none
    | some .string => match x, y with
      | .s a, .s b => some (beqs a.data.toList b.data.toList)
      | _, _ => none
    | some (.struct fs) => match x, y with
      | .agg xs, .agg ys =>
        if P.stoodInHeld t then none else
        allEqL (fun f => if f.name ≠ "_" then
            if (partL P f.type xs f.offset).1 ∧ (partL P f.type ys f.offset).1 then eqV P d f.type (partL P f.type xs f.offset).2 (partL P f.type ys f.offset).2 else none
          else some true) fs.toList
      | _, _ => none
    | some (.array n e) => match x, y with
      | .agg xs, .agg ys =>
        match P.info? e with
        | some ie => allEq (fun i => if (partL P e xs (i * ie.size)).1 ∧ (partL P e ys (i * ie.size)).1 then eqV P d e (partL P e xs (i * ie.size)).2 (partL P e ys (i * ie.size)).2 else none) 0 n
        | none => none
      | _, _ => none
    | _ => none
/-- comparisons that binL does not know: of structs and arrays; of slices with nil; of functions with nil; of pointers -/
def tget (c : Nat) : List (Nat × Bool) → Option Bool
  | [] => none
  | (k, b) :: r => bif Nat.beq k c then some b else tget c r
def eqL (P : Program) (op : BinOp) (t : TypeId) (x y : LV) : PV :=
  match x, y with
  | .tl _ _ tab, .i .i64 c => match op, tget c.toNat tab with
    | .gtr, some b => pv (0 ≤ c) (.b b)
    | _, _ => pv False .any
  | .agg _, .agg _ =>
    if P.eqGuardType P.depth t = true then pv False .any else
    match op, eqV P 10000 t x y with
    | .eql, some b => pv True (.b b)
    | .neq, some b => pv True (.b (!b))
    | _, _ => pv False .any
  | .ns, .ns => match op, P.underlying t with
    | .eql, some (.slice _) => pv True (.b true)
    | .neq, some (.slice _) => pv True (.b false)
    | _, _ => pv False .any
  | .sl _ _ _ _ n, .ns => match op, P.underlying t with
    | .eql, some (.slice _) => pv (0 < n) (.b false)
    | .neq, some (.slice _) => pv (0 < n) (.b true)
    | _, _ => pv False .any
  | .p .., .p .. => pv False .any
  | _, _ => binL P op t x y

/-! maps -/
def sameL : TypeDesc → LV → LV → Option Bool
  | .int _, .i k a, .i k' b => if k = k' then some (a == b) else none
  | .string, .s a, .s b => some (beqs a.data.toList b.data.toList)
  | .bool, .b a, .b b => some (a == b)
  | _, _, _ => none
def findL (kd : TypeDesc) (k : LV) : List (LV × LV) → Nat → Option (Option Nat)
  | [], _ => some none
  | (a, _) :: r, i => match sameL kd k a with
    | some true => some (some i)
    | some false => findL kd k r (i + 1)
    | none => none
def allB (f : Nat → Bool) : Nat → Nat → Bool
  | _, 0 => true
  | i, n + 1 => f i && allB f (i + 1) n
/-- may a value be a key of the type (no interface in it)? -/
def chkK (P : Program) : Nat → TypeId → LV → Bool
  | 0, _, _ => false
  | d + 1, t, x => match P.underlying t, x with
    | some (.int _), _ | some .string, _ | some .bool, _ => true
    | some (.array n e), .agg l => match P.info? e with
      | some ie => allB (fun i => decide (partL P e l (i * ie.size)).1 && chkK P d e (partL P e l (i * ie.size)).2) 0 n
      | none => false
    | some (.struct fs), .agg l => fs.toList.all fun f => if f.name ≠ "_" then decide (partL P f.type l f.offset).1 && chkK P d f.type (partL P f.type l f.offset).2 else true
    | _, _ => false
def mapC (P : Program) (t : TypeId) : Option (TypeId × TypeDesc × TypeId) := match P.underlying t with | some (.map k e) => (P.underlying k).map fun d => (k, d, e) | _ => none
def zval (P : Program) (t : TypeId) : Option LV := ((P.info? t).bind (·.zero)).map ofValue
def entsL (h : Hp M) (x : LV) : Option (List (LV × LV)) :=
  match x with
  | .nm => some []
  | .m id => match hget h id with | some (.mp es) => some es | _ => none
  | _ => none
def lookupL (P : Program) (h : Hp M) (t : TypeId) (x k : LV) (ok : Bool) : PV :=
  match mapC P t, entsL h x with
  | some (kt, kd, et), some es =>
    match findL kd k es 0, zval P et with
    | some (some i), _ => pv (chkK P 10000 kt k = true ∧ i < es.length) (if ok then .tup [(es.getD i (.any, .any)).2, .b true] else (es.getD i (.any, .any)).2)
    | some none, some z => pv (chkK P 10000 kt k = true) (if ok then .tup [z, .b false] else z)
    | _, _ => pv False .any
  | _, _ => pv False .any
def updateL (P : Program) (h : Hp M) (nx : Nat) (t : TypeId) (x k v : LV) : Eff M :=
  match mapC P t, x with
  | some (kt, kd, _), .m id =>
    match hget h id with
    | some (.mp es) =>
      match findL kd k es 0 with
      | some (some i) => { pre := chkK P 10000 kt k = true ∧ i < es.length, v := .any, up := some (hset h id (.mp (es.set i (k, v))), nx) }
      | some none => { pre := chkK P 10000 kt k = true, v := .any, up := some (hset h id (.mp (es ++ [(k, v)])), nx) }
      | none => bad
    | _ => bad
  | _, _ => bad
def deleteL (P : Program) (h : Hp M) (nx : Nat) (t : TypeId) (x k : LV) : Eff M :=
  match mapC P t, x with
  | some (kt, kd, _), .m id =>
    match hget h id with
    | some (.mp es) =>
      match findL kd k es 0 with
      | some (some i) => { pre := chkK P 10000 kt k = true ∧ i < es.length, v := .tup [], up := some (hset h id (.mp (es.eraseIdx i)), nx) }
      | some none => { pre := chkK P 10000 kt k = true, v := .tup [], up := some (hset h id (.mp es), nx) }
      | none => bad
    | _ => bad
  | _, _ => bad
def mkchanL (P : Program) (h : Hp M) (nx : Nat) (t : TypeId) (n : LV) : Eff M :=
  match P.underlying t, n with
  | some (.chan _ e), .i _ k => match P.info? e with
    | some i => { pre := 0 ≤ k ∧ k ≤ 65536 ∧ i.bytes ≤ 65536, v := .c nx, up := some ((nx, .ch k.toNat []) :: h, nx + 1) }
    | none => bad
  | _, _ => bad
def mkmapL (h : Hp M) (nx : Nat) : Eff M := { pre := True, v := .m nx, up := some ((nx, .mp []) :: h, nx + 1) }

def Eff.and {M : Type} (e : Eff M) (p : Prop) [Decidable p] : Eff M := { pre := e.pre ∧ p, v := e.v, up := e.up, foot := e.foot }

/-! slices made, copied, cleared -/
def bytesL : List UInt8 → List (List LV)
  | [] => []
  | b :: r => [.i .u8 b.toNat] :: bytesL r
def rowBytes : List (List LV) → Option (List UInt8)
  | [] => some []
  | [.i .u8 n] :: r => (rowBytes r).map (UInt8.ofNat n.toNat :: ·)
  | _ => none
def setRows (m : M) : Nat → List (List LV) → Option M
  | _, [] => some m
  | i, r :: rs => match Mdl.set m i r with
    | some m' => setRows m' (i + 1) rs
    | none => none
def rowsOf (m : M) : Nat → Nat → List (List LV)
  | _, 0 => []
  | i, n + 1 => Mdl.row m i :: rowsOf m (i + 1) n
/-- rows into a slice's object -/
def putRows (h : Hp M) (nx : Nat) (x : LV) (rows : List (List LV)) (v : LV) : Eff M :=
  match x with
  | .sl id sub sz lo n =>
    match hget h id with
    | some (.o m) =>
      match setRows m lo rows with
      | some m' => { pre := sub = 0 ∧ sz = Mdl.sz m ∧ lo + n ≤ Mdl.len m ∧ rows.length ≤ n, v := v, up := some (hset h id (.o m'), nx) }
      | none => bad
    | some (.st T r) => { pre := sub = 0 ∧ sz = 1 ∧ lo + n ≤ r.length ∧ rows.length ≤ n ∧ rows.all (okRow 1) = true, v := v, up := some (hset h id (.st T (setMany r lo rows.flatten)), nx) }
    | _ => bad
  | _ => bad
def copyL (P : Program) (h : Hp M) (nx : Nat) (t : TypeId) (d s : LV) : Eff M :=
  match slC P t, d with
  | some (e, sz, _), .sl _ _ dsz _ n =>
    match s with
    | .s y => let k := min y.size n
      (putRows h nx d (bytesL (y.data.toList.take k)) (.i .i64 k)).and (sz = 1 ∧ dsz = sz)
    | .ns => { pre := True, v := .i .i64 0 }
    | .sl id2 sub2 sz2 lo2 len2 =>
      match srcL h e (.sl id2 sub2 sz2 lo2 (min len2 n)) with
      | some (m2, lo, len, pr) => (putRows h nx d (rowsOf m2 lo len) (.i .i64 (min len2 n : Nat))).and (pr.p ∧ len = min len2 n ∧ Mdl.sz m2 = sz ∧ dsz = sz)
      | none => bad
    | _ => bad
  | _, _ => bad
def clearL (P : Program) (h : Hp M) (nx : Nat) (t : TypeId) (x : LV) : Eff M :=
  match x with
  | .nm => { pre := True, v := .tup [] }
  | .ns => { pre := True, v := .tup [] }
  | .m id => match hget h id with
    | some (.mp _) => { pre := True, v := .tup [], up := some (hset h id (.mp []), nx) }
    | _ => bad
  | .sl id sub sz lo n =>
    if n = 0 then { pre := True, v := .tup [] } else
    match slC P t with
    | some (e, esz, _) => match zcells P e with
      | some z => (putRows h nx (.sl id sub sz lo n) (List.replicate n z) (.tup [])).and (sz = esz)
      | none => bad
    | none => bad
  | _ => bad
/-- conversions with bytes -/
def conv2L (P : Program) (h : Hp M) (src dst : TypeId) (x : LV) : Eff M :=
  match P.underlying src, P.underlying dst, x with
  | some (.slice e), some .string, .ns => match P.underlying e with
    | some (.int .u8) => { pre := True, v := .s ⟨#[]⟩ }
    | _ => bad
  | some (.slice e), some .string, .sl id sub sz lo n =>
    match P.underlying e, srcL h e (.sl id sub sz lo n) with
    | some (.int .u8), some (m, l, k, pr) => match rowBytes (rowsOf m l k) with
      | some bs => { pre := pr.p ∧ Mdl.sz m = 1, v := .s ⟨⟨bs⟩⟩ }
      | none => bad
    | _, _ => bad
  | _, _, _ => ofPV (convL P src dst x)
def arrayAtL (P : Program) (t : TypeId) (x : LV) : PV :=
  match P.underlying t, x with
  | some (.array n _), .sl id sub sz lo len => pv (n ≤ len ∧ 0 < n) (.p id sub sz lo 0)
  | _, _ => pv False .any
/-- a load; also of an array that lies in a slice's array, one cell an element -/
def load2L (P : Program) (h : Hp M) (t : TypeId) (a : LV) : Eff M :=
  match a, tyC P t with
  | .p id sub sz row col, some (some n) =>
    match hget h id with
    | some (.o m) => if sz = 1 ∧ n ≠ 1 then { pre := sub = 0 ∧ Mdl.sz m = 1 ∧ col = 0 ∧ row + n ≤ Mdl.len m ∧ Mdl.isArr m = true, v := .agg (rowsOf m row n).flatten, foot := [id] } else loadL P h t a
    | _ => loadL P h t a
  | _, _ => loadL P h t a
def fieldL (P : Program) (t : TypeId) (x : LV) (f : Nat) : PV :=
  match P.underlying t, x with
  | some (.struct fs), .agg l => match fs[f]? with
    | some fd => partL P fd.type l fd.offset
    | none => pv False .any
  | _, _ => pv False .any
def index2L (P : Program) (t : TypeId) (x i : LV) : PV :=
  match P.underlying t, x, i with
  | some (.array n e), .agg l, .i _ k => match P.info? e with
    | some ie => pv (0 ≤ k ∧ k < n ∧ (partL P e l (k.toNat * ie.size)).1) (partL P e l (k.toNat * ie.size)).2
    | none => pv False .any
  | _, _, _ => indexL P t x i

end
end Lx
