/- The engine (LxD): a run of logical values that the kernel evaluates, and why what it says is so. No conditions. -/
import Derived.Test.YtfnflaadaehccaaGreatDoorLxC
import Derived.OrdersIn
import Derived.Below
import Derived.ChangeShapes
import Derived.WideShapes
import Derived.Carry
import Derived.ProofKit
set_option linter.unusedSectionVars false
set_option linter.unusedSimpArgs false
set_option linter.unusedVariables false
set_option linter.constructorNameAsVariable false
/- The engine, part 24: temporaries of a region; who waits for whom. -/
namespace Lx
open Go Go.RowKit

inductive EnvCh (nt : Nat) : List (Nat × LV) → List Rec → List (Nat × LV) → Prop
  | nil {env} : EnvCh nt env [] env
  | cons {env rc recs env'} : rc.env = env → EnvCh nt (putL nt env rc.o.dst rc.v) recs env' → EnvCh nt env (rc :: recs) env'

theorem putL_ne {nt t : Nat} {env : List (Nat × LV)} {dst : Option Nat} {v : LV} (h : dst ≠ some t ∨ nt ≤ t) : aget (putL nt env dst v) t = aget env t := by
  cases dst with
  | none => rfl
  | some d =>
    simp only [putL]
    cases hd : Nat.blt d nt with
    | false => rfl
    | true =>
      rw [Nat.blt_eq] at hd
      simp only [cond_true, aget]
      have : d ≠ t := by
        rcases h with h | h
        · intro e; exact h (by rw [e])
        · omega
      rw [show Nat.beq d t = false from by rw [Bool.eq_false_iff]; intro h; exact this (Nat.eq_of_beq_eq_true h)]
      rfl
theorem putL_eq {nt t : Nat} {env : List (Nat × LV)} {v : LV} (h : t < nt) : aget (putL nt env (some t) v) t = v := by
  simp only [putL]
  rw [show Nat.blt t nt = true from by rw [Nat.blt_eq]; exact h]
  simp only [cond_true, aget]
  rw [show Nat.beq t t = true from by simp]
  rfl

theorem EnvCh.keep {nt : Nat} {env env' : List (Nat × LV)} {recs : List Rec} (C : EnvCh nt env recs env') (t : Nat) :
    (∀ (j : Nat) rc, recs[j]? = some rc → ((∀ (q : Nat) rq, q < j → recs[q]? = some rq → rq.o.dst ≠ some t) ∨ nt ≤ t) → aget rc.env t = aget env t) ∧
    (((∀ (q : Nat) rq, recs[q]? = some rq → rq.o.dst ≠ some t) ∨ nt ≤ t) → aget env' t = aget env t) := by
  induction C with
  | nil => exact ⟨fun j rc h => by simp at h, fun _ => rfl⟩
  | @cons env rc0 recs env' he _ ih =>
    refine ⟨fun j rc hj hq => ?_, fun hq => ?_⟩
    · cases j with
      | zero => simp at hj; subst hj; rw [he]
      | succ j =>
        rw [ih.1 j rc (by simpa using hj) (hq.imp (fun h q rq hqj hrq => h (q + 1) rq (by omega) (by simpa using hrq)) id)]
        exact putL_ne (hq.imp (fun h => h 0 rc0 (by omega) rfl) id)
    · rw [ih.2 (hq.imp (fun h q rq hrq => h (q + 1) rq (by simpa using hrq)) id)]
      exact putL_ne (hq.imp (fun h => h 0 rc0 rfl) id)

theorem EnvCh.set {nt : Nat} {env env' : List (Nat × LV)} {recs : List Rec} (C : EnvCh nt env recs env') {t : Nat} (ht : t < nt) :
    ∀ (q : Nat) rq, recs[q]? = some rq → rq.o.dst = some t → (∀ (q' : Nat) rq', recs[q']? = some rq' → rq'.o.dst = some t → q' = q) →
      (∀ (j : Nat) rc, recs[j]? = some rc → q < j → aget rc.env t = rq.v) ∧ aget env' t = rq.v := by
  induction C with
  | nil => intro q rq h; simp at h
  | @cons env rc0 recs env' he C' ih =>
    intro q rq hq hd hu
    cases q with
    | zero =>
      simp at hq; subst hq
      have hno : ∀ (q' : Nat) rq', recs[q']? = some rq' → rq'.o.dst ≠ some t := fun q' rq' h1 h2 => by
        have := hu (q' + 1) rq' (by simpa using h1) h2
        omega
      have hk := C'.keep t
      rw [hd] at hk
      refine ⟨fun j rc hj hqj => ?_, ?_⟩
      · cases j with
        | zero => omega
        | succ j => rw [hk.1 j rc (by simpa using hj) (.inl fun q' rq' _ h1 => hno q' rq' h1)]; exact putL_eq ht
      · rw [hk.2 (.inl hno)]; exact putL_eq ht
    | succ q =>
      obtain ⟨h1, h2⟩ := ih q rq (by simpa using hq) hd (fun q' rq' h1 h2 => by
        have := hu (q' + 1) rq' (by simpa using h1) h2
        omega)
      refine ⟨fun j rc hj hqj => ?_, h2⟩
      cases j with
      | zero => omega
      | succ j => exact h1 j rc (by simpa using hj) (by omega)

/-! who waits for whom -/
theorem masks_eq : ∀ (l : List Oper) (prev : List Nat), ∃ ms, masks l prev = prev ++ ms ∧ ms.length = l.length ∧ ∀ (j : Nat) o, l[j]? = some o → ms[j]? = some (maskO (prev ++ ms.take j) o)
  | [], prev => ⟨[], by simp [masks], rfl, fun j o h => by simp at h⟩
  | o :: l, prev => by
    obtain ⟨ms, h1, h2, h3⟩ := masks_eq l (prev ++ [maskO prev o])
    refine ⟨maskO prev o :: ms, by simp [masks, h1], by simp [h2], fun j x hj => ?_⟩
    cases j with
    | zero => simp at hj; subst hj; simp
    | succ j =>
      have := h3 j x (by simpa using hj)
      simpa using this

/-- all that an operation waits for is listed, if what it is ordered behind is, and so for each listed one -/
theorem mask_listed {l : List Oper} {L : Nat → Prop} (hL : ∀ (q : Nat) o, L q → l[q]? = some o → ∀ e ∈ o.after.toList, Region.binds .any e = true → L e.on) :
    ∀ (i : Nat) o m, l[i]? = some o → (masks l [])[i]? = some m → (∀ e ∈ o.after.toList, Region.binds .any e = true → L e.on) → ∀ k, m.testBit k = true → L k := by
  obtain ⟨ms, h1, h2, h3⟩ := masks_eq l []
  simp only [List.nil_append] at h1 h3
  rw [h1]
  intro i
  induction i using Nat.strongRecOn with
  | _ i ih =>
    intro o m ho hm hall k hk
    rw [h3 i o ho] at hm
    cases hm
    obtain ⟨e, he, hb, hor⟩ := maskO_bit hk
    rcases hor with rfl | hk'
    · exact hall e he hb
    · have hlt : e.on < i ∧ e.on < ms.length := by
        rcases Nat.lt_or_ge e.on (ms.take i).length with h | h
        · simp at h; omega
        · rw [List.getD_eq_getElem?_getD, List.getElem?_eq_none h] at hk'
          simp at hk'
      have hge : (ms.take i).getD e.on 0 = ms[e.on] := by
        rw [List.getD_eq_getElem?_getD, List.getElem?_take, if_pos hlt.1, List.getElem?_eq_getElem hlt.2]; rfl
      rw [hge] at hk'
      have hle : e.on < l.length := by omega
      exact ih e.on hlt.1 l[e.on] ms[e.on] (List.getElem?_eq_getElem hle) (List.getElem?_eq_getElem hlt.2) (hL e.on _ (hall e he hb) (List.getElem?_eq_getElem hle)) k hk'

theorem writersOk_spec {l : List Oper} {ms : List Nat} (h : writersOk l ms = true) {i q d m : Nat} {o oq : Oper} (hi : l[i]? = some o) (hm : ms[i]? = some m) (hq : l[q]? = some oq) (hd : oq.dst = some d) :
    (o.dst = some d → i = q) ∧ (d ∈ o.looksAt l.toArray → m.testBit q = true) := by
  simp only [writersOk, List.all_eq_true] at h
  have hx : ((o, m), i) ∈ (l.zip ms).zipIdx := by
    rw [List.mem_zipIdx_iff_getElem?]
    simp only [List.getElem?_zip_eq_some]
    exact ⟨hi, hm⟩
  have hw : (d, q) ∈ l.zipIdx.filterMap fun (o, i) => o.dst.map fun d => (d, i) := by
    refine List.mem_filterMap.2 ⟨(oq, q), ?_, by simp [hd]⟩
    rw [List.mem_zipIdx_iff_getElem?]
    exact hq
  have := h _ hx _ hw
  simp only [Bool.and_eq_true] at this
  refine ⟨fun ho => ?_, fun hl => ?_⟩
  · have h1 := this.1
    rw [ho] at h1
    simp only [beq_self_eq_true, cond_true, Nat.beq_eq] at h1
    exact h1
  · have h2 := this.2
    rw [show (o.looksAt l.toArray).contains d = true from by simpa using hl] at h2
    simpa using h2
end Lx

/- The engine, part 25: in whatever order a region's operations run, they come to the same. -/
namespace Lx
open Go Go.RowKit

section
variable {M : Type} [Mdl M]

theorem Dr.env {P : Program} {call yield : CallF M} {ops : Array Oper} {nt base : Nat} {l : List Oper} {ms : List Nat} {i : Nat} {env : List (Nat × LV)} {sg : Stage M} {recs : List Rec} {sgs : List (Stage M)} {env' : List (Nat × LV)}
    (D : Dr P call yield ops nt base l ms i env sg recs sgs env') : EnvCh nt env recs env' := by
  induction D with
  | nil => exact .nil
  | off _ _ _ ih => exact .cons rfl ih
  | float _ _ _ _ _ _ _ ih => exact .cons rfl ih
  | upd _ _ _ _ _ _ ih => exact .cons rfl ih
  | pure _ _ _ _ _ _ _ ih => exact .cons rfl ih

theorem Dr.num {P : Program} {call yield : CallF M} {ops : Array Oper} {nt base : Nat} {l : List Oper} {ms : List Nat} {i : Nat} {env : List (Nat × LV)} {sg : Stage M} {recs : List Rec} {sgs : List (Stage M)} {env' : List (Nat × LV)}
    (D : Dr P call yield ops nt base l ms i env sg recs sgs env') : ∀ (k : Nat) (x : Stage M), sgs[k]? = some x → x.n = sg.n + k := by
  intro k
  induction k with
  | zero =>
    intro x hx
    obtain ⟨⟨z, rest, g0, g1, g2, g3, g4, g5, g6⟩, _⟩ := D.acc
    rw [g0] at hx
    simp at hx
    subst hx
    exact g5
  | succ k ih =>
    intro x hx
    have hlt : k < sgs.length := by have := (List.getElem?_eq_some_iff.1 hx).1; omega
    obtain ⟨j, rc, h1, h2, h3, h4, h5, h6⟩ := D.stages k sgs[k] x (List.getElem?_eq_getElem hlt) hx
    rw [h5, ih _ (List.getElem?_eq_getElem hlt)]
    omega

def Val (E : Env) (v : LV) (tmps : Array Value) (t : Nat) : Prop := v = .any ∨ ∃ u, tmps[t]? = some u ∧ VR E v u
theorem Val.ext {E E' : Env} (h : Ext E E') {v : LV} {tmps : Array Value} {t : Nat} (k : Val E v tmps t) : Val E' v tmps t := k.imp id fun ⟨u, h1, h2⟩ => ⟨u, h1, h2.ext h⟩

/-- the temporaries that an operation looks at, and no others -/
def onlyL (env : List (Nat × LV)) (ts : List Nat) : List (Nat × LV) := ts.map fun t => (t, aget env t)
theorem aget_only (env : List (Nat × LV)) (t : Nat) : ∀ ts : List Nat, (t ∈ ts → aget (onlyL env ts) t = aget env t) ∧ (t ∉ ts → aget (onlyL env ts) t = .any)
  | [] => ⟨fun h => by simp at h, fun _ => rfl⟩
  | a :: ts => by
    have ih := aget_only env t ts
    simp only [onlyL, List.map_cons, aget]
    by_cases h : a = t
    · subst h
      rw [show Nat.beq a a = true from by simp]
      exact ⟨fun _ => rfl, fun h => by simp at h⟩
    · rw [show Nat.beq a t = false from by rw [Bool.eq_false_iff]; intro h'; exact h (Nat.eq_of_beq_eq_true h')]
      refine ⟨fun hm => ih.1 ?_, fun hm => ih.2 ?_⟩
      · rcases List.mem_cons.1 hm with h' | h'
        · exact absurd h'.symm h
        · exact h'
      · intro h'; exact hm (by simp [h'])

theorem looks_tmp {ops : Array Oper} {o : Oper} {t : Nat} (h : Operand.tmp t ∈ o.op.operands.toList) : t ∈ o.looksAt ops := by
  unfold Oper.looksAt
  exact List.mem_append_left _ (List.mem_filterMap.2 ⟨.tmp t, h, rfl⟩)
theorem looks_guard {ops : Array Oper} {o : Oper} {g : Nat} {b : Bool} {d : Nat} (hg : o.guard = some (g, b)) (hd : (ops[g]?).bind (·.dst) = some d) : d ∈ o.looksAt ops := by
  unfold Oper.looksAt
  refine List.mem_append_right _ ?_
  rw [hg]
  simp [hd]

theorem evO_only {ops : Array Oper} {o : Oper} {env : List (Nat × LV)} {x : Operand} (h : x ∈ o.op.operands.toList) : evO (onlyL env (o.looksAt ops)) x = evO env x := by
  cases x with
  | tmp t => exact (aget_only env t _).1 (looks_tmp h)
  | const v => rfl
  | global g => rfl
  | func f => rfl
theorem wantedL_only {ops : Array Oper} {o : Oper} {env : List (Nat × LV)} : wantedL ops (onlyL env (o.looksAt ops)) o = wantedL ops env o := by
  unfold wantedL
  cases hg : o.guard with
  | none => rfl
  | some gb =>
    obtain ⟨g, b⟩ := gb
    simp only
    cases hd : (ops[g]?).bind (·.dst) with
    | none => rfl
    | some d => simp only [(aget_only env d _).1 (looks_guard hg hd)]
theorem opL_only {P : Program} {ops : Array Oper} {o : Oper} {env : List (Nat × LV)} {h : Hp M} {nx : Nat} : opL P (evO (onlyL env (o.looksAt ops))) h nx o = opL P (evO env) h nx o := opL_congr fun _ hx => evO_only hx
theorem stepO_only {P : Program} {call yield : CallF M} {ops : Array Oper} {o : Oper} {env : List (Nat × LV)} {h : Hp M} {nx : Nat} : stepO P call yield (onlyL env (o.looksAt ops)) h nx o = stepO P call yield env h nx o := by
  have ho := opL_only (P := P) (ops := ops) (o := o) (env := env) (h := h) (nx := nx)
  obtain ⟨dst, op, type, pos, after, guard⟩ := o
  cases op <;> try (simp only [stepO, ho]; done)
  rename_i c
  obtain ⟨callee, args, argTypes⟩ := c
  cases callee <;> try (simp only [stepO, ho]; done)
  rename_i f
  have hf := evO_only (ops := ops) (o := { dst := dst, op := .call { callee := .value f, args := args, argTypes := argTypes }, type := type, pos := pos, after := after, guard := guard }) (env := env) (x := f) (by simp [Op.operands, Call.operands])
  have ha : args.toList.map (evO (onlyL env (Oper.looksAt ops { dst := dst, op := .call { callee := .value f, args := args, argTypes := argTypes }, type := type, pos := pos, after := after, guard := guard }))) = args.toList.map (evO env) :=
    List.map_congr_left fun x hx => evO_only (by simp [Op.operands, Call.operands] at hx ⊢; exact .inr hx)
  simp only [stepO, hf, ha]
end
end Lx

/- The engine, part 26: a region's run in the order of the text: what holds of it. -/
namespace Lx
open Go Go.RowKit

section
variable {M : Type} [Mdl M]

structure Reg (P : Program) (call yield : CallF M) (ops : Array Oper) (s : St M) (recs : List Rec) (sgs : List (Stage M)) (env' : List (Nat × LV)) : Prop where
  D : Dr P call yield ops s.nt s.nx ops.toList (masks ops.toList []) 0 s.env ⟨s.h, s.nx + ops.toList.length, 0, 0, 0, []⟩ recs sgs env'
  W : writersOk ops.toList (masks ops.toList []) = true
  R : allReads P sgs recs 0 = true
  N : clears s.nx recs sgs = true

section
variable {P : Program} {call yield : CallF M} {ops : Array Oper} {s : St M} {recs : List Rec} {sgs : List (Stage M)} {env' : List (Nat × LV)}

theorem Reg.at (g : Reg P call yield ops s recs sgs env') {i : Nat} {rc : Rec} (h : recs[i]? = some rc) : ops.toList[i]? = some rc.o ∧ (masks ops.toList [])[i]? = some rc.mask ∧ rc.mask < 2 ^ i ∧ wantedL ops rc.env rc.o = some (!kdOff rc.kd) ∧
    RecIs P call yield s.nx sgs i rc := by
  have := g.D.acc.2.2 i rc h
  simpa using this
theorem Reg.len (g : Reg P call yield ops s recs sgs env') : recs.length = ops.toList.length := g.D.acc.2.1
theorem Reg.uniq (g : Reg P call yield ops s recs sgs env') {i q d : Nat} {rc rq : Rec} (hi : recs[i]? = some rc) (hq : recs[q]? = some rq) (hd : rq.o.dst = some d) (hc : rc.o.dst = some d) : i = q :=
  (writersOk_spec g.W (g.at hi).1 (g.at hi).2.1 (g.at hq).1 hd).1 hc
theorem Reg.looks (g : Reg P call yield ops s recs sgs env') {i q d : Nat} {rc rq : Rec} (hi : recs[i]? = some rc) (hq : recs[q]? = some rq) (hd : rq.o.dst = some d) (hc : d ∈ rc.o.looksAt ops) : rc.mask.testBit q = true :=
  (writersOk_spec g.W (g.at hi).1 (g.at hi).2.1 (g.at hq).1 hd).2 hc
theorem Reg.first (g : Reg P call yield ops s recs sgs env') : ∃ x rest, sgs = x :: rest ∧ x.h = s.h ∧ x.nx = s.nx + ops.toList.length ∧ x.past = 0 ∧ x.n = 0 := by
  obtain ⟨⟨x, rest, g0, g1, g2, g3, g4, g5, g6⟩, _⟩ := g.D.acc
  exact ⟨x, rest, g0, g1, g2, g3, g5⟩
theorem Reg.num (g : Reg P call yield ops s recs sgs env') {k : Nat} {x : Stage M} (h : sgs[k]? = some x) : x.n = k := by
  have := g.D.num k x h
  simpa using this
/-- what an update makes of a stage -/
theorem Reg.next (g : Reg P call yield ops s recs sgs env') {k : Nat} {x y : Stage M} (hx : sgs[k]? = some x) (hy : sgs[k + 1]? = some y) :
    ∃ rc, recs[y.last]? = some rc ∧ rc.kd = .upd ∧ y.past = x.past ||| rc.mask ||| 2 ^ y.last ∧ (k = 0 ∨ rc.mask.testBit x.last = true) := by
  obtain ⟨j, rc, h1, h2, h3, h4, h5, h6⟩ := g.D.stages k x y hx hy
  simp only [Nat.zero_add] at h3 h4
  subst h3
  refine ⟨rc, h1, ?_, h4, ?_⟩
  · cases hk : rc.kd <;> rw [hk] at h2 <;> first | rfl | exact h2.elim
  · rw [g.num hx] at h6; exact h6
theorem Reg.mono1 (g : Reg P call yield ops s recs sgs env') {k : Nat} {x y : Stage M} (hk : 0 < k) (hx : sgs[k]? = some x) (hy : sgs[k + 1]? = some y) : x.last < y.last := by
  obtain ⟨rc, h1, _, _, h4⟩ := g.next hx hy
  rcases h4 with h4 | h4
  · omega
  · exact bit_lt (g.at h1).2.2.1 h4
theorem Reg.mono (g : Reg P call yield ops s recs sgs env') : ∀ (d k : Nat) (x y : Stage M), 0 < k → sgs[k]? = some x → sgs[k + d + 1]? = some y → x.last < y.last
  | 0, k, x, y, hk, hx, hy => g.mono1 hk hx hy
  | d + 1, k, x, y, hk, hx, hy => by
    have hlt : k + d + 1 < sgs.length := by have := (List.getElem?_eq_some_iff.1 hy).1; omega
    have h1 := g.mono d k x sgs[k + d + 1] hk hx (List.getElem?_eq_getElem hlt)
    have h2 := g.mono1 (k := k + d + 1) (by omega) (List.getElem?_eq_getElem hlt) hy
    omega
theorem Reg.inj (g : Reg P call yield ops s recs sgs env') {j k : Nat} {x y : Stage M} (hj : 0 < j) (hk : 0 < k) (hx : sgs[j]? = some x) (hy : sgs[k]? = some y) (h : x.last = y.last) : j = k := by
  rcases Nat.lt_trichotomy j k with h1 | h1 | h1
  · have := g.mono (k - j - 1) j x y hj hx (by rw [show j + (k - j - 1) + 1 = k by omega]; exact hy)
    omega
  · exact h1
  · have := g.mono (j - k - 1) k y x hk hy (by rw [show k + (j - k - 1) + 1 = j by omega]; exact hx)
    omega
/-- what has been joined at a stage -/
theorem Reg.past (g : Reg P call yield ops s recs sgs env') : ∀ (k : Nat) (x : Stage M), sgs[k]? = some x → ∀ b, x.past.testBit b = true ↔ ∃ j y rc, 0 < j ∧ j ≤ k ∧ sgs[j]? = some y ∧ recs[y.last]? = some rc ∧ (b = y.last ∨ rc.mask.testBit b = true)
  | 0, x, hx, b => by
    obtain ⟨z, rest, g0, _, _, g3, _⟩ := g.first
    rw [g0] at hx
    simp at hx
    subst hx
    rw [g3]
    constructor
    · intro h; simp at h
    · rintro ⟨j, y, rc, h1, h2, _⟩; omega
  | k + 1, y, hy, b => by
    have hlt : k < sgs.length := by have := (List.getElem?_eq_some_iff.1 hy).1; omega
    have hx := List.getElem?_eq_getElem hlt
    obtain ⟨rc, h1, h2, h3, h4⟩ := g.next hx hy
    have ih := g.past k _ hx b
    rw [h3]
    simp only [Nat.testBit_or, Bool.or_eq_true, Nat.testBit_two_pow]
    constructor
    · rintro ((h | h) | h)
      · obtain ⟨j, z, rz, a1, a2, a3⟩ := ih.1 h
        exact ⟨j, z, rz, a1, by omega, a3⟩
      · exact ⟨k + 1, y, rc, by omega, Nat.le_refl _, hy, h1, .inr h⟩
      · exact ⟨k + 1, y, rc, by omega, Nat.le_refl _, hy, h1, .inl (by simpa using h : y.last = b).symm⟩
    · rintro ⟨j, z, rz, a1, a2, a3, a4, a5⟩
      rcases Nat.lt_or_ge k j with h | h
      · have : j = k + 1 := by omega
        subst this
        rw [hy] at a3; cases a3
        rw [h1] at a4; cases a4
        rcases a5 with a5 | a5
        · exact .inr (by simp [a5])
        · exact .inl (.inr a5)
      · exact .inl (.inl (ih.2 ⟨j, z, rz, a1, h, a3, a4, a5⟩))
end
end
end Lx

/- The engine, part 27: a region's operations in whatever order: one of them. -/
namespace Lx
open Go Go.RowKit

section
variable {M : Type} [Mdl M]

theorem clearF_spec {base : Nat} {x : Stage M} : ∀ {recs : List Rec} {i : Nat}, clearF base x recs i = true → ∀ (j : Nat) rc t cs, recs[j]? = some rc → rc.kd = .float t cs → x.past.testBit (i + j) = false → hget x.h (base + (i + j)) = none
  | [], i, _, j, rc, t, cs, hj, _, _ => by simp at hj
  | r0 :: recs, i, h, j, rc, t, cs, hj, hk, hp => by
    simp only [clearF, Bool.and_eq_true] at h
    cases j with
    | zero =>
      simp at hj; subst hj
      have h1 := h.1
      rw [hk] at h1
      simp only [Bool.or_eq_true, Option.isNone_iff_eq_none] at h1
      rcases h1 with h1 | h1
      · simp only [Nat.add_zero] at hp; rw [hp] at h1; cases h1
      · simpa using h1
    | succ j =>
      have := clearF_spec h.2 j rc t cs (by simpa using hj) hk (by rw [show i + 1 + j = i + (j + 1) by omega]; exact hp)
      rw [show i + (j + 1) = i + 1 + j by omega]; exact this
theorem clears_spec {base : Nat} {recs : List Rec} : ∀ {sgs : List (Stage M)}, clears base recs sgs = true → ∀ (k : Nat) x, sgs[k]? = some x → clearF base x recs 0 = true
  | [], _, k, x, hk => by simp at hk
  | y :: sgs, h, k, x, hk => by
    simp only [clears, Bool.and_eq_true] at h
    cases k with
    | zero => simp at hk; subst hk; exact h.1
    | succ k => exact clears_spec h.2 k x (by simpa using hk)

theorem allReads_spec {P : Program} {sgs : List (Stage M)} : ∀ {recs : List Rec} {i : Nat}, allReads P sgs recs i = true → ∀ (j : Nat) rc, recs[j]? = some rc → rc.kd = .reads → readsOk P (i + j) rc sgs = true
  | [], i, _, j, rc, hj, _ => by simp at hj
  | r0 :: recs, i, h, j, rc, hj, hk => by
    simp only [allReads, Bool.and_eq_true] at h
    cases j with
    | zero =>
      simp at hj; subst hj
      have h1 := h.1
      rw [hk] at h1
      exact h1
    | succ j => rw [show i + (j + 1) = i + 1 + j by omega]; exact allReads_spec h.2 j rc (by simpa using hj) hk

theorem laterOf_bit {b : Nat} : ∀ {l : List (Stage M)}, (laterOf l).testBit b = true → ∃ (j : Nat) (x : Stage M), l[j]? = some x ∧ x.last = b
  | [], h => by simp [laterOf] at h
  | x :: l, h => by
    simp only [laterOf, Nat.testBit_or, Bool.or_eq_true, Nat.testBit_two_pow] at h
    rcases h with h | h
    · exact ⟨0, x, rfl, by simpa using h⟩
    · obtain ⟨j, y, h1, h2⟩ := laterOf_bit h
      exact ⟨j + 1, y, by simpa using h1, h2⟩
theorem and_zero {a b : Nat} (h : ∀ i, a.testBit i = true → b.testBit i = true → False) : a &&& b = 0 := by
  refine Nat.eq_of_testBit_eq fun i => ?_
  rw [Nat.testBit_and, Nat.zero_testBit]
  cases ha : a.testBit i with
  | false => rfl
  | true => cases hb : b.testBit i with
    | false => rfl
    | true => exact (h i ha hb).elim

theorem readsOk_spec {P : Program} {i : Nat} {rc : Rec} : ∀ {sgs : List (Stage M)}, readsOk P i rc sgs = true → ∀ (k : Nat) x, sgs[k]? = some x → x.past.testBit i = false →
    (∀ b, rc.mask.testBit b = true → ∀ (j : Nat) y, k < j → sgs[j]? = some y → y.last ≠ b) →
    (opL P (evO rc.env) (joinF rc.mask x.fl x.h) x.nx rc.o).pre ∧ (opL P (evO rc.env) (joinF rc.mask x.fl x.h) x.nx rc.o).up = none ∧ (opL P (evO rc.env) (joinF rc.mask x.fl x.h) x.nx rc.o).v = rc.v
  | [], _, k, x, hk, _, _ => by simp at hk
  | y :: sgs, h, k, x, hk, hp, hm => by
    simp only [readsOk, Bool.and_eq_true] at h
    cases k with
    | zero =>
      simp at hk; subst hk
      have hz : rc.mask &&& laterOf sgs = 0 := and_zero fun b hb hl => by
        obtain ⟨j, z, h1, h2⟩ := laterOf_bit hl
        exact hm b hb (j + 1) z (by omega) (by simpa using h1) h2
      have hmr : mayRun i rc.mask y.past (laterOf sgs) = true := by
        simp [mayRun, hp, hz]
      have h1 := h.1
      rw [hmr] at h1
      simp only [cond_true, Bool.and_eq_true, decide_eq_true_eq, Option.isNone_iff_eq_none] at h1
      exact ⟨h1.1.1, h1.1.2, beqV_eq h1.2⟩
    | succ k => exact readsOk_spec h.2 k x (by simpa using hk) hp fun b hb j z hj hz => hm b hb (j + 1) z (by omega) (by simpa using hz)

/-- what is bound is in the mask -/
theorem maskO_has {prev : List Nat} {o : Oper} {e : Edge} (he : e ∈ o.after.toList) (hb : Region.binds .any e = true) : (maskO prev o).testBit e.on = true := by
  unfold maskO
  have keep : ∀ (l : List Edge) (s b : Nat), s.testBit b = true → (l.foldl (fun s e => bif Region.binds .any e then s ||| 2 ^ e.on ||| prev.getD e.on 0 else s) s).testBit b = true := by
    intro l
    induction l with
    | nil => intro s b h; exact h
    | cons e l ih =>
      intro s b h
      simp only [List.foldl_cons]
      refine ih _ b ?_
      cases Region.binds .any e with
      | false => exact h
      | true => simp [Nat.testBit_or, h]
  have key : ∀ (l : List Edge) (s : Nat), e ∈ l → (l.foldl (fun s e => bif Region.binds .any e then s ||| 2 ^ e.on ||| prev.getD e.on 0 else s) s).testBit e.on = true := by
    intro l
    induction l with
    | nil => intro s h; simp at h
    | cons e' l ih =>
      intro s h
      simp only [List.foldl_cons]
      rcases List.mem_cons.1 h with rfl | h
      · refine keep _ _ _ ?_
        rw [hb]
        simp [Nat.testBit_or, Nat.testBit_two_pow]
      · exact ih _ h
  exact key _ _ he

theorem stepO_of {P : Program} {call yield : CallF M} {env : List (Nat × LV)} {h : Hp M} {nx : Nat} {o : Oper} (hc : calls o.op = false) (hp : (opL P (evO env) h nx o).pre) (hu : (opL P (evO env) h nx o).up = none) :
    stepO P call yield env h nx o = .ok ((opL P (evO env) h nx o).v, h, nx) := by
  have rest : (if (opL P (evO env) h nx o).pre then Rz.ok ((opL P (evO env) h nx o).v, (opL P (evO env) h nx o).h h, (opL P (evO env) h nx o).nx nx) else Rz.no o.pos) = .ok ((opL P (evO env) h nx o).v, h, nx) := by
    rw [if_pos hp]
    simp only [Eff.h, Eff.nx, hu]
  obtain ⟨dst, op, type, pos, after, guard⟩ := o
  cases op <;> try exact rest
  rename_i c
  obtain ⟨callee, args, argTypes⟩ := c
  cases callee <;> try exact rest
  cases hc

/-- an operation that is run on a part of the heap -/
theorem stepO_part {P : Program} {call yield : CallF M} (hz : ZOK P) (hc : CallOK P call) (hy : YieldOK P yield) {ops : Array Oper} {rc : Rec} {h1 h2 G : Hp M} {nx nx2 : Nat} {v : LV} (hs : stepO P call yield rc.env h1 nx rc.o = .ok (v, h2, nx2))
    {B : Nat → Prop} {w0 w : World} {E : Env} {own : Nat → List Nat} {a : Act} {nt : Nat} {lr : Option Nat} {n : Nat} {next : Act → World → Prop} {Q : Exit → Act → World → Prop} (I : Inv B w0 E own G nx w) (T : TR E (onlyL rc.env (rc.o.looksAt ops)) nt a.tmps)
    (hsub : ∀ id o, hget h1 id = some o → hget G id = some o)
    (hn : ∀ E' own' G' u w', Grow nx E E' → Inv B w0 E' own' G' nx2 w' → (∀ id o, hget h2 id = some o → hget G' id = some o) → (∀ id, hget h1 id = none → hget h2 id = none → hget G' id = hget G id) → VR E' v u → next (a.put rc.o.dst u) w') :
    rc.o.wpIn (Wd lr) n P a w next Q := by
  rw [← stepO_only (ops := ops)] at hs
  obtain ⟨hnx, hstep⟩ := stepO_ok hz hc hy hs
  refine hstep (Part B own G h1) w E own a w nt lr n next Q (I.split hsub) T fun E' own' u w' hE J hv => ?_
  -- the rest is there as it was
  let fr : Nat → Bool := fun id => (hget G id).isSome && (hget h1 id).isNone && (hget h2 id).isNone
  let G2 : Hp M := h2 ++ G.filter fun p => fr p.1
  have happ : ∀ (A C : Hp M) (id : Nat), hget (A ++ C) id = (hget A id).or (hget C id) := by
    intro A C id
    induction A with
    | nil => rfl
    | cons p A ih =>
      obtain ⟨k, o⟩ := p
      simp only [List.cons_append, hget]
      cases (k == id) with
      | true => rfl
      | false => exact ih
  have hfil : ∀ (A : Hp M) (id : Nat), hget (A.filter fun p => fr p.1) id = if fr id = true then hget A id else none := by
    intro A id
    induction A with
    | nil => simp [hget]
    | cons p A ih =>
      obtain ⟨k, o⟩ := p
      simp only [List.filter_cons]
      by_cases hk : k = id
      · subst hk
        by_cases hf : fr k = true
        · rw [if_pos hf, if_pos hf]; simp [hget]
        · rw [if_neg hf, ih, if_neg hf, if_neg hf]
      · by_cases hf : fr k = true
        · rw [if_pos hf]
          simp only [hget]
          rw [show (k == id) = false from by simpa using hk]
          exact ih
        · rw [if_neg hf, ih]
          simp only [hget]
          rw [show (k == id) = false from by simpa using hk]
          rfl
  have hG : ∀ id, hget G2 id = if fr id = true then hget G id else hget h2 id := by
    intro id
    simp only [G2, happ, hfil]
    by_cases hf : fr id = true
    · rw [if_pos hf, if_pos hf]
      have : hget h2 id = none := by simp only [fr, Bool.and_eq_true, Option.isNone_iff_eq_none] at hf; exact hf.2
      rw [this]; rfl
    · rw [if_neg hf, if_neg hf]
      cases hget h2 id <;> rfl
  obtain ⟨own'', J2⟩ := I.join (G2 := G2) (fr := fr) J hE hnx (fun id hf => by
    simp only [fr, Bool.and_eq_true, Option.isNone_iff_eq_none] at hf
    exact ⟨hf.1.1, hf.1.2⟩) hG
  refine hn E' own'' G2 u w' hE J2 (fun id o ho => ?_) (fun id h1n h2n => ?_) hv
  · rw [hG]
    have : fr id = false := by simp [fr, ho]
    rw [this]; exact ho
  · rw [hG]
    cases hg : hget G id with
    | none =>
      have : fr id = false := by simp [fr, hg]
      rw [this]; exact h2n
    | some o =>
      have : fr id = true := by simp [fr, hg, h1n, h2n]
      rw [this]; rfl
end
end Lx

/- The engine, part 28: a region's operations in whatever order: all of them. -/
namespace Lx
open Go Go.RowKit

section
variable {M : Type} [Mdl M] {P : Program} {call yield : CallF M} {ops : Array Oper} {s : St M} {recs : List Rec} {sgs : List (Stage M)} {env' : List (Nat × LV)}

abbrev Ld (listed : Array Bool) (j : Nat) : Prop := listed.getD j false = true
theorem Ld.set {listed : Array Bool} {i j : Nat} (hi : i < listed.size) : Ld (listed.setIfInBounds i true) j ↔ j = i ∨ Ld listed j := by
  unfold Ld
  by_cases h : i = j
  · subst h; simp [hi]
  · rw [getD_set_ne false h]
    constructor
    · exact .inr
    · rintro (h' | h')
      · exact absurd h'.symm h
      · exact h'

/-- where a region's run stands: k updates have run -/
structure Sim (P : Program) (ops : Array Oper) (s : St M) (recs : List Rec) (sgs : List (Stage M)) (B : Nat → Prop) (w0 : World) (E0 : Env) (a0 : Act) (k : Nat) (x : Stage M) (listed : Array Bool) (E : Env) (own : Nat → List Nat) (G : Hp M) (a : Act) (w : World) : Prop where
  st : sgs[k]? = some x
  I : Inv B w0 E own G x.nx w
  grow : Grow s.nx E0 E
  nx : s.nx + ops.size ≤ x.nx
  sub : ∀ id o, hget x.h id = some o → hget G id = some o
  fl : ∀ (j : Nat) rc t cs, recs[j]? = some rc → rc.kd = .float t cs → Ld listed j → x.past.testBit j = false → hget G (s.nx + j) = some (.st t cs)
  un : ∀ (j : Nat) rc t cs, recs[j]? = some rc → rc.kd = .float t cs → ¬ Ld listed j → E (s.nx + j) = none
  late : ∀ (j : Nat) y, sgs[j]? = some y → k < j → ¬ Ld listed y.last
  past : ∀ b, x.past.testBit b = true → Ld listed b
  closed : ∀ (q : Nat) o, Ld listed q → ops.toList[q]? = some o → ∀ e ∈ o.after.toList, Region.binds .any e = true → Ld listed e.on
  size : listed.size = ops.size
  tmps : a.tmps.size = s.nt
  tw : ∀ (q : Nat) rq t, recs[q]? = some rq → rq.o.dst = some t → t < s.nt → Ld listed q → Val E rq.v a.tmps t
  tn : ∀ t, (∀ (q : Nat) rq, recs[q]? = some rq → rq.o.dst ≠ some t) → Val E (aget s.env t) a.tmps t
  big : ∀ t, s.nt ≤ t → aget s.env t = .any
  df : a.defers = a0.defers

variable {B : Nat → Prop} {w0 : World} {E0 : Env} {a0 : Act} {k : Nat} {x : Stage M} {listed : Array Bool} {E : Env} {own : Nat → List Nat} {G : Hp M} {a : Act} {w : World}

/-- what an operation that may run now waits for is listed -/
theorem Sim.waits (g : Reg P call yield ops s recs sgs env') (S : Sim P ops s recs sgs B w0 E0 a0 k x listed E own G a w) {i : Nat} {rc : Rec} (hi : recs[i]? = some rc)
    (hall : ∀ e ∈ rc.o.after.toList, Region.binds .any e = true → Ld listed e.on) : ∀ b, rc.mask.testBit b = true → Ld listed b :=
  mask_listed (l := ops.toList) (fun q o hq ho => S.closed q o hq ho) i rc.o rc.mask (g.at hi).1 (g.at hi).2.1 hall

theorem Sim.TR (g : Reg P call yield ops s recs sgs env') (S : Sim P ops s recs sgs B w0 E0 a0 k x listed E own G a w) {i : Nat} {rc : Rec} (hi : recs[i]? = some rc) (hm : ∀ b, rc.mask.testBit b = true → Ld listed b) :
    TR E (onlyL rc.env (rc.o.looksAt ops)) s.nt a.tmps := by
  refine ⟨S.tmps, fun t => ?_⟩
  by_cases ht : t ∈ rc.o.looksAt ops
  · rw [(aget_only _ _ _).1 ht]
    by_cases hw : ∃ (q : Nat) (rq : Rec), recs[q]? = some rq ∧ rq.o.dst = some t
    · obtain ⟨q, rq, hq, hd⟩ := hw
      have hb := g.looks hi hq hd ht
      have hlt := bit_lt (g.at hi).2.2.1 hb
      by_cases hn : t < s.nt
      · rw [(g.D.env.set hn q rq hq hd fun q' rq' hq' hd' => g.uniq hq' hq hd hd').1 i rc hi hlt]
        exact S.tw q rq t hq hd hn (hm q hb)
      · rw [(g.D.env.keep t).1 i rc hi (.inr (by omega))]
        exact .inl (S.big t (by omega))
    · rw [(g.D.env.keep t).1 i rc hi (.inl fun q rq _ hq hd => hw ⟨q, rq, hq, hd⟩)]
      exact S.tn t fun q rq hq hd => hw ⟨q, rq, hq, hd⟩
  · rw [(aget_only _ _ _).2 ht]
    exact .inl rfl

/-- behind an operation -/
theorem Sim.put (g : Reg P call yield ops s recs sgs env') (S : Sim P ops s recs sgs B w0 E0 a0 k x listed E own G a w) {i : Nat} {rc : Rec} (hi : recs[i]? = some rc) (hun : ¬ Ld listed i)
    (hall : ∀ e ∈ rc.o.after.toList, Region.binds .any e = true → Ld listed e.on) {k' : Nat} {x' : Stage M} {E' : Env} {own' : Nat → List Nat} {G' : Hp M} {u : Value} {w' : World}
    (hst : sgs[k']? = some x') (hE : Grow s.nx E E') (I' : Inv B w0 E' own' G' x'.nx w') (hnx : s.nx + ops.size ≤ x'.nx) (hsub : ∀ id o, hget x'.h id = some o → hget G' id = some o)
    (hfl : ∀ (j : Nat) rc' t cs, recs[j]? = some rc' → rc'.kd = .float t cs → (j = i ∨ Ld listed j) → x'.past.testBit j = false → hget G' (s.nx + j) = some (.st t cs))
    (hunE : ∀ (j : Nat) rc' t cs, recs[j]? = some rc' → rc'.kd = .float t cs → j ≠ i → ¬ Ld listed j → E' (s.nx + j) = none)
    (hlate : ∀ (j : Nat) y, sgs[j]? = some y → k' < j → y.last ≠ i ∧ ¬ Ld listed y.last)
    (hpast : ∀ b, x'.past.testBit b = true → b = i ∨ Ld listed b)
    (hv : VR E' rc.v u) : Sim P ops s recs sgs B w0 E0 a0 k' x' (listed.setIfInBounds i true) E' own' G' (a.put rc.o.dst u) w' := by
  have hil : i < listed.size := by
    rw [S.size]
    have := (List.getElem?_eq_some_iff.1 (g.at hi).1).1
    simpa using this
  have hput : ∀ (v : LV) (t : Nat), (rc.o.dst ≠ some t ∨ rc.o.dst = none) → Val E v a.tmps t → Val E' v (a.put rc.o.dst u).tmps t := by
    intro v t hd hV
    cases hdst : rc.o.dst with
    | none => exact hV.ext hE.2
    | some d =>
      rw [hdst] at hd
      have hne : d ≠ t := by
        rcases hd with h | h
        · intro e; exact h (by rw [e])
        · cases h
      refine (hV.ext hE.2).imp id fun ⟨y, h1, h2⟩ => ⟨y, ?_, h2⟩
      simp only [Act.put]
      rw [Array.getElem?_setIfInBounds_ne hne]
      exact h1
  refine ⟨hst, I', S.grow.trans hE (Nat.le_refl _), hnx, hsub, fun j rc' t cs hj hk hl hp => hfl j rc' t cs hj hk ((Ld.set hil).1 hl) hp, fun j rc' t cs hj hk hl => ?_, fun j y hj hk => ?_, fun b hb => (Ld.set hil).2 (hpast b hb), ?_, by simp [S.size], ?_, ?_, ?_, S.big, ?_⟩
  · rw [Ld.set hil] at hl
    exact hunE j rc' t cs hj hk (fun e => hl (.inl e)) (fun e => hl (.inr e))
  · rw [Ld.set hil]
    rintro (h | h)
    · exact (hlate j y hj hk).1 h
    · exact (hlate j y hj hk).2 h
  · intro q o hq ho e he hb
    rw [Ld.set hil] at hq ⊢
    rcases hq with rfl | hq
    · have : rc.o = o := by have := (g.at hi).1; rw [ho] at this; exact (Option.some.inj this).symm
      exact .inr (hall e (by rw [this]; exact he) hb)
    · exact .inr (S.closed q o hq ho e he hb)
  · cases hdst : rc.o.dst with
    | none => exact S.tmps
    | some d => simp [Act.put, S.tmps]
  · intro q rq t hq hd ht hl
    rw [Ld.set hil] at hl
    by_cases hqi : q = i
    · subst hqi
      rw [hi] at hq; cases hq
      refine .inr ⟨u, ?_, hv⟩
      rw [hd]
      simp only [Act.put]
      rw [Array.getElem?_setIfInBounds_self_of_lt (by rw [S.tmps]; exact ht)]
    · refine hput rq.v t (.inl fun e => hqi (g.uniq hi hq hd e).symm) (S.tw q rq t hq hd ht ?_)
      rcases hl with h | h
      · exact absurd h hqi
      · exact h
  · intro t ht
    exact hput _ t (.inl (ht i rc hi)) (S.tn t ht)
  · rw [put_defers']; exact S.df

/-- behind an operation that updates nothing -/
theorem Sim.put_same (g : Reg P call yield ops s recs sgs env') (S : Sim P ops s recs sgs B w0 E0 a0 k x listed E own G a w) {i : Nat} {rc : Rec} (hi : recs[i]? = some rc) (hun : ¬ Ld listed i)
    (hall : ∀ e ∈ rc.o.after.toList, Region.binds .any e = true → Ld listed e.on) (hnk : rc.kd ≠ .upd) (hnf : ∀ t cs, rc.kd ≠ .float t cs) {E' : Env} {own' : Nat → List Nat} {G' : Hp M} {u : Value} {w' : World}
    (hE : Grow x.nx E E') (I' : Inv B w0 E' own' G' x.nx w') (hG : ∀ id o, hget G id = some o → hget G' id = some o)
    (hv : VR E' rc.v u) : Sim P ops s recs sgs B w0 E0 a0 k x (listed.setIfInBounds i true) E' own' G' (a.put rc.o.dst u) w' := by
  refine S.put g hi hun hall S.st ⟨fun id hid => hE.1 id (by have := S.nx; omega), hE.2⟩ I' S.nx (fun id o h => hG _ _ (S.sub id o h)) (fun j rc' t cs hj hk hl hp => ?_) (fun j rc' t cs hj hk hne hl => ?_) (fun j y hj hk => ⟨fun e => ?_, S.late j y hj hk⟩) (fun b hb => .inr (S.past b hb)) hv
  · rcases hl with rfl | hl
    · rw [hi] at hj; cases hj; exact absurd hk (hnf t cs)
    · exact hG _ _ (S.fl j rc' t cs hj hk hl hp)
  · have hjl : j < ops.size := by
      have := (List.getElem?_eq_some_iff.1 (g.at hj).1).1
      simpa using this
    rw [hE.1 (s.nx + j) (by have := S.nx; omega)]
    exact S.un j rc' t cs hj hk hl
  · -- an update is not this one
    cases j with
    | zero => omega
    | succ j =>
      have hlt : j < sgs.length := by have := (List.getElem?_eq_some_iff.1 hj).1; omega
      obtain ⟨rc2, h1, h2, _⟩ := g.next (List.getElem?_eq_getElem hlt) hj
      rw [e, hi] at h1; cases h1
      exact hnk h2
end
end Lx

/- The engine, part 29: a region that draws its order: whatever is drawn, it comes to what the run says. -/
namespace Lx
open Go Go.RowKit

section
variable {M : Type} [Mdl M] {P : Program} {call yield : CallF M} {ops : Array Oper} {s : St M} {recs : List Rec} {sgs : List (Stage M)} {env' : List (Nat × LV)}
variable {B : Nat → Prop} {w0 : World} {E0 : Env} {a0 : Act} {k : Nat} {x : Stage M} {listed : Array Bool} {E : Env} {own : Nat → List Nat} {G : Hp M} {a : Act} {w : World}

theorem Reg.fl_past (g : Reg P call yield ops s recs sgs env') (hst : sgs[k]? = some x) : ∀ f ∈ x.fl, x.past.testBit f.1 = false ∧ ∃ (j : Nat) (rc : Rec) (t : TypeId) (cs : List LV), recs[j]? = some rc ∧ rc.kd = .float t cs ∧ f = (j, s.nx + j, t, cs) := by
  intro f hf
  obtain ⟨h1, h2⟩ := g.D.fl_sound (fun f hf => by simp at hf) (fun b hb => by simp at hb) k x hst f hf
  refine ⟨h1, ?_⟩
  rcases h2 with h2 | ⟨j, rc, t, cs, h3, h4, h5⟩
  · simp at h2
  · exact ⟨j, rc, t, cs, h3, h4, by simpa using h5⟩
theorem Reg.clear (g : Reg P call yield ops s recs sgs env') (hst : sgs[k]? = some x) {j : Nat} {rc : Rec} {t : TypeId} {cs : List LV} (hj : recs[j]? = some rc) (hk : rc.kd = .float t cs) (hp : x.past.testBit j = false) : hget x.h (s.nx + j) = none := by
  have := clearF_spec (clears_spec g.N k x hst) j rc t cs hj hk (by simpa using hp)
  simpa using this

/-- what an operation looks at is there -/
theorem Sim.part (g : Reg P call yield ops s recs sgs env') (S : Sim P ops s recs sgs B w0 E0 a0 k x listed E own G a w) {mask : Nat} (hm : ∀ b, mask.testBit b = true → Ld listed b) :
    ∀ id o, hget (joinF mask x.fl x.h) id = some o → hget G id = some o := by
  intro id o ho
  by_cases hf : ∃ f ∈ x.fl, mask.testBit f.1 = true ∧ f.2.1 = id
  · obtain ⟨f, hf, hb, rfl⟩ := hf
    obtain ⟨hp, j, rc, t, cs, hj, hk, rfl⟩ := g.fl_past S.st f hf
    have := joinF_some (h := x.h) (mask := mask) (fl := x.fl) (x := (j, s.nx + j, t, cs)) (fun y hy hyx => by
      obtain ⟨_, j', rc', t', cs', hj', hk', rfl⟩ := g.fl_past S.st y hy
      simp only at hyx
      have : j' = j := by omega
      subst this
      rw [hj] at hj'; cases hj'
      rw [hk] at hk'; cases hk'
      rfl) hf hb
    simp only at this ho
    rw [this] at ho
    cases ho
    exact S.fl j rc t cs hj hk (hm j hb) hp
  · rw [joinF_none fun f hfm hb e => hf ⟨f, hfm, hb, e⟩] at ho
    exact S.sub id o ho

theorem Sim.step (hz : ZOK P) (hc : CallOK P call) (hy : YieldOK P yield) (g : Reg P call yield ops s recs sgs env') (S : Sim P ops s recs sgs B w0 E0 a0 k x listed E own G a w) {i : Nat} (hr : i ∈ Region.ready .any ops listed)
    {K : Act → World → Prop} {lr : Option Nat} {n : Nat} {Q : Exit → Act → World → Prop}
    (hK : ∀ k' x' E' own' G' a' w', Sim P ops s recs sgs B w0 E0 a0 k' x' (listed.setIfInBounds i true) E' own' G' a' w' → K a' w') : wpOpIn (Wd lr) n P ops Q i K a w := by
  obtain ⟨hun0, o, ho, hall0⟩ := mem_ready.1 hr
  have hilt : i < recs.length := by
    rw [g.len]
    have := (Array.getElem?_eq_some_iff.1 ho).1
    simpa using this
  obtain ⟨rc, hrc⟩ : ∃ rc, recs[i]? = some rc := ⟨_, List.getElem?_eq_getElem hilt⟩
  have hat := g.at hrc
  have hoo : o = rc.o := by
    have h1 := hat.1
    rw [Array.getElem?_toList, ho] at h1
    exact Option.some.inj h1
  subst hoo
  have hun : ¬ Ld listed i := by
    intro h
    have hil : i < listed.size := by
      rcases Nat.lt_or_ge i listed.size with h' | h'
      · exact h'
      · simp [Ld, Array.getElem?_eq_none h'] at h
    simp [hil] at h hun0
    rw [hun0] at h; cases h
  have hall : ∀ e ∈ rc.o.after.toList, Region.binds .any e = true → Ld listed e.on := fun e he hb => hall0 e (by simpa using he) hb
  have hm := S.waits g hrc hall
  have T := S.TR g hrc hm
  have hw : Region.wanted rc.o (yielded ops a.tmps) = !kdOff rc.kd := wantedL_ok T (by rw [wantedL_only]; exact hat.2.2.2.1)
  have hpi : x.past.testBit i = false := by
    cases hq : x.past.testBit i with
    | false => rfl
    | true => exact absurd (S.past i hq) hun
  -- an operation that updates nothing
  have pure : ∀ h1 : Hp M, rc.kd ≠ .upd → (∀ t cs, rc.kd ≠ .float t cs) → calls rc.o.op = false → (∀ id o, hget h1 id = some o → hget G id = some o) →
      (opL P (evO rc.env) h1 x.nx rc.o).pre → (opL P (evO rc.env) h1 x.nx rc.o).up = none → (opL P (evO rc.env) h1 x.nx rc.o).v = rc.v → rc.o.wpIn (Wd lr) n P a w K Q := by
    intro h1 hnk hnf hcall hsub hp hu hv
    refine stepO_part hz hc hy (ops := ops) (stepO_of (call := call) (yield := yield) hcall hp hu) S.I T hsub fun E' own' G' u w' hE I' hG1 hG2 hvu => ?_
    rw [hv] at hvu
    refine hK k x E' own' G' _ w' (S.put_same g hrc hun hall hnk hnf hE I' (fun id o hid => ?_) hvu)
    cases h1id : hget h1 id with
    | none => rw [hG2 id h1id h1id]; exact hid
    | some o' =>
      have := hsub id o' h1id
      rw [hid] at this; cases this
      exact hG1 id o h1id
  unfold wpOpIn
  rw [ho]
  simp only [hw]
  have hrec := hat.2.2.2.2
  unfold RecIs at hrec
  cases hk : rc.kd with
  | off =>
    rw [hk] at hrec
    simp only [kdOff, Bool.not_true, Bool.false_eq_true, if_false]
    refine ⟨fun _ _ => trivial, hK k x E own G _ w (S.put_same g hrc hun hall (by rw [hk]; simp) (by rw [hk]; simp) (Grow.refl _ E) S.I (fun _ _ h => h) ?_)⟩
    rw [hrec]; exact .any
  | still =>
    rw [hk] at hrec
    obtain ⟨hst, hcl, hal, h, nx, hp, hv⟩ := hrec
    simp only [kdOff, Bool.not_false, if_true]
    obtain ⟨e1, e2⟩ := still_opL (P := P) (ρ := evO rc.env) (h := h) (h' := G) (nx := nx) (nx' := x.nx) (o := rc.o) hst
    rw [e1] at hp hv e2
    exact pure G (by rw [hk]; simp) (by rw [hk]; simp) hcl (fun _ _ h => h) hp e2 hv.symm
  | reads =>
    rw [hk] at hrec
    simp only [kdOff, Bool.not_false, if_true]
    have hro := allReads_spec g.R i rc hrc hk
    rw [Nat.zero_add] at hro
    obtain ⟨hp, hu, hv⟩ := readsOk_spec hro k x S.st hpi fun b hb j y hkj hy e => S.late j y hy hkj (by rw [e]; exact hm b hb)
    exact pure _ (by rw [hk]; simp) (by rw [hk]; simp) hrec.1 (S.part g hm) hp hu hv
  | float t cs =>
    rw [hk] at hrec
    obtain ⟨hop, hzc, hall1, hlen, hv⟩ := hrec
    simp only [kdOff, Bool.not_false, if_true]
    have hio : i < ops.size := (Array.getElem?_eq_some_iff.1 ho).1
    have hEn := S.un i rc t cs hrc hk hun
    have hGn : hget G (s.nx + i) = none := by
      cases hg : hget G (s.nx + i) with
      | none => rfl
      | some o => obtain ⟨e, he, _⟩ := S.I.obj _ _ hg; rw [hEn] at he; cases he
    obtain ⟨e, own', v, w', hrun, I', hvv⟩ := alloc_at (P := P) S.I (r := s.nx + i) (t := t) (cs := cs) (by have := S.nx; omega) hEn hzc hall1 hlen
    have hGr : Grow s.nx E (E.put (s.nx + i) e) := ⟨fun id hid => by unfold Env.put; rw [if_neg (by omega)], Ext.put hEn⟩
    have hget' : ∀ id, hget ((s.nx + i, LObj.st t cs) :: G) id = if id = s.nx + i then some (.st t cs) else hget G id := by
      intro id
      simp only [hget]
      by_cases hid : id = s.nx + i
      · subst hid; simp
      · rw [if_neg hid, show (s.nx + i == id) = false from by simp; omega]; rfl
    refine ⟨fun _ _ => trivial, ?_⟩
    rw [Oper.semAt_eq _ _ _ (by intro c hc; rw [hop] at hc; cases hc)]
    have hexec : (execOp a.eval rc.o).run P w = .ok (.value v) w' := by
      unfold execOp
      rw [hop]
      simp [hrun]
    rw [hexec, Oper.uponIn_value]
    refine hK k x _ own' _ _ w' (S.put g hrc hun hall S.st hGr I' S.nx (fun id o hid => ?_) (fun j rc' t' cs' hj hk' hl hp => ?_) (fun j rc' t' cs' hj hk' hne hl => ?_) (fun j y hj hkj => ⟨fun he => ?_, S.late j y hj hkj⟩) (fun b hb => .inr (S.past b hb)) ?_)
    · rw [hget']
      have := S.sub id o hid
      rw [if_neg (fun e => by rw [e, hGn] at this; cases this)]
      exact this
    · rw [hget']
      rcases hl with rfl | hl
      · rw [hrc] at hj; cases hj
        rw [hk] at hk'; cases hk'
        rw [if_pos rfl]
      · have := S.fl j rc' t' cs' hj hk' hl hp
        rw [if_neg (fun e => by rw [e, hGn] at this; cases this)]
        exact this
    · unfold Env.put
      rw [if_neg (by omega)]
      exact S.un j rc' t' cs' hj hk' hl
    · cases j with
      | zero => omega
      | succ j =>
        have hlt : j < sgs.length := by have := (List.getElem?_eq_some_iff.1 hj).1; omega
        obtain ⟨rc2, h1, h2, _⟩ := g.next (List.getElem?_eq_getElem hlt) hj
        rw [he, hrc] at h1; cases h1
        rw [hk] at h2; cases h2
    · rw [hv]; exact hvv
  | upd =>
    rw [hk] at hrec
    obtain ⟨kk, x1, y, hx1, hy1, hs, hpast, hlast, hnum, hord, _⟩ := hrec
    simp only [kdOff, Bool.not_false, if_true]
    -- it is the next one
    have hkk : kk = k := by
      have hge : k ≤ kk := by
        rcases Nat.lt_or_ge kk k with h | h
        · exfalso
          -- the update of stage kk + 1 ≤ k has run
          apply hun
          have : x.past.testBit i = true := (g.past k x S.st i).2 ⟨kk + 1, y, rc, by omega, by omega, hy1, by rw [hlast]; exact hrc, .inl hlast.symm⟩
          exact S.past i this
        · exact h
      rcases Nat.lt_or_ge k kk with h | h
      · exfalso
        rcases hord with h0 | h0
        · rw [g.num hx1] at h0; omega
        · exact S.late kk x1 hx1 h (hm _ h0)
      · omega
    subst hkk
    have hxx : x1 = x := by rw [S.st] at hx1; exact (Option.some.inj hx1).symm
    subst hxx
    have hnxle : x1.nx ≤ y.nx := (stepO_ok hz hc hy hs).1
    refine stepO_part hz hc hy (ops := ops) hs S.I T (S.part g hm) fun E' own' G' u w' hE I' hG1 hG2 hvu => ?_
    have hbit : ∀ b, y.past.testBit b = true ↔ x1.past.testBit b = true ∨ rc.mask.testBit b = true ∨ i = b := by
      intro b
      rw [hpast]
      simp only [Nat.testBit_or, Bool.or_eq_true, Nat.testBit_two_pow, decide_eq_true_eq, or_assoc]
    refine hK (kk + 1) y E' own' G' _ w' (S.put g hrc hun hall hy1 ⟨fun id hid => hE.1 id (by have := S.nx; omega), hE.2⟩ I' (by have := S.nx; omega) hG1 (fun j rc' t' cs' hj hk' hl hp => ?_) (fun j rc' t' cs' hj hk' hne hl => ?_) (fun j z hj hkj => ⟨fun he => ?_, S.late j z hj (by omega)⟩) (fun b hb => ?_) hvu)
    · have hnp : x1.past.testBit j = false ∧ rc.mask.testBit j = false ∧ i ≠ j := by
        refine ⟨?_, ?_, ?_⟩
        · cases hq : x1.past.testBit j with
          | false => rfl
          | true => rw [(hbit j).2 (.inl hq)] at hp; cases hp
        · cases hq : rc.mask.testBit j with
          | false => rfl
          | true => rw [(hbit j).2 (.inr (.inl hq))] at hp; cases hp
        · intro e; rw [(hbit j).2 (.inr (.inr e))] at hp; cases hp
      have hlj : Ld listed j := by
        rcases hl with h | h
        · exact absurd h.symm hnp.2.2
        · exact h
      have h1n : hget (joinF rc.mask x1.fl x1.h) (s.nx + j) = none := by
        rw [joinF_none]
        · exact g.clear S.st hj hk' hnp.1
        · intro f hf hb e
          obtain ⟨_, j', rc2, t2, cs2, hj2, hk2, rfl⟩ := g.fl_past S.st f hf
          simp only at hb e
          have : j' = j := by omega
          subst this
          rw [hnp.2.1] at hb; cases hb
      rw [hG2 _ h1n (g.clear hy1 hj hk' hp)]
      exact S.fl j rc' t' cs' hj hk' hlj hnp.1
    · have hjl : j < ops.size := by
        have := (List.getElem?_eq_some_iff.1 (g.at hj).1).1
        simpa using this
      rw [hE.1 (s.nx + j) (by have := S.nx; omega)]
      exact S.un j rc' t' cs' hj hk' hl
    · rw [← hlast] at he
      have := g.inj (by omega) (by omega) hj hy1 he
      omega
    · rcases (hbit b).1 hb with h | h | h
      · exact .inr (S.past b h)
      · exact .inr (hm b h)
      · exact .inl h.symm
end
end Lx

/- The engine, part 30: a region that draws its order: joined. -/
namespace Lx
open Go Go.RowKit

section
variable {M : Type} [Mdl M] {P : Program} {call yield : CallF M} {ops : Array Oper} {s : St M} {recs : List Rec} {sgs : List (Stage M)} {env' : List (Nat × LV)}
variable {B : Nat → Prop} {w0 : World} {E0 : Env} {a0 : Act} {k : Nat} {x : Stage M} {listed : Array Bool} {E : Env} {own : Nat → List Nat} {G : Hp M} {a : Act} {w : World}

theorem lastSt_get (d : Stage M) : ∀ (l : List (Stage M)) (x : Stage M), l.getLast? = some x → lastSt d l = x
  | [], x, h => by simp at h
  | [y], x, h => by simpa [lastSt] using h
  | y :: z :: l, x, h => by
    have h' : (z :: l).getLast? = some x := by simpa using h
    exact lastSt_get y (z :: l) x h'

/-- behind all of them -/
theorem Sim.done (g : Reg P call yield ops s recs sgs env') (S : Sim P ops s recs sgs B w0 E0 a0 k x listed E own G a w) (hr : Region.ready .any ops listed = []) :
    (∀ j, j < ops.size → Ld listed j) ∧ sgs.getLast? = some x ∧ Lx.TR E env' s.nt a.tmps := by
  have all : ∀ j, j < ops.size → Ld listed j := by
    intro j
    induction j using Nat.strongRecOn with
    | _ j ih =>
      intro hj
      cases hl : listed.getD j false with
      | true => exact hl
      | false =>
        exfalso
        have hjl : j < recs.length := by rw [g.len]; simpa using hj
        have hat := g.at (List.getElem?_eq_getElem hjl)
        have ho : ops[j]? = some recs[j].o := by have := hat.1; rwa [Array.getElem?_toList] at this
        have hmem : j ∈ Region.ready .any ops listed := by
          refine mem_ready.2 ⟨?_, _, ho, fun e he hb => ?_⟩
          · have hjs : j < listed.size := by rw [S.size]; exact hj
            simp [hjs] at hl ⊢
            exact hl
          · have hmk : recs[j].mask.testBit e.on = true := by
              obtain ⟨ms, h1, h2, h3⟩ := masks_eq ops.toList []
              simp only [List.nil_append] at h1 h3
              have hmj := hat.2.1
              rw [h1, h3 j _ hat.1] at hmj
              cases hmj' : recs[j].mask with
              | _ => 
                rw [← hmj', ← Option.some.inj hmj]
                exact maskO_has (by simpa using he) hb
            have := bit_lt hat.2.2.1 hmk
            exact ih e.on this (by omega)
        rw [hr] at hmem
        cases hmem
  refine ⟨all, ?_, S.tmps, fun t => ?_⟩
  · -- no stage is to come
    have hlen : sgs.length = k + 1 := by
      have hk := (List.getElem?_eq_some_iff.1 S.st).1
      rcases Nat.lt_or_ge (k + 1) sgs.length with h | h
      · exfalso
        have hy := List.getElem?_eq_getElem h
        obtain ⟨rc, h1, _⟩ := g.next S.st hy
        have hlt : (sgs[k + 1]).last < ops.size := by
          have := (List.getElem?_eq_some_iff.1 h1).1
          rw [g.len] at this
          simpa using this
        exact S.late (k + 1) _ hy (by omega) (all _ hlt)
      · omega
    rw [List.getLast?_eq_getElem?, hlen]
    simpa using S.st
  · by_cases hw : ∃ (q : Nat) (rq : Rec), recs[q]? = some rq ∧ rq.o.dst = some t
    · obtain ⟨q, rq, hq, hd⟩ := hw
      by_cases hn : t < s.nt
      · rw [(g.D.env.set hn q rq hq hd fun q' rq' hq' hd' => g.uniq hq' hq hd hd').2]
        refine S.tw q rq t hq hd hn (all q ?_)
        have := (List.getElem?_eq_some_iff.1 hq).1
        rw [g.len] at this
        simpa using this
      · rw [(g.D.env.keep t).2 (.inr (by omega))]
        exact .inl (S.big t (by omega))
    · rw [(g.D.env.keep t).2 (.inl fun q rq hq hd => hw ⟨q, rq, hq, hd⟩)]
      exact S.tn t fun q rq hq hd => hw ⟨q, rq, hq, hd⟩

theorem count_set {i : Nat} : ∀ {l : List Bool}, l[i]? = some false → (l.set i true).count false + 1 = l.count false := by
  intro l
  induction l generalizing i with
  | nil => intro h; simp at h
  | cons b l ih =>
    intro h
    cases i with
    | zero => simp at h; subst h; simp
    | succ i =>
      have := ih (i := i) (by simpa using h)
      cases b <;> simp [List.set_cons_succ] <;> omega

theorem Sim.any (hz : ZOK P) (hc : CallOK P call) (hy : YieldOK P yield) (g : Reg P call yield ops s recs sgs env') {lr : Option Nat} {n : Nat} {Q : Exit → Act → World → Prop}
    (hQ : ∀ k x listed E own G a w, Sim P ops s recs sgs B w0 E0 a0 k x listed E own G a w → Region.ready .any ops listed = [] → Q .normal a w) :
    ∀ (fuel k : Nat) (x : Stage M) (listed : Array Bool) (E : Env) (own : Nat → List Nat) (G : Hp M) (a : Act) (w : World), listed.toList.count false ≤ fuel → Sim P ops s recs sgs B w0 E0 a0 k x listed E own G a w →
      wpAnyIn (Wd lr) n P .any ops Q fuel listed a w
  | 0, k, x, listed, E, own, G, a, w, hf, S => by
    have hr : Region.ready .any ops listed = [] := by
      cases h : Region.ready .any ops listed with
      | nil => rfl
      | cons i rs =>
        exfalso
        have hi : i ∈ Region.ready .any ops listed := by rw [h]; simp
        obtain ⟨h0, o, ho, _⟩ := mem_ready.1 hi
        have hio : i < listed.size := by rw [S.size]; exact (Array.getElem?_eq_some_iff.1 ho).1
        have : listed.toList[i]? = some false := by
          simp [hio] at h0 ⊢
          exact h0
        have := count_set this
        omega
    exact ⟨hr, hQ _ _ _ _ _ _ _ _ S hr⟩
  | fuel + 1, k, x, listed, E, own, G, a, w, hf, S => by
    refine ⟨fun hr => hQ _ _ _ _ _ _ _ _ S hr, fun i hi => S.step hz hc hy g hi fun k' x' E' own' G' a' w' S' => ?_⟩
    refine Sim.any hz hc hy g hQ fuel k' x' _ E' own' G' a' w' ?_ S'
    obtain ⟨h0, o, ho, _⟩ := mem_ready.1 hi
    have hio : i < listed.size := by rw [S.size]; exact (Array.getElem?_eq_some_iff.1 ho).1
    have : listed.toList[i]? = some false := by
      simp [hio] at h0 ⊢
      exact h0
    have := count_set this
    rw [Array.toList_setIfInBounds]
    omega

theorem drawOK (hm : P.follows .mixedOrders = true) (hz : ZOK P) : DrawOK M P := by
  intro call yield hc hy ops s s' hrun
  unfold runDraw at hrun
  simp only at hrun
  cases hW : writersOk ops.toList (masks ops.toList []) with
  | false => rw [hW] at hrun; cases hrun
  | true =>
    rw [hW] at hrun
    simp only [cond_true] at hrun
    cases hd : drawGo P call yield ops s.nt s.nx ops.toList (masks ops.toList []) 0 s.env ⟨s.h, s.nx + ops.toList.length, 0, 0, 0, []⟩ with
    | no w => rw [hd] at hrun; cases hrun
    | ok y =>
      obtain ⟨recs, sgs, env'⟩ := y
      rw [hd] at hrun
      simp only at hrun
      cases hR : (allReads P sgs recs 0 && clears s.nx recs sgs) with
      | false => rw [hR] at hrun; cases hrun
      | true =>
        rw [hR] at hrun
        simp only [cond_true] at hrun
        rw [Bool.and_eq_true] at hR
        have g : Reg P call yield ops s recs sgs env' := ⟨drawGo_dr _ _ _ _ _ _ _ _ hd, hW, hR.1, hR.2⟩
        cases hrun
        -- names only grow
        have hmono : ∀ (k : Nat) (x : Stage M), sgs[k]? = some x → s.nx + ops.toList.length ≤ x.nx := by
          intro k
          induction k with
          | zero =>
            intro x hx
            obtain ⟨z, rest, g0, _, g2, _⟩ := g.first
            rw [g0] at hx
            simp at hx
            subst hx
            omega
          | succ k ih =>
            intro x hx
            have hlt : k < sgs.length := by have := (List.getElem?_eq_some_iff.1 hx).1; omega
            have hy1 := List.getElem?_eq_getElem hlt
            obtain ⟨rc, h1, h2, _⟩ := g.next hy1 hx
            have hrec := (g.at h1).2.2.2.2
            unfold RecIs at hrec
            rw [h2] at hrec
            obtain ⟨kk, x1, y1, hx1, hy2, hs, _, hlast, hnum, _⟩ := hrec
            have h3 := g.num hy2
            have : kk = k := by
              have := g.inj (j := kk + 1) (k := k + 1) (by omega) (by omega) hy2 hx hlast
              omega
            subst this
            rw [hx] at hy2; cases hy2
            have := (stepO_ok hz hc hy hs).1
            have := ih x1 hx1
            omega
        obtain ⟨x0, rest, g0, g1, g2, g3, g4⟩ := g.first
        have hlastm : ∃ xl, sgs.getLast? = some xl := by rw [g0]; exact ⟨_, List.getLast?_eq_some_getLast (by simp)⟩
        obtain ⟨xl, hxl⟩ := hlastm
        have hxl' : sgs[sgs.length - 1]? = some xl := by rw [← List.getLast?_eq_getElem?]; exact hxl
        have hlst := lastSt_get ⟨s.h, s.nx + ops.toList.length, 0, 0, 0, []⟩ sgs xl hxl
        refine ⟨?_, rfl, rfl, fun B w0 E own a w lr n Q id I T hQ => ?_⟩
        · simp only [hlst]
          have := hmono _ _ hxl'
          omega
        · refine wpIn_region_any hm ?_
          refine Sim.any (B := B) (w0 := w0) (E0 := E) (a0 := a) hz hc hy g (fun k x listed E' own' G a' w' S hr => ?_) ops.size 0 x0 (Array.replicate ops.size false) E own s.h a _ (by simp) ?_
          · obtain ⟨hall, hlast, hT⟩ := S.done g hr
            rw [hlast] at hxl
            cases hxl
            refine hQ E' own' a' w' S.grow ?_ hT S.df
            simp only [hlst]
            refine S.I.forget (S.part g fun b hb => ?_)
            rw [Nat.testBit_two_pow_sub_one] at hb
            exact hall b (by simpa using hb)
          · have hld : ∀ j, ¬ Ld (Array.replicate ops.size false) j := by
              intro j h
              unfold Ld at h
              by_cases hj : j < ops.size
              · simp [hj] at h
              · simp [hj] at h
            refine ⟨by rw [g0]; rfl, ?_, Grow.refl _ E, by rw [g2]; simp, by rw [g1]; exact fun _ _ h => h, fun j rc t cs _ _ h => absurd h (hld j), fun j rc t cs _ _ _ => ?_, fun j y _ _ => hld _, fun b hb => by rw [g3] at hb; simp at hb, fun q o h => absurd h (hld q), by simp, T.1,
              fun q rq t _ _ _ h => absurd h (hld q), fun t _ => T.2 t, fun t ht => ?_, rfl⟩
            · have := (I.more (n := x0.nx) (by rw [g2]; omega)).same (w' := { w with drawn := w.drawn + 1 }) rfl rfl rfl rfl
              exact this
            · cases he : E (s.nx + j) with
              | none => rfl
              | some e => have := I.dom _ _ he; omega
            · rcases T.2 t with h | ⟨v, h, _⟩
              · exact h
              · have := (Array.getElem?_eq_some_iff.1 h).1
                rw [T.1] at this
                omega
end
end Lx

/- The engine, part 31: from a run to a call's contract. -/
namespace Lx
open Go Go.RowKit

def zokB (P : Program) : Bool := P.types.toList.all fun i => match i.zero with | some z => Nat.beq z.cells.size i.size | none => true
def ftokB (P : Program) : Bool := P.funcs.toList.all fun f => !(f.name == "runtime.NumGoroutine")

section
variable {M : Type} [Mdl M] {P : Program}
theorem zok_of (h : zokB P = true) : ZOK P := by
  intro t i z ht hi hz
  unfold zokB at h
  rw [List.all_eq_true] at h
  have hm : i ∈ P.types.toList := by
    unfold Tables.info? at hi
    rw [if_pos ht] at hi
    exact Array.mem_toList_iff.2 (Array.mem_of_getElem? hi)
  have := h i hm
  rw [hz] at this
  simpa using this
theorem ftok_of (h : ftokB P = true) : FTOK P fun n => P.funcs[n]? := by
  intro g fn hg
  refine ⟨hg, ?_⟩
  unfold ftokB at h
  rw [List.all_eq_true] at h
  have := h fn (Array.mem_toList_iff.2 (Array.mem_of_getElem? hg))
  simpa using this
theorem ov_none : OvOK (M := M) P fun _ _ _ _ => none := fun _ _ _ _ _ _ _ h => by cases h

theorem inv_start (w : World) : Inv (M := M) (fun b => w.heap.size ≤ b) w E0 (fun _ => []) [] 0 w :=
  by
  refine ⟨⟨rfl, rfl, rfl, Nat.le_refl _, fun _ _ => rfl⟩, fun _ h => h, ?_, ?_, ?_, ?_⟩
  · intro id e h; cases h
  · intro id o h; cases h
  · intro i j h; cases h
  · intro id o h; cases h
theorem below_of {B : Nat → Prop} {w w' : World} {E : Env} {own : Nat → List Nat} {h : Hp M} {nx : Nat} (hB : ∀ b, B b → w.heap.size ≤ b) (I : Inv B w E own h nx w') : RowKit.Below w.heap.size w w' :=
  ⟨I.kept.os, I.kept.tape, I.kept.output, I.kept.size, fun k hk => I.kept.block k fun h => by have := hB k h; omega⟩

theorem calls_of_run {FT : Nat → Option Func} {ov : Ov M} {fuel : Nat} (hm : P.follows .mixedOrders = true) (hz : ZOK P) (hF : FTOK P FT) (hov : OvOK P ov) {g : Nat} {args : List LV} {v : LV} {h' : Hp M} {nx' : Nat}
    (hrun : callR P FT ov (run (M := M) P FT ov fuel) g args [] 0 = .ok (v, h', nx')) {vs : List Value} (hvs : VRs E0 args vs) (w : World) :
    Calls P g vs.toArray w fun e w' => ∃ E u, e = .returned u ∧ VR E v u ∧ RowKit.Below w.heap.size w w' := by
  obtain ⟨_, hc⟩ := callR_ok hF hov (run_ok hz hF hov (drawOK hm hz) fuel) g args [] 0 v h' nx' hrun
  obtain ⟨_, hc⟩ := hc _ w E0 _ w vs (inv_start w) hvs
  exact callsIn_wide.1 (hc none 0 _ fun E' own' u w' _ I hv => ⟨E', u, rfl, hv, below_of (fun _ h => h) I⟩)
theorem calls_true {FT : Nat → Option Func} {ov : Ov M} {fuel : Nat} (hm : P.follows .mixedOrders = true) (hz : ZOK P) (hF : FTOK P FT) (hov : OvOK P ov) {g : Nat} {args : List LV} {h' : Hp M} {nx' : Nat}
    (hrun : callR P FT ov (run (M := M) P FT ov fuel) g args [] 0 = .ok (.b true, h', nx')) {vs : List Value} (hvs : VRs E0 args vs) (w : World) :
    Calls P g vs.toArray w fun e w' => e = .returned (.bool true) ∧ RowKit.Below w.heap.size w w' := by
  refine (calls_of_run hm hz hF hov hrun hvs w).mono fun e w' ⟨E, u, h1, h2, h3⟩ => ⟨?_, h3⟩
  cases h2
  exact h1
end
end Lx

/- The engine, part 32: contracts that calls go by. -/
namespace Lx
open Go Go.RowKit

section
variable {M : Type} [Mdl M] {P : Program}

theorem enter_ok {FT : Nat → Option Func} (hF : FTOK P FT) {g : Nat} {fn : Func} {c : Code} (hg : FT g = some fn) (hb : fn.body = some c) (vs : Array Value) (W : World) : (callFunc g vs).run P W = .ok (.enter g vs) W := by
  obtain ⟨hf, hname⟩ := hF g fn hg
  simp only [callFunc, Sem.run_bind, run_program, Result.andThen_ok, hf]
  simp [hname, hb]

/-- what was there is there, behind a call that turned nothing old -/
theorem Inv.below {B : Nat → Prop} {w0 w w' : World} {E : Env} {own : Nat → List Nat} {h : Hp M} {nx : Nat} (I : Inv B w0 E own h nx w) (hb : RowKit.Below w.heap.size w w') : Inv B w0 E own h nx w' := by
  have hlt0 : ∀ b, ¬ B b → b < w.heap.size := by
    intro b hB
    rcases Nat.lt_or_ge b w0.heap.size with hl | hl
    · exact Nat.lt_of_lt_of_le hl I.kept.size
    · exact absurd (I.new b hl) hB
  refine ⟨⟨hb.os.trans I.kept.os, hb.tape.trans I.kept.tape, hb.output.trans I.kept.output, Nat.le_trans I.kept.size hb.size, fun b hB => ?_⟩, I.new, I.dom, fun id o hid => ?_, I.disj, I.may⟩
  · rw [hb.block b (hlt0 b hB)]; exact I.kept.block b hB
  · obtain ⟨e, he, hO⟩ := I.obj id o hid
    exact ⟨e, he, hO.world fun b hbk => hb.block b (I.lt hid b hbk)⟩

/-- a function without arguments that returns a Bool -/
def OvTrue (P : Program) (g : Nat) : Prop := (∀ W : World, (callFunc g #[]).run P W = .ok (.enter g #[]) W) ∧ ∀ w : World, Calls P g #[] w fun e w' => e = .returned (.bool true) ∧ RowKit.Below w.heap.size w w'
/-- calls of functions that return true, whatever there is -/
def ovTrue (gs : List Nat) : Ov M := fun g args h nx => match args with
  | [] => bif gs.any (Nat.beq g) then some (.b true, h, nx) else none
  | _ => none
theorem ovTrue_ok {gs : List Nat} (hgs : ∀ g ∈ gs, OvTrue P g) : OvOK (M := M) P (ovTrue gs) := by
  intro g args h nx v h' nx' hov
  unfold ovTrue at hov
  cases args with
  | cons _ _ => cases hov
  | nil =>
    simp only at hov
    cases hg : gs.any (Nat.beq g) with
    | false => rw [hg] at hov; cases hov
    | true =>
      rw [hg] at hov
      cases hov
      rw [List.any_eq_true] at hg
      obtain ⟨g', hm, he⟩ := hg
      rw [Nat.beq_eq] at he
      subst he
      obtain ⟨h1, h2⟩ := hgs g hm
      refine ⟨Nat.le_refl _, fun B w0 E own w vs I hvs => ?_⟩
      cases hvs
      refine ⟨h1, fun lr n R hR => ?_⟩
      have hin : CallsIn Fence.wide n P g #[] w R := callsIn_wide.2 ((h2 w).mono fun e w' ⟨he, hb⟩ => by
        subst he
        exact hR E own (.bool true) w' (Grow.refl _ E) (I.below hb) .b)
      exact hin
/-- one table of contracts, then another -/
def ovOr (a b : Ov M) : Ov M := fun g args h nx => match a g args h nx with
  | some r => some r
  | none => b g args h nx
theorem ovOr_ok {a b : Ov M} (ha : OvOK P a) (hb : OvOK P b) : OvOK P (ovOr a b) := by
  intro g args h nx v h' nx' hov
  unfold ovOr at hov
  cases hq : a g args h nx with
  | none => rw [hq] at hov; exact hb _ _ _ _ _ _ _ hov
  | some r => rw [hq] at hov; cases hov; exact ha _ _ _ _ _ _ _ hq

/-! arguments that are known by numbers -/
/-- the values that are known by numbers -/
def tokE (vs : List Value) : Env := fun j => (vs[j]?).map fun v => { blk := fun _ => 0, room := fun _ => 0, val := v }
theorem inv_tok (vs : List Value) (w : World) : Inv (M := M) (fun b => w.heap.size ≤ b) w (tokE vs) (fun _ => []) [] vs.length w := by
  refine ⟨⟨rfl, rfl, rfl, Nat.le_refl _, fun _ _ => rfl⟩, fun _ h => h, ?_, ?_, ?_, ?_⟩
  · intro id e h
    unfold tokE at h
    simp only [Option.map_eq_some_iff] at h
    obtain ⟨v, hv, _⟩ := h
    exact (List.getElem?_eq_some_iff.1 hv).1
  · intro id o h; cases h
  · intro i j h; cases h
  · intro id o h; cases h
/-- what is known of a value's length -/
def tabOf (k : Nat) (ths : List Nat) (v : Value) : List (Nat × Bool) := ths.map fun c => (c, decide (c < (lenV k v).getD 0))
theorem tok_ok {vs : List Value} {j k : Nat} {ths : List Nat} {v : Value} (hj : vs[j]? = some v) (h1 : v.oneCell' = true) (hk : ths = [] ∨ (lenV k v).isSome = true) : VR (tokE vs) (.t j k (tabOf k ths v)) v := by
  refine .t (e := { blk := fun _ => 0, room := fun _ => 0, val := v }) (by simp [tokE, hj]) rfl h1 fun p hp => ?_
  unfold tabOf at hp
  rw [List.mem_map] at hp
  obtain ⟨c, hc, rfl⟩ := hp
  rcases hk with rfl | hk
  · cases hc
  · obtain ⟨n, hn⟩ := Option.isSome_iff_exists.1 hk
    exact ⟨n, hn, by simp [hn]⟩
/-- it came to 'true' -/
def okTrue (r : Rz (LV × Hp M × Nat)) : Bool := match r with | .ok (.b true, _, _) => true | _ => false
/-- a call, from nothing but numbered values -/
def call0 (P : Program) (FT : Nat → Option Func) (ov : Ov M) (fuel g : Nat) (args : List LV) (n : Nat) : Rz (LV × Hp M × Nat) := callR P FT ov (run P FT ov fuel) g args [] n
theorem calls_true_tok {FT : Nat → Option Func} {ov : Ov M} {fuel : Nat} (hm : P.follows .mixedOrders = true) (hz : ZOK P) (hF : FTOK P FT) (hov : OvOK P ov) {g : Nat} {args : List LV} {n : Nat} {toks vs : List Value}
    (hrun : okTrue (call0 (M := M) P FT ov fuel g args n) = true) (hn : toks.length = n) (hvs : VRs (tokE toks) args vs) (w : World) :
    Calls P g vs.toArray w fun e w' => e = .returned (.bool true) ∧ RowKit.Below w.heap.size w w' := by
  unfold call0 at hrun
  cases hc : callR P FT ov (run (M := M) P FT ov fuel) g args [] n with
  | no s => rw [hc] at hrun; cases hrun
  | ok r =>
    obtain ⟨v, h', nx'⟩ := r
    rw [hc] at hrun
    unfold okTrue at hrun
    obtain ⟨_, hcs⟩ := callR_ok hF hov (run_ok hz hF hov (drawOK hm hz) fuel) g args [] n v h' nx' hc
    subst hn
    obtain ⟨_, hcs⟩ := hcs _ w _ _ w vs (inv_tok toks w) hvs
    refine callsIn_wide.1 (hcs none 0 _ fun E' own' u w' _ I hv => ?_)
    cases v <;> try (cases hrun; done)
    rename_i bb _
    cases bb <;> try (cases hrun; done)
    cases hv
    exact ⟨rfl, below_of (fun _ h => h) I⟩
end
end Lx

/- The engine, part 33: from a call's contract to a law's row. -/
namespace Lx
open Go Go.RowKit Go.ChangeShapes Go.WideShapes

section
variable {P : Program} {w : World} {r : Reach} {base : Nat} {u : TypeId} {v : Value}
theorem cell_one (h : Cell.okWide P w r base u v) : v.oneCell' = true := by
  cases v <;> first | rfl | (exfalso; simp [Cell.okWide, Cell.ok] at h)
theorem cell_string (hu : P.underlying u = some .string) (h : Cell.okWide P w r base u v) : (lenV 1 v).isSome = true := by
  cases v <;> first | rfl | (exfalso; simp [Cell.okWide, Cell.ok, hu] at h)
theorem cell_slice {e : TypeId} (hu : P.underlying u = some (.slice e)) (h : Cell.okWide P w r base u v) : (lenV 2 v).isSome = true := by
  cases v <;> first | rfl | (exfalso; simp [Cell.okWide, Cell.ok, hu] at h)
theorem okWide_cell (hs : ∀ fs, P.underlying u ≠ some (.struct fs)) (ha : ∀ n e, P.underlying u ≠ some (.array n e)) (h : Value.okWide P w r base u v) : Cell.okWide P w r base u v := by
  unfold Value.okWide at h
  split at h
  · rename_i fs hf; exact absurd hf (hs _)
  · rename_i n e hf; exact absurd hf (ha _ _)
  · exact h

/-- a row of cells that are known by numbers -/
def rowT (n j0 : Nat) (ks : Nat → Nat) (ths : Nat → List Nat) (cs : Array Value) : List LV := (List.range n).map fun i => .t (j0 + i) (ks i) (tabOf (ks i) (ths i) (cs.getD i undef))
theorem rowT_ok {n j0 : Nat} {ks : Nat → Nat} {ths : Nat → List Nat} {cs : Array Value} {toks : List Value} (hn : cs.size = n) (hj : ∀ i, i < n → toks[j0 + i]? = cs[i]?)
    (h1 : ∀ (i : Nat) v, cs[i]? = some v → v.oneCell' = true) (hk : ∀ (i : Nat) v, cs[i]? = some v → ths i = [] ∨ (lenV (ks i) v).isSome = true) : VRs (tokE toks) (rowT n j0 ks ths cs) cs.toList := by
  refine VRs.of_get (by simp [rowT, hn]) fun i x v hx hv => ?_
  have hi : i < n := by
    have := (List.getElem?_eq_some_iff.1 hv).1
    rw [← hn]; simpa using this
  unfold rowT at hx
  simp only [List.getElem?_map, List.getElem?_range hi, Option.map_some, Option.some.injEq] at hx
  subst hx
  have hv' : cs[i]? = some v := by simpa using hv
  have hg : cs.getD i undef = v := by rw [Array.getD_eq_getD_getElem?, hv']; rfl
  rw [hg]
  exact tok_ok ((hj i hi).trans hv') (h1 i v hv') (hk i v hv')

/-- what the cells of a row of a known type are -/
theorem row_cells {t : TypeId} {cs : Array Value} {ts : List TypeId} (hts : P.cellTypes P.depth t = some ts) (hn : cs.size = ts.length) (h : Row.okWide P w r base t cs) : ∀ (i : Nat) v, cs[i]? = some v → ∃ u, ts[i]? = some u ∧ Cell.okWide P w r base u v := by
  obtain ⟨ts', h1, _, h2⟩ := h
  rw [hts] at h1
  cases h1
  intro i v hv
  obtain ⟨u, h3, h4⟩ := h2 i v hv
  have : i < ts.length := by rw [← hn]; exact (Array.getElem?_eq_some_iff.1 hv).1
  rw [Nat.mod_eq_of_lt this] at h3
  exact ⟨u, h3, h4⟩

def isT (d : Option TypeDesc) (k : Nat) : Bool := match k, d with | 1, some .string => true | 2, some (.slice _) => true | 0, _ => true | _, _ => false
theorem isT_len {k : Nat} (hk : isT (P.underlying u) k = true) (h : Cell.okWide P w r base u v) : k = 0 ∨ (lenV k v).isSome = true := by
  cases hu : P.underlying u with
  | none => rw [hu] at hk; rcases k with _ | _ | _ | k <;> first | exact .inl rfl | cases hk
  | some d =>
    rw [hu] at hk
    rcases k with _ | _ | _ | k
    · exact .inl rfl
    · cases d <;> try (cases hk; done)
      exact .inr (cell_string hu h)
    · cases d <;> try (cases hk; done)
      exact .inr (cell_slice hu h)
    · cases d <;> cases hk
/-- the kinds that are told of a row's cells are theirs -/
def kindsOk (P : Program) (n : Nat) (ts : List TypeId) (ks : Nat → Nat) (ths : Nat → List Nat) : Bool :=
  (List.range n).all fun i => isT ((ts[i]?).bind P.underlying) (ks i) && (bif Nat.beq (ks i) 0 then (ths i).isEmpty else true)
theorem row_tok {t : TypeId} {cs : Array Value} {ts : List TypeId} {toks : List Value} {j n : Nat} {ks : Nat → Nat} {ths : Nat → List Nat} (hts : P.cellTypes P.depth t = some ts) (hl : ts.length = n) (hk : kindsOk P n ts ks ths = true) (hn : cs.size = n)
    (hj : ∀ i, i < n → toks[j + i]? = cs[i]?) (h : Row.okWide P w r base t cs) : VRs (tokE toks) (rowT n j ks ths cs) cs.toList := by
  have hc := row_cells hts (hn.trans hl.symm) h
  refine rowT_ok hn hj (fun i v hv => ?_) fun i v hv => ?_
  · obtain ⟨u, _, h1⟩ := hc i v hv
    exact cell_one h1
  · obtain ⟨u, h0, h1⟩ := hc i v hv
    have hi : i < n := by rw [← hn]; exact (Array.getElem?_eq_some_iff.1 hv).1
    have hki := List.all_eq_true.1 hk i (List.mem_range.2 hi)
    rw [h0, Bool.and_eq_true] at hki
    simp only [Option.bind_some] at hki
    rcases isT_len hki.1 h1 with h2 | h2
    · left
      have := hki.2
      rw [h2] at this
      simpa using this
    · exact .inr h2
theorem okWide_row {t : TypeId} {fs : Array Field} {n : Nat} (hu : P.underlying t = some (.struct fs)) (hn : P.cellsOf t = n) (h : Value.okWide P w r base t v) : ∃ cs, v = .agg cs ∧ cs.size = n ∧ Row.okWide P w r base t cs := by
  unfold Value.okWide at h
  rw [hu] at h
  obtain ⟨cs, a, b, c⟩ := h
  exact ⟨cs, a, b.trans hn, c⟩
theorem okWide_int {k : IntKind} (hu : P.underlying u = some (.int k)) (h : Value.okWide P w r base u v) : v.oneCell' = true :=
  cell_one (okWide_cell (by rw [hu]; intro fs h; cases h) (by rw [hu]; intro n e h; cases h) h)
theorem okWide_str (hu : P.underlying u = some .string) (h : Value.okWide P w r base u v) : v.oneCell' = true ∧ (lenV 1 v).isSome = true :=
  have h' := okWide_cell (by rw [hu]; intro fs h; cases h) (by rw [hu]; intro n e h; cases h) h
  ⟨cell_one h', cell_string hu h'⟩
theorem pars_of {f : Func} (h : (f.params.toList.all fun t => P.readableRec t && Nat.blt t P.types.size) = true) : ∀ t ∈ f.params.toList, P.readableRec t = true ∧ t < P.types.size := by
  intro t ht
  have := List.all_eq_true.1 h t ht
  rw [Bool.and_eq_true, Nat.blt_eq] at this
  exact this
end

section
variable {H : Type} {enc : TypeId × Value → H} {P : Program}
theorem trodAll_stays (hl : laidOutB P = true) {W W' : World} (hb : RowKit.Below W.heap.size W W') : ∀ (ts : List TypeId) (vs : List Value) (ds : List (DataW H)) (ps : List MemPlace), (∀ t ∈ ts, P.readableRec t = true ∧ t < P.types.size) →
    DataW.TrodAll enc P W 0 (fun _ => true) true ts vs ds ps → (∀ x ∈ ps, x.block < W.heap.size) → DataW.TrodAll enc P W' 0 (fun b => decide (b < W.heap.size)) true ts vs ds ps
  | [], vs, ds, ps, _, h, _ => by
    obtain ⟨rfl, rfl, rfl⟩ := trodAll_nil h
    exact trodAll_mk0
  | t :: ts, vs, ds, ps, ht, h, hlt => by
    obtain ⟨v, vs', d, ds', p, q, rfl, rfl, rfl, h1, h2⟩ := trodAll_cons h
    obtain ⟨hr, hs⟩ := ht t (by simp)
    exact ⟨p, q, RowKit.Below.trod hl hr hs h1 hb fun x hx => hlt x (by simp [hx]), trodAll_stays hl hb ts vs' ds' q (fun t ht' => ht t (by simp [ht'])) h2 fun x hx => hlt x (by simp [hx]), rfl⟩

theorem law_post {f : Func} {s : ChangeSpec} {apart handsOn : Bool} {W W' : World} {args : Array Value} {ds gs : List (DataW H)} {before : List MemPlace} {tb : TypeId} (hl : laidOutB P = true)
    (hts : ∀ t ∈ f.params.toList, P.readableRec t = true ∧ t < P.types.size) (hrt : f.resultTypes = #[tb]) (htb : P.underlying tb = some .bool) (hv : s.vars = [])
    (hres : (s.fn H (ds ++ gs)).results = [.lit (.bool true)]) (hargs : (s.fn H (ds ++ gs)).args = ds) (hvars : (s.fn H (ds ++ gs)).vars = [])
    (hW : DataW.Whole enc P f.params.toList s.vars apart W args.toList ds gs before) (hb : RowKit.Below W.heap.size W W') : s.post enc P f apart true handsOn false W args (.bool true) W' := by
  have hW' := hW
  obtain ⟨p, q, hA, hV, rfl, _, _⟩ := hW
  have hlt : ∀ x ∈ p, x.block < W.heap.size := fun x hx => by simpa using hW'.lt x (by simp [hx])
  refine ⟨ds, gs, _, [], p, [], hW', ?_, ?_, ?_, hb.frame _, fun h => by cases h⟩
  · rw [hres, hrt]
    exact trodAll_mk1 (shut_bool htb true)
  · rw [hargs]
    exact trodAll_stays hl hb _ _ _ _ hts hA hlt
  · rw [hvars, hv]
    rfl
end
end Lx
