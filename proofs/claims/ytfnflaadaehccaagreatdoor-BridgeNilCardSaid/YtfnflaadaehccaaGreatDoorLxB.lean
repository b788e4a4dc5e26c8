/- The engine (LxB): a run of logical values that the kernel evaluates, and why what it says is so. No conditions. -/
import Derived.Test.YtfnflaadaehccaaGreatDoorLxA
import Derived.RangeFuncNested
import Derived.RangeFuncLeaves
import Derived.RangeFuncRecord
import Derived.MapKept
set_option linter.unusedSectionVars false
set_option linter.unusedSimpArgs false
set_option linter.unusedVariables false
set_option linter.constructorNameAsVariable false
/- The engine, part 9: the other operations are what the model does. -/
namespace Lx
open Go Go.RowKit

section
variable {M : Type} [Mdl M] {P : Program} {B : Nat → Prop} {w0 w w' : World} {E : Env} {own : Nat → List Nat} {h : Hp M} {nx : Nat}

theorem lenL_ok {t ty : TypeId} {x : LV} {v : Value} (I : Inv B w0 E own h nx w) (hx : VR E x v) (hp : (lenL P h t x).1) :
    ∃ u, (Builtin.len_ #[t] ty #[v]).run P w = .ok u w ∧ VR E (lenL P h t x).2 u := by
  unfold lenL at *
  cases hu : P.underlying t with
  | none => rw [hu] at hp; cases x <;> exact hp.elim
  | some d =>
    rw [hu] at hp
    cases d
    case string =>
      cases hx <;> try exact hp.elim
      case s => exact ⟨_, by simp [Builtin.len_, run_underlying hu]; rfl, .i⟩
      case t j k tab e he hv h1 htab =>
        obtain ⟨rfl, hp⟩ : k = 1 ∧ 0 < tab.length := by
          rcases k with _ | _ | k
          · exact hp.elim
          · exact ⟨rfl, hp⟩
          · exact hp.elim
        obtain ⟨n, hn, _⟩ := htab tab[0] (List.getElem_mem hp)
        cases v <;> try (cases hn; done)
        cases hn
        refine ⟨_, by simp [Builtin.len_, run_underlying hu]; rfl, .tl he (by rw [hv]; rfl) fun p hpm => ?_⟩
        obtain ⟨n', hn', hd⟩ := htab p hpm
        cases hn'
        exact hd
    case slice e =>
      cases hx <;> try exact hp.elim
      case t j k tab e he hv h1 htab =>
        obtain ⟨rfl, hp⟩ : k = 2 ∧ 0 < tab.length := by
          rcases k with _ | _ | _ | k
          · exact hp.elim
          · exact hp.elim
          · exact ⟨rfl, hp⟩
          · exact hp.elim
        obtain ⟨n, hn, _⟩ := htab tab[0] (List.getElem_mem hp)
        cases v <;> try (cases hn; done)
        cases hn
        refine ⟨_, by simp [Builtin.len_, run_underlying hu]; rfl, .tl he (by rw [hv]; rfl) fun p hpm => ?_⟩
        obtain ⟨n', hn', hd⟩ := htab p hpm
        cases hn'
        exact hd
      case sl => exact ⟨_, by simp [Builtin.len_, run_underlying hu]; rfl, .i⟩
      case ns => exact ⟨_, by simp [Builtin.len_, run_underlying hu]; rfl, .i⟩
    case array n e => exact ⟨_, by simp [Builtin.len_, run_underlying hu]; rfl, .i⟩
    case map k e =>
      cases hx <;> try exact hp.elim
      case nm => exact ⟨_, by simp [Builtin.len_, run_underlying hu]; rfl, .i⟩
      case m id e he =>
        simp only at hp ⊢
        cases hid : hget h id with
        | none => rw [hid] at hp; exact hp.elim
        | some o =>
          rw [hid] at hp
          cases o <;> try exact hp.elim
          obtain ⟨e', he', hO⟩ := I.obj id _ hid
          rw [he] at he'; cases he'
          generalize own id = ow at hO
          cases hO with
          | mp a b c =>
            rename_i es ms clock
            refine ⟨goInt ms.size, ?_, ?_⟩
            · simp [Builtin.len_, run_underlying hu, getObj, Sem.run, a]
            · rw [b]; exact .i
    case chan d e =>
      cases hx <;> try exact hp.elim
      case c id e he =>
        simp only at hp ⊢
        cases hid : hget h id with
        | none => rw [hid] at hp; exact hp.elim
        | some o =>
          rw [hid] at hp
          cases o <;> try exact hp.elim
          obtain ⟨e', he', hO⟩ := I.obj id _ hid
          rw [he] at he'; cases he'
          generalize own id = ow at hO
          cases hO with
          | ch a b =>
            rename_i cap vs buf sent rcvd
            refine ⟨goInt buf.size, ?_, ?_⟩
            · simp [Builtin.len_, run_underlying hu, getObj, Sem.run, a]
            · have := b.length
              simp only [Array.length_toList] at this
              simp only [this]; exact .i
    all_goals (cases x <;> exact hp.elim)

theorem tget_ok {c : Nat} : ∀ {tab : List (Nat × Bool)} {b : Bool}, tget c tab = some b → (c, b) ∈ tab
  | [], b, h => by cases h
  | (k, x) :: r, b, h => by
    simp only [tget] at h
    by_cases hk : k = c
    · subst hk
      rw [show Nat.beq k k = true from by simp] at h
      cases h
      exact List.mem_cons_self
    · rw [show Nat.beq k c = false from by rw [Bool.eq_false_iff]; intro h'; exact hk (Nat.eq_of_beq_eq_true h')] at h
      exact List.mem_cons_of_mem _ (tget_ok h)

theorem maxL_ok {tys : Array TypeId} {ty : TypeId} {x y : LV} {v u : Value} (hx : VR E x v) (hy : VR E y u) (hp : (maxL x y).1) :
    ∃ z, (Builtin.max_ tys ty #[v, u]).run P w = .ok z w ∧ VR E (maxL x y).2 z := by
  cases hx <;> try exact hp.elim
  cases hy <;> try exact hp.elim
  exact ⟨_, by simp [Builtin.max_, Builtin.max2], .i⟩

/-! equality -/
theorem eqFields_ok {d : Nat} {xs ys : List LV} {vx vy : List Value} (hx : VRs E xs vx) (hy : VRs E ys vy)
    (ih : ∀ (t : TypeId) (x y : LV) (v u : Value) (b : Bool), VR E x v → VR E y u → eqV P d t x y = some b → (Op.equalIn d t v u).run P w = .ok b w) :
    ∀ (fs : List Field) (b : Bool), allEqL (fun f => if f.name ≠ "_" then
          if (partL P f.type xs f.offset).1 ∧ (partL P f.type ys f.offset).1 then eqV P d f.type (partL P f.type xs f.offset).2 (partL P f.type ys f.offset).2 else none
        else some true) fs = some b → (Op.eqFields d vx.toArray vy.toArray fs).run P w = .ok b w
  | [], b, h => by cases h; simp [Op.eqFields]
  | f :: fs, b, h => by
    simp only [allEqL] at h
    simp only [Op.eqFields]
    by_cases hn : f.name ≠ "_"
    · simp only [if_pos hn] at h ⊢
      by_cases hp : (partL P f.type xs f.offset).1 ∧ (partL P f.type ys f.offset).1
      · simp only [if_pos hp] at h
        obtain ⟨a, ha, hra⟩ := partL_ok (w := w) hx hp.1
        obtain ⟨c, hc, hrc⟩ := partL_ok (w := w) hy hp.2
        cases hq : eqV P d f.type (partL P f.type xs f.offset).2 (partL P f.type ys f.offset).2 with
        | none => rw [hq] at h; cases h
        | some r =>
          rw [hq] at h
          have := ih f.type _ _ a c r hra hrc hq
          cases r with
          | false => cases h; simp [ha, hc, this]
          | true =>
            have ih2 := eqFields_ok hx hy ih fs b h
            simp [ha, hc, this, ih2]
      · simp only [if_neg hp] at h; cases h
    · simp only [if_neg hn] at h ⊢
      exact eqFields_ok hx hy ih fs b h

theorem eqElems_ok {d n : Nat} {e : TypeId} {xs ys : List LV} {vx vy : List Value} (hx : VRs E xs vx) (hy : VRs E ys vy)
    (ih : ∀ (t : TypeId) (x y : LV) (v u : Value) (b : Bool), VR E x v → VR E y u → eqV P d t x y = some b → (Op.equalIn d t v u).run P w = .ok b w) :
    ∀ (k i : Nat) (b : Bool), allEq (fun i => if (partL P e xs (i * n)).1 ∧ (partL P e ys (i * n)).1 then eqV P d e (partL P e xs (i * n)).2 (partL P e ys (i * n)).2 else none) i k = some b →
      ((forIn (List.range' i k 1) ((none, ()) : Option Bool × Unit) fun j (_ : Option Bool × Unit) => do
          if (!(← Op.equalIn d e (← part e vx.toArray (j * n)) (← part e vy.toArray (j * n)))) = true then pure (ForInStep.done (some false, ())) else pure (ForInStep.yield (none, ()))) : Sem (Option Bool × Unit)).run P w =
        .ok (if b then (none, ()) else (some false, ())) w
  | 0, i, b, h => by cases h; simp
  | k + 1, i, b, h => by
    simp only [allEq] at h
    rw [List.range'_succ, List.forIn_cons]
    by_cases hp : (partL P e xs (i * n)).1 ∧ (partL P e ys (i * n)).1
    · simp only [if_pos hp] at h
      obtain ⟨a, ha, hra⟩ := partL_ok (w := w) hx hp.1
      obtain ⟨c, hc, hrc⟩ := partL_ok (w := w) hy hp.2
      cases hq : eqV P d e (partL P e xs (i * n)).2 (partL P e ys (i * n)).2 with
      | none => rw [hq] at h; cases h
      | some r =>
        rw [hq] at h
        have := ih e _ _ a c r hra hrc hq
        cases r with
        | false => cases h; simp [ha, hc, this]
        | true =>
          have ih2 := eqElems_ok hx hy ih k (i + 1) b h
          simp only [Sem.run_bind, ha, hc, this, Result.andThen_ok, Bool.not_true, Bool.false_eq_true, if_false, Sem.run_pure]
          exact ih2
    · simp only [if_neg hp] at h; cases h

theorem eqV_ok : ∀ (d : Nat) (t : TypeId) (x y : LV) (v u : Value) (b : Bool), VR E x v → VR E y u → eqV P d t x y = some b → (Op.equalIn d t v u).run P w = .ok b w
  | 0, _, _, _, _, _, _, _, _, h => by cases h
  | d + 1, t, x, y, v, u, b, hx, hy, h => by
    simp only [eqV] at h
    have ih := eqV_ok d
    cases hu : P.underlying t with
    | none => rw [hu] at h; cases h
    | some ds =>
      rw [hu] at h
      cases ds <;> simp only at h
      case bool =>
        cases hx <;> try (cases h; done)
        cases hy <;> try (cases h; done)
        cases h; exact run_equalIn_bool w d t _ _ hu
      case int k0 =>
        cases hx <;> try (cases h; done)
        cases hy <;> try (cases h; done)
        simp only at h
        split at h
        · rename_i hk; subst hk; cases h; exact run_equalIn_int w d t _ k0 _ _ hu
        · cases h
      case string =>
        cases hx <;> try (cases h; done)
        cases hy <;> try (cases h; done)
        cases h
        rw [run_equalIn_string w d t _ _ hu, beqs_eq, ByteArray.toList_eq, ByteArray.toList_eq]
      case struct fs =>
        cases hx <;> try (cases h; done)
        cases hy <;> try (cases h; done)
        rename_i xs vx hxs ys vy hys
        simp only at h
        split at h
        · cases h
        · rename_i hst
          have hf : P.fieldsOf t = fs := by simp [Program.fieldsOf, hu]
          rw [run_equalIn_struct w d t _ _ (by rw [hf]; exact hu) (by simpa using hst), hf]
          exact eqFields_ok hxs hys ih fs.toList b h
      case array n e =>
        cases hx <;> try (cases h; done)
        cases hy <;> try (cases h; done)
        rename_i xs vx hxs ys vy hys
        simp only at h
        cases hi : P.info? e with
        | none => rw [hi] at h; cases h
        | some ie =>
          rw [hi] at h
          simp only at h
          have hs : (Go.sizeOf e).run P w = .ok ie.size w := by simp [Go.sizeOf, typeInfo, hi]
          have := eqElems_ok (n := ie.size) hxs hys ih n 0 b h
          simp only [Op.equalIn, Sem.run_bind, run_underlying hu, Result.andThen_ok, hs, Std.Legacy.Range.forIn_eq_forIn_range', Std.Legacy.Range.size, Nat.sub_zero, Nat.add_sub_cancel, Nat.div_one]
          rw [this]
          cases b <;> simp
      all_goals (cases h)
end
end Lx

/- The engine, part 10: comparisons, maps, copies, conversions. -/
namespace Lx
open Go Go.RowKit

section
variable {M : Type} [Mdl M] {P : Program} {B : Nat → Prop} {w0 w w' : World} {E : Env} {own : Nat → List Nat} {h : Hp M} {nx : Nat}

theorem run_equal_nil {t e : TypeId} {a : Addr} {n c : Nat} (hu : P.underlying t = some (.slice e)) : (Op.equal t (.slice (some a) n c) (.slice none 0 0)).run P w = .ok false w := by
  show (Op.equalIn (9999 + 1) t _ _).run P w = _
  rw [Op.equalIn]
  simp [run_underlying hu]
theorem run_equal_nils {t e : TypeId} : P.underlying t = some (.slice e) → (Op.equal t (.slice none 0 0) (.slice none 0 0)).run P w = .ok true w := by
  intro hu
  show (Op.equalIn (9999 + 1) t _ _).run P w = _
  rw [Op.equalIn]
  simp [run_underlying hu]

theorem eqL_ok {op : BinOp} {t : TypeId} {x y : LV} {vx vy : Value} {ox oy : Operand} (hx : VR E x vx) (hy : VR E y vy) (hp : (eqL P op t x y).1) :
    ∃ v, (do eqGuard op t ox oy vx vy; binOp op t vx vy : Sem Value).run P w = .ok v w ∧ VR E (eqL P op t x y).2 v := by
  have base : (binL P op t x y).1 → ∃ v, (do eqGuard op t ox oy vx vy; binOp op t vx vy : Sem Value).run P w = .ok v w ∧ VR E (binL P op t x y).2 v := binL_ok hx hy
  cases hx <;> cases hy <;> try exact base hp
  case tl.i j k tab e n he hn htab k' c =>
    cases k' <;> try exact base hp
    simp only [eqL] at hp ⊢
    cases ht : tget c.toNat tab with
    | none => rw [ht] at hp; cases op <;> exact hp.elim
    | some b =>
      rw [ht] at hp
      cases op <;> try exact hp.elim
      have h0 : 0 ≤ c := hp
      obtain ⟨v, h1, h2⟩ := intL_ok (P := P) (w := w) (E := E) (op := .gtr) (k := .i64) (k' := .i64) (x := n) (y := c) (t := t) rfl
      refine ⟨v, by simp [eqGuard, h1], ?_⟩
      have hb := htab _ (tget_ok ht)
      simp only at hb
      have : decide ((n : Int) > c) = b := by
        rw [← hb]
        by_cases hlt : c.toNat < n
        · rw [decide_eq_true hlt, decide_eq_true (by omega)]
        · rw [decide_eq_false hlt, decide_eq_false (by omega)]
      simp only [intL] at h2
      rw [this] at h2
      exact h2
  case agg.agg xs vx hxs ys vy hys =>
    simp only [eqL] at hp ⊢
    split at hp
    · exact hp.elim
    · rename_i hg
      simp only [if_neg hg]
      have hg' : P.eqGuardType P.depth t = false := by simpa using hg
      have h1 := run_eqGuard_agg (P := P) w op t ox oy vx.toArray vy.toArray hg'
      cases he : eqV P 10000 t (.agg xs) (.agg ys) with
      | none => rw [he] at hp; cases op <;> exact hp.elim
      | some b =>
        rw [he] at hp
        have h2 := eqV_ok (w := w) 10000 t _ _ _ _ b (VR.agg hxs) (VR.agg hys) he
        cases op <;> try exact hp.elim
        case eql => exact ⟨.bool b, by simp only [Sem.run_bind, h1, Result.andThen_ok]; rw [run_eql_struct, h2]; rfl, .b⟩
        case neq => exact ⟨.bool (!b), by simp only [Sem.run_bind, h1, Result.andThen_ok]; rw [run_neq_struct, h2]; rfl, .b⟩
  case ns.ns =>
    simp only [eqL] at hp ⊢
    cases hu : P.underlying t with
    | none => rw [hu] at hp; cases op <;> exact hp.elim
    | some d =>
      rw [hu] at hp
      cases op <;> cases d <;> try exact hp.elim
      case eql.slice e => exact ⟨.bool true, by simp [eqGuard, binOp, run_equal_nils (w := w) hu], .b⟩
      case neq.slice e => exact ⟨.bool false, by simp [eqGuard, binOp, run_equal_nils (w := w) hu], .b⟩
  case sl.ns id sub sz lo n e a cap he hn hc =>
    simp only [eqL] at hp ⊢
    cases hu : P.underlying t with
    | none => rw [hu] at hp; cases op <;> exact hp.elim
    | some d =>
      rw [hu] at hp
      cases op <;> cases d <;> try exact hp.elim
      case eql.slice _ =>
        have h0 : 0 < n := hp
        obtain ⟨rfl, _⟩ := hc (by omega)
        exact ⟨.bool false, by simp [eqGuard, binOp, run_equal_nil (w := w) hu], .b⟩
      case neq.slice _ =>
        have h0 : 0 < n := hp
        obtain ⟨rfl, _⟩ := hc (by omega)
        exact ⟨.bool true, by simp [eqGuard, binOp, run_equal_nil (w := w) hu], .b⟩

/-! a struct's field, an array's element -/
theorem fieldL_ok {t : TypeId} {x : LV} {f : Nat} {v : Value} (hx : VR E x v) (hp : (fieldL P t x f).1) : ∃ u, (Instr.field t v f).run P w = .ok u w ∧ VR E (fieldL P t x f).2 u := by
  unfold fieldL at *
  cases hu : P.underlying t with
  | none => rw [hu] at hp; cases x <;> exact hp.elim
  | some d =>
    rw [hu] at hp
    cases d <;> try (cases x <;> exact hp.elim)
    rename_i fs
    cases hx <;> try exact hp.elim
    rename_i l vs hl
    simp only at hp ⊢
    cases hf : fs[f]? with
    | none => rw [hf] at hp; exact hp.elim
    | some fd =>
      rw [hf] at hp
      obtain ⟨u, hu', hr⟩ := partL_ok (w := w) hl hp
      exact ⟨u, by simp [Instr.field, run_underlying hu, hf, asAgg, hu'], hr⟩

theorem index2L_ok {t : TypeId} {x i : LV} {v k : Value} (hx : VR E x v) (hi : VR E i k) (hp : (index2L P t x i).1) : ∃ u, (Instr.index t v k).run P w = .ok u w ∧ VR E (index2L P t x i).2 u := by
  have base : (indexL P t x i).1 → ∃ u, (Instr.index t v k).run P w = .ok u w ∧ VR E (indexL P t x i).2 u := indexL_ok hx hi
  unfold index2L at *
  cases hu : P.underlying t with
  | none => rw [hu] at hp; exact base hp
  | some d =>
    rw [hu] at hp
    cases d <;> try exact base hp
    rename_i n e
    cases hx <;> try exact base hp
    rename_i l vs hl
    cases hi <;> try exact base hp
    rename_i kk m
    simp only at hp ⊢
    cases hi : P.info? e with
    | none => rw [hi] at hp; exact hp.elim
    | some ie =>
      rw [hi] at hp
      obtain ⟨h0, h1, h2⟩ := hp
      obtain ⟨u, hu', hr⟩ := partL_ok (w := w) hl h2
      exact ⟨u, by simp [Instr.index, asIntOf, run_underlying hu, h0, h1, Go.sizeOf, typeInfo, hi, hu'], hr⟩

theorem arrayAtL_ok {t : TypeId} {x : LV} {v : Value} (hx : VR E x v) (hp : (arrayAtL P t x).1) : ∃ u, (Instr.arrayAt t v).run P w = .ok u w ∧ VR E (arrayAtL P t x).2 u := by
  unfold arrayAtL at *
  cases hu : P.underlying t with
  | none => rw [hu] at hp; cases x <;> exact hp.elim
  | some d =>
    rw [hu] at hp
    cases d <;> try (cases x <;> exact hp.elim)
    rename_i n e
    cases hx <;> try exact hp.elim
    rename_i id sub sz lo len ei a cap he hlc hc
    obtain ⟨h1, h2⟩ : n ≤ len ∧ 0 < n := hp
    obtain ⟨rfl, _⟩ := hc (by omega)
    exact ⟨_, by simp [Instr.arrayAt, run_underlying hu, show ¬ len < n by omega], VR.p he⟩

/-! rows of an array -/
theorem rowsOf_eq {m : M} {s : Nat} {ll : List (List LV)} (hv : Mdl.view m = .arr s ll) : ∀ (n i : Nat), i + n ≤ ll.length → rowsOf m i n = (ll.drop i).take n
  | 0, i, _ => by simp [rowsOf]
  | n + 1, i, h => by
    have hr := Mdl.row_ok hv (show i < ll.length by omega)
    simp only [rowsOf, rowsOf_eq hv n (i + 1) (by omega)]
    rw [List.drop_eq_getElem_cons (show i < ll.length by omega), List.take_succ_cons]
    have : ll[i]? = some ll[i] := List.getElem?_eq_getElem _
    rw [hr] at this
    rw [Option.some.inj this]

theorem load2L_ok {t : TypeId} {a : LV} {va : Value} (I : Inv B w0 E own h nx w) (ha : VR E a va) (hp : (load2L P h t a).pre) :
    ∃ v, (Instr.loadAt t va).run P w = .ok v w ∧ VR E (load2L P h t a).v v := by
  have base : (loadL P h t a).pre → ∃ v, (Instr.loadAt t va).run P w = .ok v w ∧ VR E (loadL P h t a).v v := loadL_ok I ha
  unfold load2L at *
  cases ha <;> try exact base hp
  rename_i id sub sz row col e he
  cases ht : tyC P t with
  | none => rw [ht] at hp; exact base hp
  | some x =>
    cases x with
    | none => rw [ht] at hp; exact base hp
    | some n =>
      rw [ht] at hp
      simp only at hp ⊢
      cases hid : hget h id with
      | none => rw [hid] at hp; exact base hp
      | some o =>
        rw [hid] at hp
        cases o <;> try exact base hp
        rename_i m
        simp only at hp ⊢
        by_cases hs : sz = 1 ∧ n ≠ 1
        · simp only [if_pos hs] at hp ⊢
          obtain ⟨rfl, hn1⟩ := hs
          obtain ⟨rfl, hsz, rfl, hlen, hA⟩ := hp
          obtain ⟨e', he', hO⟩ := I.obj id _ hid
          rw [he] at he'; cases he'
          obtain ⟨s, ll, hview⟩ := Mdl.isArr_ok hA
          obtain ⟨hs0, hss, hl, hw⟩ := Mdl.wf hview
          rw [hsz] at hss; subst hss
          rw [hl] at hlen
          have hrows := rowsOf_eq hview n row hlen
          have hfl : ((ll.drop row).take n).flatten.length = n := by
            rw [flatten_len (sz := 1) fun r hr => (hw r (List.mem_of_mem_drop (List.mem_of_mem_take hr))).1]
            simp; omega
          rw [hrows]
          have key : ∀ (k j : Nat), j + k = n → ∃ vs : List Value, VRs E (((ll.drop (row + j)).take k).flatten) vs ∧ vs.length = k ∧ ∀ i v, vs[i]? = some v → w.cell? ⟨e.blk 0, row + j + i, none⟩ = some v := by
            intro k
            induction k with
            | zero => intro j _; exact ⟨[], by simp; exact .nil, rfl, by simp⟩
            | succ k ih =>
              intro j hj
              obtain ⟨vs, h1, h2, h3⟩ := ih (j + 1) (by omega)
              have hlt : row + j < ll.length := by omega
              have hrl := (hw _ (List.getElem_mem hlt)).1
              obtain ⟨c, hc⟩ : ∃ c, ll[row + j] = [c] := List.length_eq_one_iff.1 hrl
              have hrow : (Mdl.row m (row + j))[0]? = some c := by
                have := Mdl.row_ok hview hlt
                rw [List.getElem?_eq_getElem hlt, hc] at this
                rw [← Option.some.inj this]; rfl
              obtain ⟨v, hv, hvr⟩ := hO.cell_arr (row := row + j) (by rw [hl]; exact hlt) hrow
              rw [hsz] at hv
              refine ⟨v :: vs, ?_, by simp [h2], ?_⟩
              · rw [List.drop_eq_getElem_cons hlt, List.take_succ_cons, hc]
                exact .cons hvr h1
              · intro i u hi
                cases i with
                | zero => simp at hi; subst hi; simpa using hv
                | succ i => have := h3 i u (by simpa using hi); rwa [show row + (j + 1) + i = row + j + (i + 1) by omega] at this
          obtain ⟨vs, h1, h2, h3⟩ := key n 0 (by omega)
          refine ⟨.agg vs.toArray, ?_, .agg h1⟩
          have := run_loadVar_agg (w := w) (a := ⟨e.blk 0, row * 1 + 0, none⟩) ht h2 (fun j v hj => by rw [Addr.add_eq]; have := h3 j v hj; simpa using this)
          simpa [Instr.loadAt, Instr.sureAddr] using this
        · simp only [if_neg hs] at hp ⊢
          exact base hp

/-! maps -/
theorem sameL_ok {kd : TypeDesc} {k a : LV} {v u : Value} {b : Bool} (hk : VR E k v) (ha : VR E a u) (h : sameL kd k a = some b) : Instr.sameNow kd v u = some b := by
  cases kd <;> cases hk <;> cases ha <;> simp only [sameL, reduceCtorEq, Option.some.injEq] at h
  case int.i.i =>
    split at h
    · rename_i e; subst e; simpa [Instr.sameNow] using h
    · cases h
  case string.s.s =>
    subst h
    rw [beqs_eq]
    simp only [Instr.sameNow, Option.some.injEq]
    rw [beq_toListBytes, ByteArray.toList_eq, ByteArray.toList_eq]
  case bool.b.b => simpa [Instr.sameNow] using h
theorem findL_ok {kd : TypeDesc} {k : LV} {v : Value} (hk : VR E k v) : ∀ (es : List (LV × LV)) (ms : List MapEntry) (i : Nat) (r : Option Nat), ms.length = es.length →
    (∀ (j : Nat) a b u, es[j]? = some (a, b) → ms[j]? = some u → VR E a u.key ∧ VR E b u.val) → findL kd k es i = some r →
    (r = none ∧ Instr.findNow kd v ms i = some none) ∨ (∃ j u, r = some (i + j) ∧ ms[j]? = some u ∧ Instr.findNow kd v ms i = some (some (i + j, u.val)) ∧ Instr.sameNow kd v u.key = some true)
  | [], ms, i, r, hl, _, h => by
    have : ms = [] := List.eq_nil_of_length_eq_zero hl
    subst this
    cases h
    exact .inl ⟨rfl, rfl⟩
  | (a, b) :: es, [], i, r, hl, _, _ => by simp at hl
  | (a, b) :: es, m :: ms, i, r, hl, ha, h => by
    simp only [findL] at h
    cases hs : sameL kd k a with
    | none => rw [hs] at h; cases h
    | some x =>
      rw [hs] at h
      have h1 := sameL_ok hk (ha 0 a b m rfl rfl).1 hs
      cases x with
      | true =>
        cases h
        exact .inr ⟨0, m, rfl, rfl, by simp [Instr.findNow, h1], h1⟩
      | false =>
        rcases findL_ok hk es ms (i + 1) r (by simpa using hl) (fun j x y u h1 h2 => ha (j + 1) x y u (by simpa using h1) (by simpa using h2)) h with ⟨rfl, h2⟩ | ⟨j, u, rfl, h2, h3, h4⟩
        · exact .inl ⟨rfl, by simp [Instr.findNow, h1, h2]⟩
        · exact .inr ⟨j + 1, u, by congr 1; omega, by simpa using h2, by simp only [Instr.findNow, h1, h3]; congr 3; omega, h4⟩
theorem allB_forIn (f : Nat → Bool) (g : Nat → Sem Unit) (hfg : ∀ i, f i = true → (g i).run P w = .ok () w) : ∀ (n i : Nat), allB f i n = true →
    ((forIn (List.range' i n 1) () fun j (_ : Unit) => do g j; pure (ForInStep.yield ())) : Sem Unit).run P w = .ok () w
  | 0, i, _ => by simp
  | n + 1, i, h => by
    simp only [allB, Bool.and_eq_true] at h
    rw [List.range'_succ, List.forIn_cons]
    have := allB_forIn f g hfg n (i + 1) h.2
    simp only [Sem.run_bind, hfg i h.1, Result.andThen_ok, Sem.run_pure]
    exact this
theorem chkK_ok (e : Bool) : ∀ (d : Nat) (t : TypeId) (x : LV) (v : Value), VR E x v → chkK P d t x = true → (Instr.checkKey e d t v).run P w = .ok () w
  | 0, _, _, _, _, h => by cases h
  | d + 1, t, x, v, hx, h => by
    simp only [chkK] at h
    have ih := chkK_ok e d
    cases hu : P.underlying t with
    | none => rw [hu] at h; cases x <;> cases h
    | some ds =>
      rw [hu] at h
      cases ds
      case bool => simp [Instr.checkKey, run_underlying hu]
      case int k0 => simp [Instr.checkKey, run_underlying hu]
      case string => simp [Instr.checkKey, run_underlying hu]
      case struct fs =>
        cases hx <;> try (cases h; done)
        rename_i l vs hl
        simp only at h
        simp only [Instr.checkKey, Sem.run_bind, run_underlying hu, Result.andThen_ok]
        rw [← Array.forIn_toList]
        generalize fs.toList = l1 at h
        induction l1 with
        | nil => simp
        | cons f l1 ih1 =>
          simp only [List.all_cons, Bool.and_eq_true] at h
          rw [List.forIn_cons]
          by_cases hn : f.name ≠ "_"
          · simp only [if_pos hn, Bool.and_eq_true, decide_eq_true_eq] at h
            obtain ⟨a, ha, hra⟩ := partL_ok (w := w) hl h.1.1
            have := ih f.type _ a hra h.1.2
            simp only [if_pos hn, Sem.run_bind, ha, this, Result.andThen_ok, Sem.run_pure]
            exact ih1 h.2
          · simp only [if_neg hn, Sem.run_bind, Result.andThen_ok, Sem.run_pure]
            exact ih1 h.2
      case array n el =>
        cases hx <;> try (cases h; done)
        rename_i l vs hl
        simp only at h
        cases hi : P.info? el with
        | none => rw [hi] at h; cases h
        | some ie =>
          rw [hi] at h
          simp only at h
          have hs : (Go.sizeOf el).run P w = .ok ie.size w := by simp [Go.sizeOf, typeInfo, hi]
          have := allB_forIn (P := P) (w := w) _ (fun i => do Instr.checkKey e d el (← part el vs.toArray (i * (← Go.sizeOf el)))) (by
            intro i hi'
            simp only [Bool.and_eq_true, decide_eq_true_eq] at hi'
            obtain ⟨a, ha, hra⟩ := partL_ok (w := w) hl hi'.1
            have := ih el _ a hra hi'.2
            simp [hs, ha, this]) n 0 h
          simp only [Instr.checkKey, Sem.run_bind, run_underlying hu, Result.andThen_ok, Std.Legacy.Range.forIn_eq_forIn_range', Std.Legacy.Range.size, Nat.sub_zero, Nat.add_sub_cancel, Nat.div_one]
          simp at this ⊢
          rw [this]
          rfl
      all_goals (cases x <;> cases h)

theorem mapC_some {t kt et : TypeId} {kd : TypeDesc} (h : mapC P t = some (kt, kd, et)) : P.underlying t = some (.map kt et) ∧ P.underlying kt = some kd := by
  unfold mapC at h
  cases hu : P.underlying t with
  | none => rw [hu] at h; cases h
  | some d =>
    rw [hu] at h
    cases d <;> simp only [reduceCtorEq] at h
    simp only [Option.map_eq_some_iff, Prod.mk.injEq] at h
    obtain ⟨d, h1, rfl, rfl, rfl⟩ := h
    exact ⟨rfl, h1⟩

theorem zval_ok {t : TypeId} {z : LV} (h : zval P t = some z) : ∃ v, (zeroValue t).run P w = .ok v w ∧ VR E z v := by
  unfold zval at h
  simp only [Option.map_eq_some_iff, Option.bind_eq_some_iff] at h
  obtain ⟨v, ⟨i, hi, hz⟩, rfl⟩ := h
  exact ⟨v, by simp [zeroValue, typeInfo, hi, hz], ofValue_ok E v⟩

theorem lookupL_ok {t : TypeId} {x k : LV} {ok : Bool} {v u : Value} (I : Inv B w0 E own h nx w) (hx : VR E x v) (hk : VR E k u) (hp : (lookupL P h t x k ok).1) :
    ∃ z, (Instr.lookup t v u ok).run P w = .ok z w ∧ VR E (lookupL P h t x k ok).2 z := by
  unfold lookupL at *
  cases hm : mapC P t with
  | none => rw [hm] at hp; exact hp.elim
  | some mc =>
    obtain ⟨kt, kd, et⟩ := mc
    obtain ⟨hu, hku⟩ := mapC_some hm
    cases hes : entsL h x with
    | none => rw [hm, hes] at hp; exact hp.elim
    | some es =>
      rw [hm, hes] at hp
      simp only at hp ⊢
      -- the entries in the world
      obtain ⟨ms, hml, hme, hrun⟩ : ∃ ms : Array MapEntry, ms.size = es.length ∧ (∀ (j : Nat) a b y, es[j]? = some (a, b) → ms[j]? = some y → VR E a y.key ∧ VR E b y.val) ∧
          ((v = .map none ∧ ms = #[]) ∨ ∃ r clock, v = .map (some r) ∧ w.heap[r]? = some (.map ms clock)) := by
        unfold entsL at hes
        cases hx <;> try (cases hes; done)
        case nm => cases hes; exact ⟨#[], rfl, by simp, .inl ⟨rfl, rfl⟩⟩
        case m id e he =>
          simp only at hes
          cases hid : hget h id with
          | none => rw [hid] at hes; cases hes
          | some o =>
            rw [hid] at hes
            cases o <;> try (cases hes; done)
            cases hes
            obtain ⟨e', he', hO⟩ := I.obj id _ hid
            rw [he] at he'; cases he'
            generalize own id = ow at hO
            cases hO with
            | mp a b c =>
              rename_i ms clock
              exact ⟨ms, b, fun j x y z h1 h2 => c j x y z h1 h2, .inr ⟨_, _, rfl, a⟩⟩
      have hmsl : ms.toList.length = es.length := by simpa using hml
      cases hf : findL kd k es 0 with
      | none => rw [hf] at hp; exact hp.elim
      | some r =>
        have hfo := findL_ok hk es ms.toList 0 r hmsl (fun j a b y h1 h2 => hme j a b y h1 (by simpa using h2)) hf
        have hfk : ∀ q, Instr.findNow kd u ms.toList 0 = some q → (Instr.findKey kt u ms.toList).run P w = .ok q w := by
          intro q hq
          simp [Instr.findKey, run_underlying hku, hq]
        cases r with
        | some i =>
          rw [hf] at hp
          simp only at hp ⊢
          obtain ⟨hck, hlt⟩ : chkK P 10000 kt k = true ∧ i < es.length := hp
          rcases hfo with ⟨h1, _⟩ | ⟨j, y, h1, h2, h3, _⟩
          · cases h1
          · simp only [Nat.zero_add, Option.some.injEq] at h1 h3
            subst h1
            have hc := chkK_ok (P := P) (w := w) ms.isEmpty 10000 kt k u hk hck
            have hr := hfk _ h3
            have hej : es[i]? = some (es.getD i (.any, .any)) := by rw [List.getD_eq_getElem?_getD, List.getElem?_eq_getElem hlt]; rfl
            have hv := (hme i _ _ y (by rw [hej]) (by simpa using h2)).2
            have hpre : (Instr.lookup t v u ok).run P w = .ok (if ok then .tuple #[y.val, .bool true] else y.val) w := by
              rcases hrun with ⟨rfl, rfl⟩ | ⟨r, clock, rfl, hr0⟩
              · simp only [List.size_toArray, List.length_nil] at hml; omega
              · simp [Instr.lookup, run_underlying hu, getObj, Sem.run, hr0, hc, hr]
            cases ok with
            | true => exact ⟨_, hpre, .tup (.cons hv (.cons .b .nil))⟩
            | false => exact ⟨_, hpre, hv⟩
        | none =>
          cases hz : zval P et with
          | none => rw [hf, hz] at hp; exact hp.elim
          | some z =>
            rw [hf, hz] at hp
            simp only at hp ⊢
            obtain ⟨zv, hzr, hzv⟩ := zval_ok (w := w) (E := E) hz
            rcases hfo with ⟨_, h3⟩ | ⟨j, y, h1, _⟩
            · have hc := chkK_ok (P := P) (w := w) ms.isEmpty 10000 kt k u hk hp
              have hr := hfk _ h3
              have hpre : (Instr.lookup t v u ok).run P w = .ok (if ok then .tuple #[zv, .bool false] else zv) w := by
                rcases hrun with ⟨rfl, rfl⟩ | ⟨r, clock, rfl, hr0⟩
                · have hc' : (Instr.checkKey true 10000 kt u).run P w = .ok () w := hc
                  have hr' : (Instr.findKey kt u []).run P w = .ok none w := hr
                  simp [Instr.lookup, run_underlying hu, hc', hr', hzr]
                · simp [Instr.lookup, run_underlying hu, getObj, Sem.run, hr0, hc, hr, hzr]
              cases ok with
              | true => exact ⟨_, hpre, .tup (.cons hzv (.cons .b .nil))⟩
              | false => exact ⟨_, hpre, hzv⟩
            · cases h1
end
end Lx

/- The engine, part 11: maps that turn, copies, conversions with bytes. -/
namespace Lx
open Go Go.RowKit

section
variable {M : Type} [Mdl M] {P : Program} {B : Nat → Prop} {w0 w w' : World} {E : Env} {own : Nat → List Nat} {h : Hp M} {nx : Nat}

/-- an object of one block, not of cells, turns -/
theorem Inv.put (I : Inv B w0 E own h nx w) {id : Nat} {o o' : LObj M} {e : EI} {ob : Obj} (hid : hget h id = some o) (he : E id = some e) (hown : own id = [e.blk 0])
    (hO : OR E e o' (w.putObj (e.blk 0) ob) [e.blk 0]) : ∃ own', Inv B w0 E own' (hset h id o') nx (w.putObj (e.blk 0) ob) :=
  ⟨_, I.turn (ow := [e.blk 0]) hid he rfl rfl rfl (by simp) (fun b _ hnb => World.putObj_heap_other (by rw [hown] at hnb; simpa using hnb)) hO (fun b hb => .inl (by rw [hown]; exact hb))⟩

theorem OR.mp_inv {e : EI} {es : List (LV × LV)} {ow : List Nat} (hO : OR (M := M) E e (.mp es) w ow) : ∃ (ms : Array MapEntry) (clock : Nat), ow = [e.blk 0] ∧ w.heap[e.blk 0]? = some (.map ms clock) ∧ ms.size = es.length ∧
    ∀ (i : Nat) k v u, es[i]? = some (k, v) → ms[i]? = some u → VR E k u.key ∧ VR E v u.val := by
  cases hO with
  | mp a b c => exact ⟨_, _, rfl, a, b, c⟩

theorem run_setObj_mp {r : Nat} {ms : Array MapEntry} {clock : Nat} (o : Obj) (h : w.heap[r]? = some (.map ms clock)) : (setObj r o).run P w = .ok () (w.putObj r o) := by simp [setObj, Sem.run, h, World.putObj]

theorem sameBits_of {kd : TypeDesc} {v u : Value} (h : Instr.sameNow kd v u = some true) : Instr.sameBits 10000 u v = true := by
  cases kd <;> cases v <;> cases u <;> try (simp [Instr.sameNow] at h; done)
  case int.int.int k a k' b =>
    simp only [Instr.sameNow] at h
    split at h
    · rename_i e; subst e; simp only [Option.some.injEq, beq_iff_eq] at h; subst h; simp [Instr.sameBits]
    · cases h
  case bool.bool.bool a b => simp only [Instr.sameNow, Option.some.injEq, beq_iff_eq] at h; subst h; simp [Instr.sameBits]
  case string.string.string a b =>
    simp only [Instr.sameNow, Option.some.injEq] at h
    simp only [Instr.sameBits]
    rw [beq_toListBytes] at h ⊢
    simp only [beq_iff_eq] at h ⊢
    exact h.symm

theorem updateL_ok {t : TypeId} {x k y : LV} {v u z : Value} (I : Inv B w0 E own h nx w) (hx : VR E x v) (hk : VR E k u) (hy : VR E y z) (hp : (updateL P h nx t x k y).pre) :
    ∃ own' w', (Instr.mapUpdate t v u z).run P w = .ok () w' ∧ Inv B w0 E own' ((updateL P h nx t x k y).h h) ((updateL P h nx t x k y).nx nx) w' := by
  unfold updateL at *
  cases hm : mapC P t with
  | none => rw [hm] at hp; exact hp.elim
  | some mc =>
    obtain ⟨kt, kd, et⟩ := mc
    obtain ⟨hu, hku⟩ := mapC_some hm
    rw [hm] at hp
    cases hx <;> try exact hp.elim
    rename_i id e he
    simp only at hp ⊢
    cases hid : hget h id with
    | none => rw [hid] at hp; exact hp.elim
    | some o =>
      rw [hid] at hp
      cases o <;> try exact hp.elim
      rename_i es
      simp only at hp ⊢
      obtain ⟨e', he', hO⟩ := I.obj id _ hid
      rw [he] at he'; cases he'
      obtain ⟨ms, clock, hown, hheap, hsz, hme⟩ := hO.mp_inv
      have hlt := (Array.getElem?_eq_some_iff.1 hheap).1
      have hmsl : ms.toList.length = es.length := by simpa using hsz
      cases hf : findL kd k es 0 with
      | none => rw [hf] at hp; exact hp.elim
      | some r =>
        rw [hf] at hp
        have hfo := findL_ok hk es ms.toList 0 r hmsl (fun j a b y h1 h2 => hme j a b y h1 (by simpa using h2)) hf
        have hfk : ∀ q, Instr.findNow kd u ms.toList 0 = some q → (Instr.findKey kt u ms.toList).run P w = .ok q w := by
          intro q hq
          simp [Instr.findKey, run_underlying hku, hq]
        cases r with
        | some i =>
          simp only at hp ⊢
          obtain ⟨hck, hil⟩ := hp
          rcases hfo with ⟨h1, _⟩ | ⟨j, m, h1, h2, h3, h4⟩
          · cases h1
          · simp only [Nat.zero_add, Option.some.injEq] at h1 h3
            subst h1
            have hc := chkK_ok (P := P) (w := w) false 10000 kt k u hk hck
            have hr := hfk _ h3
            have hmi : ms[i]? = some m := by simpa using h2
            have hsb := sameBits_of h4
            have hrun : (Instr.mapUpdate t (.map (some (e.blk 0))) u z).run P w = .ok () (w.putObj (e.blk 0) (.map (ms.modify i fun e => { e with key := u, val := z }) clock)) := by
              simp only [Instr.mapUpdate, Sem.run_bind, run_underlying hu, Result.andThen_ok, getObj, Sem.run, hheap, hc, hr]
              simp [Instr.keyThatStays, hmi, hsb, run_setObj_mp _ hheap]
            obtain ⟨own', hI⟩ := I.put (o' := .mp (es.set i (k, y))) hid he hown (.mp (ms := ms.modify i fun e => { e with key := u, val := z }) (clock := clock) (World.putObj_heap_same hlt) (by simp [hsz]) (by
              intro q a b c hq1 hq2
              rw [List.getElem?_set] at hq1
              rw [Array.getElem?_modify] at hq2
              by_cases hqi : i = q
              · subst hqi
                rw [if_pos rfl, if_pos hil] at hq1
                simp only [if_true, hmi, Option.map_some, Option.some.injEq] at hq2
                cases hq1
                subst hq2
                exact ⟨hk, hy⟩
              · rw [if_neg hqi] at hq1 hq2
                exact hme q a b c hq1 hq2))
            exact ⟨own', _, hrun, hI⟩
        | none =>
          simp only at hp ⊢
          rcases hfo with ⟨_, h3⟩ | ⟨j, m, h1, _⟩
          · have hc := chkK_ok (P := P) (w := w) false 10000 kt k u hk hp
            have hr := hfk _ h3
            have hrun : (Instr.mapUpdate t (.map (some (e.blk 0))) u z).run P w = .ok () (w.putObj (e.blk 0) (.map (ms.push { key := u, val := z, born := clock }) (clock + 1))) := by
              simp only [Instr.mapUpdate, Sem.run_bind, run_underlying hu, Result.andThen_ok, getObj, Sem.run, hheap, hc, hr]
              simp [run_setObj_mp _ hheap]
            obtain ⟨own', hI⟩ := I.put (o' := .mp (es ++ [(k, y)])) hid he hown (.mp (ms := ms.push { key := u, val := z, born := clock }) (clock := clock + 1) (World.putObj_heap_same hlt) (by simp [hsz]) (by
              intro q a b c hq1 hq2
              rw [Array.getElem?_push] at hq2
              by_cases hqs : q = ms.size
              · subst hqs
                rw [List.getElem?_append_right (by omega), hsz, Nat.sub_self] at hq1
                simp only [if_true, Option.some.injEq] at hq2
                cases hq1
                subst hq2
                exact ⟨hk, hy⟩
              · rw [if_neg hqs] at hq2
                have : q < es.length := by rw [← hsz]; exact (Array.getElem?_eq_some_iff.1 hq2).1
                rw [List.getElem?_append_left this] at hq1
                exact hme q a b c hq1 hq2))
            exact ⟨own', _, hrun, hI⟩
          · cases h1

theorem mkmapL_ok {t : TypeId} (I : Inv B w0 E own h nx w) :
    ∃ E' own' v w', (Instr.makeMap t none).run P w = .ok v w' ∧ Grow nx E E' ∧ Inv B w0 E' own' ((mkmapL h nx).h h) ((mkmapL h nx).nx nx) w' ∧ VR E' (mkmapL h nx).v v := by
  have hE := Grow.put (e := newEI w 0) I.fresh
  refine ⟨_, _, .map (some w.heap.size), w.alloc (.map #[] 0), by simp [Instr.makeMap], hE, I.fresh_obj (ow := [w.heap.size]) rfl rfl rfl (by simp) (fun b hb => Below.heap_alloc _ _ _ hb) (.mp (ms := #[]) (clock := 0) (heap_alloc_new w _) rfl (by simp)) (by simp), ?_⟩
  exact VR.m (e := newEI w 0) (Env.put_same _ _ _)

theorem mkchanL_ok {t : TypeId} {x : LV} {v : Value} (I : Inv B w0 E own h nx w) (hx : VR E x v) (hp : (mkchanL P h nx t x).pre) :
    ∃ E' own' u w', (Instr.makeChan t v).run P w = .ok u w' ∧ Grow nx E E' ∧ Inv B w0 E' own' ((mkchanL P h nx t x).h h) ((mkchanL P h nx t x).nx nx) w' ∧ VR E' (mkchanL P h nx t x).v u := by
  unfold mkchanL at *
  cases hu : P.underlying t with
  | none => rw [hu] at hp; exact hp.elim
  | some d =>
    rw [hu] at hp
    cases d <;> try exact hp.elim
    rename_i d e
    cases x <;> try exact hp.elim
    rename_i k n
    cases hx
    simp only at hp ⊢
    cases hi : P.info? e with
    | none => rw [hi] at hp; exact hp.elim
    | some i =>
      rw [hi] at hp
      simp only at hp ⊢
      obtain ⟨h0, h1, h2⟩ := hp
      have hE := Grow.put (e := newEI w 0) I.fresh
      have hb : (i.bytes : Int) * n ≤ 65536 * 65536 := Int.mul_le_mul (by omega) h1 h0 (by omega)
      have n1 : ¬ n < 0 := by omega
      have n2 : ¬ (9223372036854775807 < n) := by omega
      have n3 : ¬ (281474976710544 < (i.bytes : Int) * n) := by omega
      refine ⟨_, _, .chan (some w.heap.size), w.alloc (.chan n.toNat #[] false 0 0 false), ?_, hE, I.fresh_obj (ow := [w.heap.size]) rfl rfl rfl (by simp) (fun b hb => Below.heap_alloc _ _ _ hb) (.ch (buf := #[]) (heap_alloc_new w _) .nil) (by simp), ?_⟩
      · simp [Instr.makeChan, asInt, asIntOf, run_underlying hu, typeInfo, hi, n1, n2, n3]
      · exact VR.c (e := newEI w 0) (Env.put_same _ _ _)

/-! rows into an array -/
theorem setRows_ok {s : Nat} : ∀ (rows : List (List LV)) (m m' : M) (i : Nat) (ll : List (List LV)), Mdl.view m = .arr s ll → setRows m i rows = some m' → i + rows.length ≤ ll.length →
    Mdl.view m' = .arr s (ll.take i ++ rows ++ ll.drop (i + rows.length))
  | [], m, m', i, ll, hv, h, hl => by
    cases h
    simpa using hv
  | r :: rs, m, m', i, ll, hv, h, hl => by
    simp only [setRows] at h
    cases hs : Mdl.set m i r with
    | none => rw [hs] at h; cases h
    | some m1 =>
      rw [hs] at h
      simp only [List.length_cons] at hl
      have h1 := setRows_ok rs m1 m' (i + 1) _ (Mdl.set_ok hv hs) h (by simp; omega)
      rw [h1]
      congr 1
      have hi : i < ll.length := by omega
      rw [List.take_set, List.drop_set_of_lt (by omega), List.take_succ_eq_append_getElem hi]
      rw [List.set_append_right _ _ (by simp; omega)]
      simp only [List.length_take, Nat.min_eq_left (Nat.le_of_lt hi), Nat.sub_self, List.set_cons_zero, List.length_cons]
      simp [show i + 1 + rs.length = i + (rs.length + 1) by omega]

theorem putRows_ok {x v : LV} {vx : Value} {rows : List (List LV)} {cells : List Value} (I : Inv B w0 E own h nx w) (hx : VR E x vx) (hr : VRs E rows.flatten cells)
    (hone : ∀ u ∈ cells, u.oneCell' = true) (hp : (putRows h nx x rows v).pre) :
    ∃ a n cap own' w', vx = .slice a n cap ∧ (match a with | some a => storeCells a cells | none => pure ()).run P w = .ok () w' ∧
      Inv B w0 E own' ((putRows h nx x rows v).h h) ((putRows h nx x rows v).nx nx) w' ∧ rows.length ≤ n := by
  unfold putRows at *
  cases hx <;> try exact hp.elim
  rename_i id sub sz lo n e a cap he hlc hc
  simp only at hp ⊢
  cases hid : hget h id with
  | none => rw [hid] at hp; exact hp.elim
  | some o =>
    rw [hid] at hp
    obtain ⟨e', he', hO⟩ := I.obj id _ hid
    rw [he] at he'; cases he'
    cases o <;> try exact hp.elim
    case st T r =>
      simp only at hp ⊢
      obtain ⟨rfl, rfl, hlen, hk, hok⟩ := hp
      have hrow : ∀ q ∈ rows, q.length = 1 ∧ ∀ y ∈ q, y.one = true := fun q hq => okRow_ok (List.all_eq_true.1 hok q hq)
      have hfl : rows.flatten.length = rows.length := by rw [flatten_len (sz := 1) fun q hq => (hrow q hq).1]; omega
      have hcl : cells.length = rows.length := by rw [← hr.length, hfl]
      obtain ⟨ow, how⟩ : ∃ ow, ow = own id := ⟨_, rfl⟩
      rw [← how] at hO
      cases hO with
      | st a1 c d f =>
        rename_i vs
        have hrl : r.length = vs.size := by rw [c.length]; simp
        have hset : VRs E (setMany r lo rows.flatten) (vs.toList.take lo ++ cells ++ vs.toList.drop (lo + cells.length)) := by
          rw [setMany_eq _ _ _ (by omega), hfl, ← hcl]
          exact ((c.take lo).append hr).append (c.drop _)
        have hset1 : ∀ y ∈ setMany r lo rows.flatten, y.one = true := by
          intro y hy
          rw [setMany_eq _ _ _ (by omega)] at hy
          simp only [List.mem_append] at hy
          rcases hy with (hy | hy) | hy
          · exact d y (List.mem_of_mem_take hy)
          · obtain ⟨q, hq1, hq2⟩ := List.mem_flatten.1 hy
            exact (hrow q hq1).2 y hq2
          · exact d y (List.mem_of_mem_drop hy)
        rcases Nat.eq_zero_or_pos rows.length with h0 | h0
        · have hc0 : cells = [] := List.eq_nil_of_length_eq_zero (by omega)
          subst hc0
          refine ⟨a, n, cap, _, w, rfl, by cases a <;> simp [storeCells], I.turn (w' := w) (ow := [e.blk 0]) hid he rfl rfl rfl (Nat.le_refl _) (fun _ _ _ => rfl) ?_ (fun b hb => .inl (by rw [← how]; exact hb)), hk⟩
          refine .st a1 ?_ hset1 f
          simpa using hset
        · obtain ⟨rfl, hroom⟩ := hc (by omega)
          have hrun := run_storeCells_at P (e.blk 0) lo T cells 0 vs w a1 (by omega) hone
          simp only [Nat.add_zero] at hrun
          refine ⟨_, n, cap, _, _, rfl, by simp only [Nat.mul_one]; exact hrun, I.turn (w' := w.setRow (e.blk 0) (vs.toList.take lo ++ cells ++ vs.toList.drop (lo + cells.length)).toArray) (ow := [e.blk 0]) hid he rfl rfl rfl (by simp [World.setRow]) (fun b hb hnb => setRow_other _ _ _ _ (by rw [← how] at hnb; simpa using hnb)) ?_ (fun b hb => .inl (by rw [← how]; exact hb)), hk⟩
          refine .st (setRow_heap _ _ _ _ _ _ a1) (by simpa using hset) hset1 ?_
          rw [f]; simp; omega
    case o m =>
      simp only at hp ⊢
      cases hsr : setRows m lo rows with
      | none => rw [hsr] at hp; exact hp.elim
      | some m' =>
        rw [hsr] at hp
        simp only at hp ⊢
        obtain ⟨rfl, rfl, hlen, hk⟩ := hp
        obtain ⟨ow, how⟩ : ∃ ow, ow = own id := ⟨_, rfl⟩
        rw [← how] at hO
        cases hO with
        | lay E1 es own1 a1 b c d f g => 
          rw [Mdl.lay_len a1] at hlen
          have h0 : rows = [] := List.eq_nil_of_length_eq_zero (by omega)
          subst h0
          cases hsr
          have hc0 : cells = [] := by cases hr; rfl
          subst hc0
          refine ⟨a, n, cap, _, w, rfl, by cases a <;> simp [storeCells], I.turn (w' := w) (ow := own id) hid he rfl rfl rfl (Nat.le_refl _) (fun _ _ _ => rfl) ?_ (fun b hb => .inl hb), hk⟩
          rw [← how]
          exact .lay E1 es own1 a1 b c d f g
        | arrNil a1 b1 =>
          obtain ⟨_, _, hl, _⟩ := Mdl.wf a1
          rw [hl] at hlen
          have h0 : rows = [] := List.eq_nil_of_length_eq_zero (by simp at hlen; omega)
          subst h0
          cases hsr
          have hc0 : cells = [] := by cases hr; rfl
          subst hc0
          refine ⟨a, n, cap, _, w, rfl, by cases a <;> simp [storeCells], I.turn (w' := w) (ow := []) hid he rfl rfl rfl (Nat.le_refl _) (fun _ _ _ => rfl) (.arrNil a1 b1) (by simp), hk⟩
        | arr a1 b1 c1 d f =>
          rename_i T s ll vs
          obtain ⟨hs0, hs, hl, hw⟩ := Mdl.wf a1
          rw [hl] at hlen
          have hv' := setRows_ok rows m m' lo ll a1 hsr (by omega)
          obtain ⟨_, _, _, hw'⟩ := Mdl.wf hv'
          have hrow : ∀ q ∈ rows, q.length = s := fun q hq => (hw' q (by simp [hq])).1
          have hfl : rows.flatten.length = rows.length * s := flatten_len hrow
          have hcl : cells.length = rows.length * s := by rw [← hr.length, hfl]
          have hll' : (ll.take lo ++ rows ++ ll.drop (lo + rows.length)).length = ll.length := by simp; omega
          have hmul : (lo + rows.length) * s ≤ ll.length * s := Nat.mul_le_mul_right _ (by omega)
          rw [Nat.add_mul] at hmul
          have t1 : ll.flatten.take (lo * s) = (ll.take lo).flatten := by
            have := rows_take (fun q hq => (hw q hq).1) 0 lo (by omega)
            simpa using this.symm
          have t2 : ll.flatten.drop (lo * s + rows.length * s) = (ll.drop (lo + rows.length)).flatten := by
            have h1 := take_flatten_len (fun q hq => (hw q hq).1) (show lo + rows.length ≤ ll.length by omega)
            conv => lhs; rw [← List.take_append_drop (lo + rows.length) ll, List.flatten_append]
            rw [List.drop_append, h1, Nat.add_mul, Nat.sub_self, List.drop_of_length_le (by rw [h1, Nat.add_mul]; omega), List.nil_append, List.drop_zero]
          have hset : VRs E (ll.take lo ++ rows ++ ll.drop (lo + rows.length)).flatten ((vs.toList.take (ll.length * s)).take (lo * s) ++ cells ++ (vs.toList.take (ll.length * s)).drop (lo * s + cells.length)) := by
            simp only [List.flatten_append]
            rw [← t1, ← t2, hcl]
            exact ((d.take _).append hr).append (d.drop _)
          rcases Nat.eq_zero_or_pos rows.length with h0 | h0
          · have hr0 : rows = [] := List.eq_nil_of_length_eq_zero h0
            subst hr0
            cases hsr
            have hc0 : cells = [] := by cases hr; rfl
            subst hc0
            refine ⟨a, n, cap, _, w, rfl, by cases a <;> simp [storeCells], I.turn (w' := w) (ow := [e.blk 0]) hid he rfl rfl rfl (Nat.le_refl _) (fun _ _ _ => rfl) (.arr a1 b1 c1 d f) (fun b hb => .inl (by rw [← how]; exact hb)), hk⟩
          · obtain ⟨rfl, hroom⟩ := hc (by omega)
            have hrun := run_storeCells_at P (e.blk 0) (lo * s) T cells 0 vs w b1 (by omega) hone
            simp only [Nat.add_zero] at hrun
            refine ⟨_, n, cap, _, _, rfl, by rw [hs]; exact hrun, I.turn (w' := w.setRow (e.blk 0) (vs.toList.take (lo * s) ++ cells ++ vs.toList.drop (lo * s + cells.length)).toArray) (ow := [e.blk 0]) hid he rfl rfl rfl (by simp [World.setRow]) (fun b hb hnb => setRow_other _ _ _ _ (by rw [← how] at hnb; simpa using hnb)) ?_ (fun b hb => .inl (by rw [← how]; exact hb)), hk⟩
            refine .arr (vs := (vs.toList.take (lo * s) ++ cells ++ vs.toList.drop (lo * s + cells.length)).toArray) hv' (setRow_heap _ _ _ _ _ _ b1) ?_ ?_ ?_
            · rw [hll']; simp; omega
            · rw [hll']
              have e1 : ((vs.toList.take (lo * s) ++ cells ++ vs.toList.drop (lo * s + cells.length)).toArray.toList.take (ll.length * s)) =
                  (vs.toList.take (ll.length * s)).take (lo * s) ++ cells ++ (vs.toList.take (ll.length * s)).drop (lo * s + cells.length) := by
                simp only [List.take_append, List.length_append, List.length_take, List.take_take, List.drop_take, Array.length_toList]
                rw [Nat.min_eq_left (show lo * s ≤ ll.length * s by omega), Nat.min_eq_right (show lo * s ≤ ll.length * s by omega), Nat.min_eq_left (show lo * s ≤ vs.size by omega), List.take_of_length_le (l := cells) (by omega)]
              rw [e1]; exact hset
            · rw [f]; simp; omega
end
end Lx

/- The engine, part 12: copies, conversions with bytes, what is made and cleared. -/
namespace Lx
open Go Go.RowKit

section
variable {M : Type} [Mdl M] {P : Program} {B : Nat → Prop} {w0 w w' : World} {E : Env} {own : Nat → List Nat} {h : Hp M} {nx : Nat}

theorem bytesL_ok : ∀ (l : List UInt8), VRs E (bytesL l).flatten (l.map fun b => .int .u8 b.toNat) ∧ (bytesL l).length = l.length
  | [] => ⟨.nil, rfl⟩
  | b :: l => ⟨.cons .i (bytesL_ok l).1, by simp [bytesL, (bytesL_ok l).2]⟩

theorem VRs.ones {l : List LV} {vs : List Value} (hr : VRs E l vs) (h1 : ∀ x ∈ l, x.one = true) : ∀ u ∈ vs, u.oneCell' = true := by
  intro u hu
  obtain ⟨j, hj⟩ := List.getElem?_of_mem hu
  have hjl : j < l.length := by rw [hr.length]; exact (List.getElem?_eq_some_iff.1 hj).1
  obtain ⟨u', hu', hvr⟩ := hr.get j _ (List.getElem?_eq_getElem hjl)
  rw [hj] at hu'; cases hu'
  exact hvr.isOne (h1 _ (List.getElem_mem hjl))

theorem putRows_v {x v : LV} {rows : List (List LV)} (hp : (putRows h nx x rows v).pre) : (putRows h nx x rows v).v = v := by
  unfold putRows at *
  cases x <;> try exact hp.elim
  rename_i id sub sz lo n
  simp only at hp ⊢
  cases hid : hget h id with
  | none => rw [hid] at hp; exact hp.elim
  | some o =>
    rw [hid] at hp
    cases o <;> try exact hp.elim
    case st T r => rfl
    case o m =>
      simp only at hp ⊢
      cases hsr : setRows m lo rows with
      | none => rw [hsr] at hp; exact hp.elim
      | some m' => rfl

theorem run_copy_of {t e : TypeId} {tys : Array TypeId} {ty : TypeId} {sz n cap l : Nat} {a : Option Addr} {vs : Value} {cells : Array Value} (ht : tys[0]? = some t) (hu : P.underlying t = some (.slice e))
    (hso : ∀ W : World, (Go.sizeOf e).run P W = .ok sz W) (hlen : (Builtin.lenOf vs).run P w = .ok l w) (hfc : (Builtin.firstCells sz (Nat.min l n) vs).run P w = .ok cells w)
    (hst : (match a with | some a => storeCells a cells.toList | none => pure ()).run P w = .ok () w') : (Builtin.copy_ tys ty #[.slice a n cap, vs]).run P w = .ok (goInt (Nat.min l n : Nat)) w' := by
  cases a with
  | none => simp only [Sem.run_pure] at hst; cases hst; simp [Builtin.copy_, ht, run_underlying hu, hso, hlen, hfc]
  | some a => simp only at hst; simp [Builtin.copy_, ht, run_underlying hu, hso, hlen, hfc, hst]

theorem copyL_ok {t : TypeId} {tys : Array TypeId} {ty : TypeId} {d s : LV} {vd vs : Value} (ht : tys[0]? = some t) (I : Inv B w0 E own h nx w) (hd : VR E d vd) (hs : VR E s vs) (hp : (copyL P h nx t d s).pre) :
    ∃ own' v w', (Builtin.copy_ tys ty #[vd, vs]).run P w = .ok v w' ∧ Inv B w0 E own' ((copyL P h nx t d s).h h) ((copyL P h nx t d s).nx nx) w' ∧ VR E (copyL P h nx t d s).v v := by
  unfold copyL at *
  cases hsl : slC P t with
  | none => rw [hsl] at hp; exact hp.elim
  | some y =>
    obtain ⟨e, sz, by_⟩ := y
    rw [hsl] at hp
    obtain ⟨i, zv, hu, hi, hzv, hsize, hby, hb0⟩ := slC_some hsl
    simp only at hu hi hsize
    have hso : ∀ W : World, (Go.sizeOf e).run P W = .ok sz W := fun W => by simp [Go.sizeOf, typeInfo, hi, hsize]
    have hd0 := hd
    cases hd <;> try exact hp.elim
    case sl id sub dsz lo n ei a cap he hlc hc =>
      simp only at hp ⊢
      cases hs <;> try exact hp.elim
      case s y =>
        simp only at hp ⊢
        obtain ⟨hp1, hsz1, hdz⟩ := hp
        obtain ⟨hb1, hb2⟩ := bytesL_ok (E := E) (y.data.toList.take (min y.size n))
        obtain ⟨a', n', cap', own', w', hv, hrun, hI, hk⟩ := putRows_ok (P := P) I hd0 hb1 (by simp only [List.mem_map]; rintro u ⟨b, _, rfl⟩; rfl) hp1
        cases hv
        refine ⟨own', goInt (min y.size n : Nat), w', ?_, hI, by simp only [Eff.and]; rw [putRows_v hp1]; exact .i⟩
        have hcells : ((y.extract 0 (min y.size n)).data.map fun b => Value.int .u8 b.toNat).toList = (y.data.toList.take (min y.size n)).map fun b => .int .u8 b.toNat := by
          simp [ByteArray.data_extract, List.extract_eq_take_drop]
        refine run_copy_of (l := y.size) ht hu hso (by simp [Builtin.lenOf]) (by simp only [Builtin.firstCells]; exact Sem.run_pure ..) ?_
        rw [show Nat.min y.size n = min y.size n from rfl, hcells]
        cases a <;> exact hrun
      case ns =>
        refine ⟨own, goInt 0, w, ?_, I, .i⟩
        cases a with
        | none => simp [Builtin.copy_, ht, run_underlying hu, Builtin.lenOf, Builtin.firstCells, hso]
        | some a => simp [Builtin.copy_, ht, run_underlying hu, Builtin.lenOf, Builtin.firstCells, hso, storeCells]
      case sl id2 sub2 sz2 lo2 len2 ei2 a2 cap2 he2 hlc2 hc2 =>
        simp only at hp ⊢
        cases hsrc : srcL h e (.sl id2 sub2 sz2 lo2 (min len2 n)) with
        | none => rw [hsrc] at hp; exact hp.elim
        | some q =>
          obtain ⟨m2, lo', len', pr⟩ := q
          rw [hsrc] at hp
          obtain ⟨hp1, hpr, rfl, hsz2, hdz⟩ := hp
          obtain ⟨s2, ll2, b, c, news, hv2, hl2, hveq, hnl, hnr, hnc⟩ := srcL_ok (P := P) (len := min len2 n) I (VR.sl (cap := cap2) he2 (by omega) hc2) hsrc hpr
          cases hveq
          obtain ⟨hs0, hss, hlm, hw1⟩ := Mdl.wf hv2
          rw [hsz2] at hss
          subst hss
          have hrows := rowsOf_eq hv2 (min len2 n) lo' hl2
          obtain ⟨a', n', cap', own', w', hv, hrun, hI, hk⟩ := putRows_ok (P := P) (cells := news) I hd0 (by rw [hrows]; exact hnr) (hnr.ones (by
            intro x hx
            obtain ⟨r, hr1, hr2⟩ := List.mem_flatten.1 hx
            exact (hw1 r (List.mem_of_mem_drop (List.mem_of_mem_take hr1))).2 x hr2)) hp1
          cases hv
          refine ⟨own', goInt (min len2 n : Nat), w', ?_, hI, by simp only [Eff.and]; rw [putRows_v hp1]; exact .i⟩
          have hfc := hnc w rfl
          have hfc' : (Builtin.firstCells sz (Nat.min len2 n) (.slice a2 len2 cap2)).run P w = .ok news.toArray w := by
            cases a2 <;> exact hfc
          exact run_copy_of (l := len2) ht hu hso (by simp [Builtin.lenOf]) hfc' (by cases a <;> exact hrun)

theorem rowBytes_ok : ∀ (rs : List (List LV)) (bs : List UInt8) (cells : List Value), rowBytes rs = some bs → VRs E rs.flatten cells →
    ∃ ns : List Int, cells = ns.map (Value.int .u8) ∧ ∀ s : ByteArray, (ns.foldl (fun r n => r.push (UInt8.ofNat n.toNat)) s).data.toList = s.data.toList ++ bs
  | [], bs, cells, h, hv => by
    cases h; cases hv
    exact ⟨[], rfl, by simp⟩
  | [.i .u8 n] :: rs, bs, cells, h, hv => by
    simp only [rowBytes, Option.map_eq_some_iff] at h
    obtain ⟨bs', h1, rfl⟩ := h
    cases hv with
    | cons a t =>
      obtain ⟨ns, h2, h3⟩ := rowBytes_ok rs bs' _ h1 t
      cases a
      refine ⟨n :: ns, by rw [h2]; rfl, fun s => ?_⟩
      simp only [List.foldl_cons]
      rw [h3]
      simp [ByteArray.push]

theorem conv2L_ok {src dst : TypeId} {x : LV} {v : Value} (I : Inv B w0 E own h nx w) (hx : VR E x v) (hp : (conv2L P h src dst x).pre) :
    ∃ u, (convert src dst v).run P w = .ok u w ∧ VR E (conv2L P h src dst x).v u ∧ (conv2L P h src dst x).up = none := by
  have base : (convL P src dst x).1 → ∃ u, (convert src dst v).run P w = .ok u w ∧ VR E (convL P src dst x).2 u := convL_ok hx
  unfold conv2L at *
  have fin : (ofPV (convL P src dst x) : Eff M).pre → ∃ u, (convert src dst v).run P w = .ok u w ∧ VR E (ofPV (convL P src dst x) : Eff M).v u ∧ (ofPV (convL P src dst x) : Eff M).up = none := by
    intro hp
    obtain ⟨u, h1, h2⟩ := base hp
    exact ⟨u, h1, h2, rfl⟩
  cases hs : P.underlying src with
  | none => rw [hs] at hp; exact fin hp
  | some ds =>
    rw [hs] at hp
    cases ds <;> try exact fin hp
    rename_i e
    cases hd : P.underlying dst with
    | none => rw [hd] at hp; exact fin hp
    | some dd =>
      rw [hd] at hp
      cases dd <;> try exact fin hp
      cases hx <;> try exact fin hp
      case ns =>
        simp only at hp ⊢
        cases he : P.underlying e with
        | none => rw [he] at hp; exact hp.elim
        | some de =>
          rw [he] at hp
          cases de <;> try exact hp.elim
          rename_i k
          cases k <;> try exact hp.elim
          exact ⟨.string ⟨#[]⟩, by rw [run_convert_bytes_string w src dst e none 0 0 hs he hd]; rfl, .s, rfl⟩
      case sl id sub sz lo n ei a cap hei hlc hc =>
        simp only at hp ⊢
        cases he : P.underlying e with
        | none => rw [he] at hp; cases srcL h e (.sl id sub sz lo n) <;> exact hp.elim
        | some de =>
          rw [he] at hp
          cases de <;> try (cases srcL h e (.sl id sub sz lo n) <;> exact hp.elim)
          rename_i k
          cases k <;> try (cases srcL h e (.sl id sub sz lo n) <;> exact hp.elim)
          cases hsrc : srcL h e (.sl id sub sz lo n) with
          | none => rw [hsrc] at hp; exact hp.elim
          | some q =>
            obtain ⟨m, l, k, pr⟩ := q
            rw [hsrc] at hp
            simp only at hp ⊢
            cases hrb : rowBytes (rowsOf m l k) with
            | none => rw [hrb] at hp; exact hp.elim
            | some bs =>
              rw [hrb] at hp
              obtain ⟨hpr, hsz⟩ := hp
              obtain ⟨s2, ll2, b, c, news, hv2, hl2, hveq, hnl, hnr, hnc⟩ := srcL_ok (P := P) I (VR.sl hei hlc hc) hsrc hpr
              cases hveq
              obtain ⟨hs0, hss, hlm, hw1⟩ := Mdl.wf hv2
              rw [hsz] at hss
              subst hss
              rw [rowsOf_eq hv2 _ _ hl2] at hrb
              obtain ⟨ns, hns, hfold⟩ := rowBytes_ok _ _ _ hrb hnr
              subst hns
              rw [run_convert_bytes_string w src dst e a _ cap hs he hd]
              have hfc := hnc w rfl
              cases a with
              | none =>
                have hn0 : n = 0 := by
                  rcases Nat.eq_zero_or_pos cap with h0 | h0
                  · omega
                  · obtain ⟨h1, _⟩ := hc h0; cases h1
                subst hn0
                simp only [Nat.zero_mul, List.length_map] at hnl
                have : ns = [] := List.eq_nil_of_length_eq_zero hnl
                subst this
                have hb := hfold ByteArray.empty
                refine ⟨.string ⟨⟨bs⟩⟩, ?_, .s, rfl⟩
                have : bs = [] := by simpa using hb.symm
                subst this
                rfl
              | some a =>
                have hload : (loadCells a n).run P w = .ok (ns.map (Value.int .u8)).toArray w := by simpa [Builtin.firstCells] using hfc
                refine ⟨_, run_bytesToString w a n cap ns hload, ?_, rfl⟩
                have hb := hfold ByteArray.empty
                have : ns.foldl (fun r n => r.push (UInt8.ofNat n.toNat)) ByteArray.empty = ⟨⟨bs⟩⟩ := by
                  apply ByteArray.ext
                  apply Array.ext'
                  simpa using hb
                rw [this]; exact .s
end
end Lx

/- The engine, part 13: an operation that calls no function. -/
namespace Lx
open Go Go.RowKit
section
variable {M : Type} [Mdl M]
/-- what an operation that calls no function does -/
def opL (P : Program) (ρ : Operand → LV) (h : Hp M) (nx : Nat) (o : Oper) : Eff M :=
  match o.op with
  | .move x | .assign x => val (ρ x)
  | .pick c a b => match ρ c with | .b x => val (bif x then ρ a else ρ b) | _ => bad
  | .alloc t => allocL P h nx t
  | .box t x => newL h nx t (ρ x).cells
  | .build t ps => buildL P t (ps.toList.map fun p => (p.1, ρ p.2))
  | .buildSlice t n ps => bsliceL P h nx t n (ps.toList.map fun p => (p.1, ρ p.2))
  | .load t a => load2L P h t (ρ a)
  | .store t a x => storeL P h nx t (ρ a) (ρ x)
  | .nilCheck x => match ρ x with | .p id sub sz row col => val (.p id sub sz row col) | .f (.func g) a b => val (.f (.func g) a b) | _ => bad
  | .binOp op t x y _ => ofPV (eqL P op t (ρ x) (ρ y))
  | .unOp op _ x => ofPV (unL op (ρ x))
  | .convert s d x => conv2L P h s d (ρ x)
  | .sliceToArrayPointer t x => ofPV (arrayAtL P t (ρ x))
  | .makeFunc fn a b => val (.f fn (a.toList.map ρ) (b.toList.map ρ))
  | .makeMap _ none => mkmapL h nx
  | .makeSlice t l c => mksliceL P h nx t (ρ l) (ρ c)
  | .makeChan t n => mkchanL P h nx t (ρ n)
  | .slice t x lo hi mx => ofPV (sliceL P h t (ρ x) (lo.map ρ) (hi.map ρ) (mx.map ρ))
  | .fieldAddr t x f => faddrL P t (ρ x) f
  | .field t x f => ofPV (fieldL P t (ρ x) f)
  | .indexAddr t x i => iaddrL P t (ρ x) (ρ i)
  | .index t x i => ofPV (index2L P t (ρ x) (ρ i))
  | .lookup t x k ok => ofPV (lookupL P h t (ρ x) (ρ k) ok)
  | .mapUpdate t m k v | .insert t m k v => updateL P h nx t (ρ m) (ρ k) (ρ v)
  | .extract x i => ofPV (extractL (ρ x) i)
  | .call { callee := .builtin b, args, argTypes } =>
    match b, args.toList, argTypes.toList with
    | .len, [x], [t] => ofPV (lenL P h t (ρ x))
    | .append, [s, x], [t, t'] => if t = t' ∧ (slC P t |>.map (·.1) |>.getD 0) < P.types.size then appL P h nx t (ρ s) (ρ x) else bad
    | .copy, [d, s], t :: _ => copyL P h nx t (ρ d) (ρ s)
    | .max, [x, y], _ => ofPV (maxL (ρ x) (ρ y))
    | _, _, _ => bad
  | _ => bad
end


/-- a type's zero has the type's cells -/
def ZOK (P : Program) : Prop := ∀ t i z, t < P.types.size → P.info? t = some i → i.zero = some z → z.cells.size = i.size

section
variable {M : Type} [Mdl M] {P : Program} {B : Nat → Prop} {w0 w w' : World} {E : Env} {own : Nat → List Nat} {h : Hp M} {nx : Nat}

theorem pairs_ok {ρ : Operand → LV} {ev : Operand → Value} (hρ : ∀ x, VR E (ρ x) (ev x)) (ps : List (Nat × Operand)) :
    (ps.map fun p => (p.1, ρ p.2)).length = (ps.map fun p => (p.1, ev p.2)).length ∧
    ∀ (j : Nat) a b, (ps.map fun p => (p.1, ρ p.2))[j]? = some a → (ps.map fun p => (p.1, ev p.2))[j]? = some b → a.1 = b.1 ∧ VR E a.2 b.2 := by
  refine ⟨by simp, fun j a b ha hb => ?_⟩
  simp only [List.getElem?_map, Option.map_eq_some_iff] at ha hb
  obtain ⟨p, hp, rfl⟩ := ha
  obtain ⟨q, hq, rfl⟩ := hb
  rw [hp] at hq; cases hq
  exact ⟨rfl, hρ _⟩

theorem VRs.map {ρ : Operand → LV} {ev : Operand → Value} (hρ : ∀ x, VR E (ρ x) (ev x)) : ∀ l : List Operand, VRs E (l.map ρ) (l.map ev)
  | [] => .nil
  | x :: l => .cons (hρ x) (VRs.map hρ l)

theorem arr_map {α β : Type} (f : α → β) (a : Array α) : a.map f = (a.toList.map f).toArray := by apply Array.ext'; simp

theorem vo_map {ρ : Operand → LV} {ev : Operand → Value} (hρ : ∀ x, VR E (ρ x) (ev x)) (o : Option Operand) : VO E (o.map ρ) (o.map ev) := by
  cases o with
  | none => exact .none
  | some x => exact .some (hρ x)

/-- out of a value that changes nothing -/
theorem out_pv {x : PV} {s : Sem Value} {S : Sem Next} (I : Inv B w0 E own h nx w) (hS : S = (do pure (.value (← s)))) (h1 : ∃ u, s.run P w = .ok u w ∧ VR E x.snd u) :
    Out P B w0 E nx ((ofPV x : Eff M).h h) ((ofPV x : Eff M).nx nx) (ofPV x : Eff M).v S w := by
  obtain ⟨u, h1, h2⟩ := h1
  exact ⟨E, own, u, w, .inl (by rw [hS]; simp [h1]), Grow.refl _ E, I, h2⟩
theorem out_val {e : Eff M} {s : Sem Value} {S : Sem Next} (I : Inv B w0 E own h nx w) (hS : S = (do pure (.value (← s)))) (hu : e.up = none) (h1 : ∃ u, s.run P w = .ok u w ∧ VR E e.v u) :
    Out P B w0 E nx (e.h h) (e.nx nx) e.v S w := by
  obtain ⟨u, h1, h2⟩ := h1
  refine ⟨E, own, u, w, .inl (by rw [hS]; simp [h1]), Grow.refl _ E, ?_, h2⟩
  simpa [Eff.h, Eff.nx, hu] using I
theorem out_new {e : Eff M} {s : Sem Value} {S : Sem Next} (hS : S = (do pure (.value (← s))))
    (h1 : ∃ E' own' v w', s.run P w = .ok v w' ∧ Grow nx E E' ∧ Inv B w0 E' own' (e.h h) (e.nx nx) w' ∧ VR E' e.v v) : Out P B w0 E nx (e.h h) (e.nx nx) e.v S w := by
  obtain ⟨E', own', v, w', h1, h2, h3, h4⟩ := h1
  exact ⟨E', own', v, w', .inl (by rw [hS]; simp [h1]), h2, h3, h4⟩
theorem out_unit {e : Eff M} {s : Sem Unit} {S : Sem Next} (hS : S = (do s; pure .skip)) (hv : e.v = .any)
    (h1 : ∃ own' w', s.run P w = .ok () w' ∧ Inv B w0 E own' (e.h h) (e.nx nx) w') : Out P B w0 E nx (e.h h) (e.nx nx) e.v S w := by
  obtain ⟨own', w', h1, h2⟩ := h1
  exact ⟨E, own', undef, w', .inr ⟨by rw [hS]; simp [h1], rfl⟩, Grow.refl _ E, h2, by rw [hv]; exact .any⟩

omit [Mdl M] in
theorem upd_v {t : TypeId} {x k v : LV} (hp : (updateL P h nx t x k v).pre) : (updateL P h nx t x k v).v = .any := by
  unfold updateL at *
  repeat' split at hp
  all_goals first | rfl | exact hp.elim
theorem sto_v {t : TypeId} {a x : LV} (hp : (storeL P h nx t a x).pre) : (storeL P h nx t a x).v = .any := by
  unfold storeL at *
  repeat' split at hp
  all_goals first | rfl | exact hp.elim
theorem load_up {t : TypeId} {a : LV} : (loadL P h t a).up = none := by
  unfold loadL
  repeat' split
  all_goals rfl
theorem load2_up {t : TypeId} {a : LV} : (load2L P h t a).up = none := by
  unfold load2L
  repeat' split
  all_goals first | rfl | exact load_up
omit [Mdl M] in
theorem faddr_up {t : TypeId} {x : LV} {f : Nat} : (faddrL (M := M) P t x f).up = none := by
  unfold faddrL
  repeat' split
  all_goals rfl
omit [Mdl M] in
theorem iaddr_up {t : TypeId} {x i : LV} : (iaddrL (M := M) P t x i).up = none := by
  unfold iaddrL
  repeat' split
  all_goals rfl
omit [Mdl M] in
theorem build_up {t : TypeId} {ps : List (Nat × LV)} : (buildL (M := M) P t ps).up = none := by
  unfold buildL
  repeat' split
  all_goals rfl

theorem opL_ok {ro : Option Nat} {ev : Operand → Value} {ρ : Operand → LV} (hz : ZOK P) (I : Inv B w0 E own h nx w) (hρ : ∀ x, VR E (ρ x) (ev x)) (o : Oper) (hp : (opL P ρ h nx o).pre) :
    Out P B w0 E nx ((opL P ρ h nx o).h h) ((opL P ρ h nx o).nx nx) (opL P ρ h nx o).v (o.semAt ro ev) w := by
  obtain ⟨dst, op, type, pos, after, guard⟩ := o
  rw [Oper.semAt_eq ro ev _ (by intro c hc; simp only at hc; subst hc; exact hp.elim)]
  cases op <;> simp only [opL] at hp ⊢ <;> try exact hp.elim
  case move x => exact ⟨E, own, _, w, .inl rfl, Grow.refl _ E, I, hρ x⟩
  case assign x => exact ⟨E, own, _, w, .inl rfl, Grow.refl _ E, I, hρ x⟩
  case pick c a b =>
    have hc := hρ c
    generalize hq : ρ c = q at hp hc ⊢
    cases q <;> try exact hp.elim
    rename_i y
    generalize hr : ev c = r at hc
    cases hc
    refine ⟨E, own, if y then ev a else ev b, w, .inl (by simp [execOp, hr, asBool]), Grow.refl _ E, I, ?_⟩
    cases y
    · exact hρ b
    · exact hρ a
  case alloc t => exact out_new rfl (allocL_ok I hp)
  case box t x =>
    refine out_new (s := Instr.box t (ev x)) rfl ?_
    obtain ⟨E', own', u, w', hr, hE, hI, hv⟩ := newL_ok (P := P) (t := t) I (hρ x) hp
    exact ⟨E', own', _, w', by simp [Instr.box, hr], hE, hI, hv⟩
  case build t ps =>
    obtain ⟨h1, h2⟩ := pairs_ok hρ ps.toList
    refine out_val (s := Instr.build t (ps.map fun p => (p.1, ev p.2))) I (by simp [execOp]) build_up ?_
    have := buildL_ok (w := w) h1 h2 hp
    rw [arr_map]
    exact this
  case buildSlice t n ps =>
    obtain ⟨h1, h2⟩ := pairs_ok hρ ps.toList
    refine out_new (s := Instr.buildSlice t n (ps.map fun p => (p.1, ev p.2))) (by simp [execOp]) ?_
    have := bsliceL_ok I h1 h2 hp
    rw [arr_map]
    exact this
  case load t a => exact out_val I rfl load2_up (load2L_ok I (hρ a) hp)
  case store t a x => exact out_unit rfl (sto_v hp) (storeL_ok I (hρ a) (hρ x) hp)
  case nilCheck x =>
    have hx := hρ x
    generalize hq : ρ x = q at hp hx ⊢
    cases q <;> try exact hp.elim
    case p =>
      generalize hr : ev x = r at hx
      cases hx
      rename_i he
      exact ⟨E, own, _, w, .inl (by simp [execOp, hr]), Grow.refl _ E, I, .p he⟩
    case f fn a b =>
      cases fn <;> try exact hp.elim
      generalize hr : ev x = r at hx
      cases hx
      rename_i h1 h2
      exact ⟨E, own, _, w, .inl (by simp [execOp, hr]), Grow.refl _ E, I, .f h1 h2⟩
  case binOp op t x y yt => exact out_pv I rfl (eqL_ok (hρ x) (hρ y) hp)
  case unOp op t x => exact out_pv I rfl (unL_ok (hρ x) hp)
  case convert s d x =>
    obtain ⟨u, h1, h2, h3⟩ := conv2L_ok I (hρ x) hp
    exact out_val I rfl h3 ⟨u, h1, h2⟩
  case sliceToArrayPointer t x => exact out_pv I rfl (arrayAtL_ok (hρ x) hp)
  case makeFunc fn a b =>
    refine ⟨E, own, .func fn (a.map ev) (b.map ev), w, .inl rfl, Grow.refl _ E, I, ?_⟩
    rw [arr_map, arr_map]
    exact VR.f (fn := fn) (VRs.map hρ a.toList) (VRs.map hρ b.toList)
  case makeMap t r =>
    cases r with
    | some _ => exact hp.elim
    | none => exact out_new (s := Instr.makeMap t none) rfl (mkmapL_ok I)
  case makeChan t n => exact out_new (s := Instr.makeChan t (ev n)) rfl (mkchanL_ok I (hρ n) hp)
  case makeSlice t l c => exact out_new (s := Instr.makeSlice t (ev l) (ev c)) rfl (mksliceL_ok I (hρ l) (hρ c) hp)
  case slice t x lo hi mx => exact out_pv I rfl (sliceL_ok I (hρ x) (vo_map hρ lo) (vo_map hρ hi) (vo_map hρ mx) hp)
  case fieldAddr t x f => exact out_val I rfl faddr_up (faddrL_ok (hρ x) hp)
  case field t x f => exact out_pv I rfl (fieldL_ok (hρ x) hp)
  case indexAddr t x i => exact out_val I rfl iaddr_up (iaddrL_ok (hρ x) (hρ i) hp)
  case index t x i => exact out_pv I rfl (index2L_ok (hρ x) (hρ i) hp)
  case lookup t x k ok => exact out_pv I rfl (lookupL_ok I (hρ x) (hρ k) hp)
  case mapUpdate t m k v => exact out_unit rfl (upd_v hp) (updateL_ok I (hρ m) (hρ k) (hρ v) hp)
  case insert t m k v => exact out_unit rfl (upd_v hp) (updateL_ok I (hρ m) (hρ k) (hρ v) hp)
  case extract x i => exact out_pv I rfl (extractL_ok (hρ x) hp)
  case call c =>
    obtain ⟨callee, args, argTypes⟩ := c
    cases callee <;> try exact hp.elim
    rename_i b
    simp only at hp ⊢
    have hargs := arr_map ev args
    have htys : argTypes = argTypes.toList.toArray := rfl
    generalize args.toList = al at hp hargs ⊢
    generalize argTypes.toList = tl at hp htys ⊢
    subst htys
    cases b <;> try exact hp.elim
    case len =>
      match al, tl, hp with
      | [x], [t], hp => exact out_pv (s := Builtin.len_ #[t] type #[ev x]) I (by simp [execOp, resolve, invoke, builtin, hargs]) (lenL_ok I (hρ x) hp)
    case append =>
      match al, tl, hp with
      | [s, x], [t, t'], hp =>
        simp only at hp ⊢
        split at hp
        · rename_i ht
          obtain ⟨ht, hts⟩ := ht
          subst ht
          simp only [hts, and_self, if_true]
          refine out_new (s := Builtin.append_ #[t, t] type #[ev s, ev x]) (by simp [execOp, resolve, invoke, builtin, hargs]) (appL_ok (fun i z => hz _ i z hts) I (hρ s) (hρ x) hp)
        · exact hp.elim
    case copy =>
      match al, tl, hp with
      | [d, s], t :: tl, hp =>
        refine out_new (s := Builtin.copy_ (t :: tl).toArray type #[ev d, ev s]) (by simp [execOp, resolve, invoke, builtin, hargs]) ?_
        obtain ⟨own', v, w', h1, h2, h3⟩ := copyL_ok (tys := (t :: tl).toArray) (ty := type) rfl I (hρ d) (hρ s) hp
        exact ⟨E, own', v, w', h1, Grow.refl _ E, h2, h3⟩
    case max =>
      match al, tl, hp with
      | [x, y], tl, hp => exact out_pv (s := Builtin.max_ tl.toArray type #[ev x, ev y]) I (by simp [execOp, resolve, invoke, builtin, hargs]) (maxL_ok (hρ x) (hρ y) hp)
end
end Lx
