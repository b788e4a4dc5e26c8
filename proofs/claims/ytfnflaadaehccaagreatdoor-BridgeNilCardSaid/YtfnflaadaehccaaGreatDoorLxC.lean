/- The engine (LxC): a run of logical values that the kernel evaluates, and why what it says is so. No conditions. -/
import Derived.Test.YtfnflaadaehccaaGreatDoorLxB
set_option linter.unusedSectionVars false
set_option linter.unusedSimpArgs false
set_option linter.unusedVariables false
set_option linter.constructorNameAsVariable false
/- The engine, part 14: a run of concrete values (definitions). -/
namespace Lx
open Go Go.RowKit

/-! ### A run -/
inductive Rz (α : Type) where
  | ok (a : α)
  | no (why : String)
structure St (M : Type) where
  env : List (Nat × LV)
  h : Hp M
  nx : Nat
  nt : Nat
  dfs : List Nat
inductive X where
  | normal
  | exit (id : Nat)
  | goto (l : Nat)
  | ret

/-! values that are alike -/
def beqFn : Fn → Fn → Bool
  | .func g, .func g' => Nat.beq g g'
  | _, _ => false
theorem beqFn_eq {a b : Fn} (h : beqFn a b = true) : a = b := by
  cases a <;> cases b <;> simp only [beqFn, Bool.false_eq_true, Nat.beq_eq] at h
  rw [h]
def beqT : List (Nat × Bool) → List (Nat × Bool) → Bool
  | [], [] => true
  | (a, b) :: l, (a', b') :: r => Nat.beq a a' && (b == b') && beqT l r
  | _, _ => false
theorem beqT_eq : ∀ {x y : List (Nat × Bool)}, beqT x y = true → x = y
  | [], [], _ => rfl
  | (a, b) :: l, (a', b') :: r, h => by
    simp only [beqT, Bool.and_eq_true, Nat.beq_eq, beq_iff_eq] at h
    obtain ⟨⟨rfl, rfl⟩, h⟩ := h
    rw [beqT_eq h]
  | [], _ :: _, h => by cases h
  | _ :: _, [], h => by cases h
mutual
def beqV : LV → LV → Bool
  | .b x, .b x' => x == x'
  | .i k n, .i k' n' => decide (k = k') && decide (n = n')
  | .s x, .s x' => beqs x.data.toList x'.data.toList
  | .np, .np => true
  | .p x1 x2 x3 x4 x5, .p y1 y2 y3 y4 y5 => Nat.beq x1 y1 && Nat.beq x2 y2 && Nat.beq x3 y3 && Nat.beq x4 y4 && Nat.beq x5 y5
  | .ns, .ns => true
  | .sl x1 x2 x3 x4 x5, .sl y1 y2 y3 y4 y5 => Nat.beq x1 y1 && Nat.beq x2 y2 && Nat.beq x3 y3 && Nat.beq x4 y4 && Nat.beq x5 y5
  | .nm, .nm => true
  | .m x, .m x' => Nat.beq x x'
  | .nc, .nc => true
  | .c x, .c x' => Nat.beq x x'
  | .nf, .nf => true
  | .f g l r, .f g' l' r' => beqFn g g' && beqVs l l' && beqVs r r'
  | .y x, .y x' => Nat.beq x x'
  | .t x k l, .t x' k' l' => Nat.beq x x' && Nat.beq k k' && beqT l l'
  | .tl x k l, .tl x' k' l' => Nat.beq x x' && Nat.beq k k' && beqT l l'
  | .agg l, .agg l' => beqVs l l'
  | .tup l, .tup l' => beqVs l l'
  | _, _ => false
def beqVs : List LV → List LV → Bool
  | [], [] => true
  | x :: l, x' :: r => beqV x x' && beqVs l r
  | _, _ => false
end
mutual
theorem beqV_eq : ∀ {x y : LV}, beqV x y = true → x = y
  | x, y, h => by
    cases x <;> cases y <;> simp only [beqV, Bool.and_eq_true, decide_eq_true_eq, Nat.beq_eq, beq_iff_eq, Bool.false_eq_true] at h <;> try rfl
    case b.b => rw [h]
    case i.i => rw [h.1, h.2]
    case s.s a b => rw [beqs_eq, beq_iff_eq] at h; congr 1; exact ByteArray.ext (Array.ext' h)
    case p.p => obtain ⟨⟨⟨⟨rfl, rfl⟩, rfl⟩, rfl⟩, rfl⟩ := h; rfl
    case sl.sl => obtain ⟨⟨⟨⟨rfl, rfl⟩, rfl⟩, rfl⟩, rfl⟩ := h; rfl
    case m.m => rw [h]
    case c.c => rw [h]
    case f.f fn a b fn' a' b' =>
      obtain ⟨⟨h0, h1⟩, h2⟩ := h
      rw [beqFn_eq h0, beqVs_eq h1, beqVs_eq h2]
    case y.y => rw [h]
    case t.t => obtain ⟨⟨rfl, rfl⟩, h⟩ := h; rw [beqT_eq h]
    case tl.tl => obtain ⟨⟨rfl, rfl⟩, h⟩ := h; rw [beqT_eq h]
    case agg.agg => rw [beqVs_eq h]
    case tup.tup => rw [beqVs_eq h]
theorem beqVs_eq : ∀ {x y : List LV}, beqVs x y = true → x = y
  | [], [], _ => rfl
  | _ :: _, _ :: _, h => by
    simp only [beqVs, Bool.and_eq_true] at h
    rw [beqV_eq h.1, beqVs_eq h.2]
  | [], _ :: _, h => by simp [beqVs] at h
  | _ :: _, [], h => by simp [beqVs] at h
end

section
variable {M : Type} [Mdl M]
def evO (env : List (Nat × LV)) : Operand → LV
  | .tmp t => aget env t
  | .const v => ofValue v
  | .global _ => .any
  | .func f => .f (.func f) [] []
def wantedL (ops : Array Oper) (env : List (Nat × LV)) (o : Oper) : Option Bool :=
  match o.guard with
  | none => some true
  | some (g, want) => match (ops[g]?).bind (·.dst) with
    | some d => match aget env d with | .b x => some (x == want) | _ => none
    | none => none
def putL (nt : Nat) (env : List (Nat × LV)) (dst : Option Nat) (v : LV) : List (Nat × LV) :=
  match dst with | some d => bif Nat.blt d nt then (d, v) :: env else env | none => env

abbrev CallF (M : Type) := Nat → List LV → Hp M → Nat → Rz (LV × Hp M × Nat)

/-- what an operation comes to -/
def stepO (P : Program) (call yield : CallF M) (env : List (Nat × LV)) (h : Hp M) (nx : Nat) (o : Oper) : Rz (LV × Hp M × Nat) :=
  match o.op with
  | .call { callee := .value f, args, argTypes := _ } =>
    match evO env f with
    | .f (.func g) first cap => call g (first ++ args.toList.map (evO env) ++ cap) h nx
    | .y id => yield id (args.toList.map (evO env)) h nx
    | _ => .no ("call " ++ o.pos)
  | _ =>
    let e := opL P (evO env) h nx o
    if e.pre then .ok (e.v, e.h h, e.nx nx) else .no o.pos

def runOps (P : Program) (call yield : CallF M) (ops : Array Oper) : List Oper → St M → Rz (St M)
  | [], s => .ok s
  | o :: r, s => match wantedL ops s.env o with
    | some true => match stepO P call yield s.env s.h s.nx o with
      | .ok (v, h, nx) => runOps P call yield ops r { s with env := putL s.nt s.env o.dst v, h := h, nx := nx }
      | .no w => .no w
    | some false => runOps P call yield ops r { s with env := putL s.nt s.env o.dst .any }
    | none => .no ("guard " ++ o.pos)

/-! regions that draw their order -/
def maskO (prev : List Nat) (o : Oper) : Nat := o.after.toList.foldl (fun s e => bif Region.binds .any e then s ||| 2 ^ e.on ||| prev.getD e.on 0 else s) 0
def masks : List Oper → List Nat → List Nat
  | [], prev => prev
  | o :: r, prev => masks r (prev ++ [maskO prev o])
/-- does it read or write no memory? -/
def still : Op → Bool
  | .move _ | .assign _ | .pick .. | .build .. | .nilCheck _ | .binOp .. | .unOp .. | .makeFunc .. | .fieldAddr .. | .field .. | .indexAddr .. | .index .. | .extract .. | .sliceToArrayPointer .. => true
  | _ => false
def calls : Op → Bool
  | .call { callee := .value _, .. } => true
  | _ => false
def isAlloc : Op → Option TypeId
  | .alloc t => some t
  | _ => none
inductive Kd where
  | off
  | still
  | reads
  | float (t : TypeId) (cs : List LV)
  | upd
/-- one operation of a canonical run: its kind, its value, the temporaries ahead of it -/
structure Rec where
  kd : Kd
  v : LV
  env : List (Nat × LV)
  o : Oper
  mask : Nat
/-- pending variables that an operation knows of -/
def joinF (mask : Nat) : List (Nat × Nat × TypeId × List LV) → Hp M → Hp M
  | [], h => h
  | (i, r, t, cs) :: fl, h => bif mask.testBit i then (r, .st t cs) :: joinF mask fl h else joinF mask fl h
def leftF (mask : Nat) : List (Nat × Nat × TypeId × List LV) → List (Nat × Nat × TypeId × List LV)
  | [] => []
  | (i, r, t, cs) :: fl => bif mask.testBit i then leftF mask fl else (i, r, t, cs) :: leftF mask fl
/-- a state of memory on the way: which updates have run, what is pending -/
structure Stage (M : Type) where
  h : Hp M
  nx : Nat
  /-- the updates so far, and all that they wait for -/
  past : Nat
  last : Nat
  n : Nat
  /-- variables that are new, and that no update has met: operation, name, type, cells -/
  fl : List (Nat × Nat × TypeId × List LV)

/-- a run in the order of the text: what each operation comes to; the stages -/
def drawGo (P : Program) (call yield : CallF M) (ops : Array Oper) (nt base : Nat) :
    List Oper → List Nat → Nat → List (Nat × LV) → Stage M → Rz (List Rec × List (Stage M) × List (Nat × LV))
  | o :: r, mask :: ms, i, env, sg =>
    bif Nat.blt mask (2 ^ i) then
    match wantedL ops env o with
    | none => .no ("guard " ++ o.pos)
    | some false => match drawGo P call yield ops nt base r ms (i + 1) (putL nt env o.dst .any) sg with
      | .ok (recs, sgs, env') => .ok (⟨.off, .any, env, o, mask⟩ :: recs, sgs, env')
      | .no w => .no w
    | some true =>
      match isAlloc o.op with
      | some t => match zcells P t with
        | some cs =>
          bif cs.all LV.one && Nat.blt 0 cs.length then
            match drawGo P call yield ops nt base r ms (i + 1) (putL nt env o.dst (.p (base + i) 0 1 0 0)) { sg with fl := (i, base + i, t, cs) :: sg.fl } with
            | .ok (recs, sgs, env') => .ok (⟨.float t cs, .p (base + i) 0 1 0 0, env, o, mask⟩ :: recs, sgs, env')
            | .no w => .no w
          else .no "alloc"
        | none => .no "alloc"
      | none =>
        match stepO P call yield env (joinF mask sg.fl sg.h) sg.nx o with
        | .no w => .no w
        | .ok (v, h, nx) =>
          bif calls o.op || (opL P (evO env) (joinF mask sg.fl sg.h) sg.nx o).up.isSome then
            bif (sg.n == 0) || mask.testBit sg.last then
              match drawGo P call yield ops nt base r ms (i + 1) (putL nt env o.dst v) ⟨h, nx, sg.past ||| mask ||| 2 ^ i, i, sg.n + 1, leftF mask sg.fl⟩ with
              | .ok (recs, sgs, env') => .ok (⟨.upd, v, env, o, mask⟩ :: recs, sg :: sgs, env')
              | .no w => .no w
            else .no ("order " ++ o.pos)
          else
            match drawGo P call yield ops nt base r ms (i + 1) (putL nt env o.dst v) sg with
            | .ok (recs, sgs, env') => .ok (⟨bif still o.op then .still else .reads, v, env, o, mask⟩ :: recs, sgs, env')
            | .no w => .no w
    else .no "mask"
  | [], _, _, env, sg => .ok ([], [sg], env)
  | _ :: _, [], _, _, _ => .no "masks"

/-- may the operation i, of ancestors 'mask', run at this stage (no update that waits for it has run; none that it waits for is to come)? 'later': the updates to come -/
def mayRun (i mask : Nat) (past later : Nat) : Bool := !(past.testBit i) && Nat.beq (mask &&& later) 0
/-- the updates behind the first stage of a list -/
def laterOf : List (Stage M) → Nat
  | [] => 0
  | x :: r => 2 ^ x.last ||| laterOf r
/-- a reading operation reads the same at every stage at which it may run -/
def readsOk (P : Program) (i : Nat) (rc : Rec) : List (Stage M) → Bool
  | [] => true
  | x :: r =>
    (bif mayRun i rc.mask x.past (laterOf r) then
      let e := opL P (evO rc.env) (joinF rc.mask x.fl x.h) x.nx rc.o
      decide e.pre && e.up.isNone && beqV e.v rc.v
    else true) && readsOk P i rc r
def allReads (P : Program) (sgs : List (Stage M)) : List Rec → Nat → Bool
  | [], _ => true
  | rc :: r, i => (match rc.kd with | .reads => readsOk P i rc sgs | _ => true) && allReads P sgs r (i + 1)
/-- each temporary is written once, and read by none but those that wait for its writer -/
def writersOk (ops : List Oper) (ms : List Nat) : Bool :=
  let W : List (Nat × Nat) := (ops.zipIdx).filterMap fun (o, i) => o.dst.map fun d => (d, i)
  (ops.zip ms).zipIdx.all fun x =>
    W.all fun w =>
      (bif x.1.1.dst == some w.1 then Nat.beq x.2 w.2 else true) &&
      (bif (x.1.1.looksAt ops.toArray).contains w.1 then x.1.2.testBit w.2 else true)
/-- no stage has a variable under a name that is kept for another one -/
def clearF (base : Nat) (x : Stage M) : List Rec → Nat → Bool
  | [], _ => true
  | rc :: r, j => (match rc.kd with | .float _ _ => x.past.testBit j || (hget x.h (base + j)).isNone | _ => true) && clearF base x r (j + 1)
def clears (base : Nat) (recs : List Rec) : List (Stage M) → Bool
  | [] => true
  | x :: r => clearF base x recs 0 && clears base recs r
def lastSt (sg : Stage M) : List (Stage M) → Stage M
  | [] => sg
  | x :: r => lastSt x r
def runDraw (P : Program) (call yield : CallF M) (ops : Array Oper) (s : St M) : Rz (St M) :=
  let l := ops.toList
  let ms := masks l []
  bif writersOk l ms then
    match drawGo P call yield ops s.nt s.nx l ms 0 s.env ⟨s.h, s.nx + l.length, 0, 0, 0, []⟩ with
    | .ok (recs, sgs, env) =>
      bif allReads P sgs recs 0 && clears s.nx recs sgs then
        let sg := lastSt ⟨s.h, s.nx + l.length, 0, 0, 0, []⟩ sgs
        .ok { s with env := env, h := joinF (2 ^ l.length - 1) sg.fl sg.h, nx := sg.nx }
      else .no "reads"
    | .no w => .no w
  else .no "writers"

/-! a call -/
def argsE : List LV → Nat → List (Nat × LV)
  | [], _ => []
  | x :: r, i => (i, x) :: argsE r (i + 1)
def resL (P : Program) (env : List (Nat × LV)) (h : Hp M) : List ResultVar → Option (List LV)
  | [] => some []
  | .tmp t :: r => (resL P env h r).map (aget env t :: ·)
  | .cell a t :: r => if (loadL P h t (aget env a)).pre then (resL P env h r).map ((loadL P h t (aget env a)).v :: ·) else none
def oneL : List LV → LV
  | [x] => x
  | l => .tup l
def setPs (nt : Nat) (env : List (Nat × LV)) : List Nat → List LV → List (Nat × LV)
  | p :: ps, a :: as => setPs nt (putL nt env (some p) a) ps as
  | _, _ => env
def dropDf : List Nat → Hp M → Option (Hp M)
  | [], h => some h
  | d :: r, h => match hget h d with
    | some .df => dropDf r (hdel h d)
    | _ => none

/-- calls that go by a contract -/
abbrev Ov (M : Type) := Nat → List LV → Hp M → Nat → Option (LV × Hp M × Nat)
abbrev RunF (M : Type) := Option Nat → Code → St M → Rz (X × St M)
def callR (P : Program) (FT : Nat → Option Func) (ov : Ov M) (run : RunF M) : CallF M := fun g args h nx =>
  match ov g args h nx with
  | some r => .ok r
  | none =>
  match FT g with
  | some fn => match fn.body with
    | some c =>
      bif Nat.ble args.length fn.ntmps then
        match run none c ⟨argsE args 0, h, nx, fn.ntmps, []⟩ with
        | .ok (x, s') =>
          match x with
          | .normal | .ret => match dropDf s'.dfs s'.h with
            | some h' => match resL P s'.env h' fn.results.toList with
              | some l => .ok (oneL l, h', s'.nx)
              | none => .no "results"
            | none => .no "defers"
          | _ => .no "jump"
        | .no w => .no w
      else .no "arguments"
    | none => .no ("extern " ++ fn.name)
  | none => .no "function"
def jumpOf : X → Option Code
  | .normal => none
  | .ret => some .ret
  | .exit k => some (.exit k)
  | .goto k => some (.goto k)
def yieldR (run : RunF M) : CallF M := fun id args h nx =>
  match hget h id with
  | some (.lp l) =>
    bif l.st == .ready && Nat.beq args.length l.ps.size then
      match run (some id) l.assign ⟨setPs l.nt l.env l.ps.toList args, h, nx, l.nt, []⟩ with
      | .ok (x, s1) =>
        match x with
        | .normal =>
          match hget s1.h id with
          | some (.lp l1) =>
            bif l1.st == .ready then
              match run (some id) l.body { s1 with h := hset s1.h id (.lp { l1 with st := .busy }) } with
              | .ok (x, s2) =>
                match hget s2.h id with
                | some (.lp l2) =>
                  .ok (.b (jumpOf x).isNone, hset s2.h id (.lp { l2 with st := if (jumpOf x).isNone then .ready else .done, pend := jumpOf x }), s2.nx)
                | _ => .no "loop gone"
              | .no w => .no w
            else .no "loop"
          | _ => .no "loop gone"
        | _ => .no "assign"
      | .no w => .no w
    else .no "loop not ready"
  | _ => .no "no loop"
def backOf : Option Code → Option X
  | none => some .normal
  | some .ret => some .ret
  | some (.exit k) => some (.exit k)
  | _ => none

/-- one level of a run -/
def runStep (P : Program) (FT : Nat → Option Func) (ov : Ov M) (run : RunF M) (ro : Option Nat) (c : Code) (s : St M) : Rz (X × St M) :=
  match c with
  | .skip => .ok (.normal, s)
  | .label _ => .ok (.normal, s)
  | .region _ ops draw =>
    match (bif draw then runDraw P (callR P FT ov run) (yieldR run) ops s else runOps P (callR P FT ov run) (yieldR run) ops ops.toList s) with
    | .ok s' => .ok (.normal, s')
    | .no w => .no w
  | .seq a b => match run ro a s with
    | .ok (.normal, s') => run ro b s'
    | r => r
  | .cond x a b => match evO s.env x with
    | .b true => run ro a s
    | .b false => run ro b s
    | _ => .no "cond"
  | .block id b => match run ro b s with
    | .ok (.exit k, s') => bif Nat.beq k id then .ok (.normal, s') else .ok (.exit k, s')
    | r => r
  | .loop b => match run ro b s with
    | .ok (.normal, s') => run ro (.loop b) s'
    | r => r
  | .exit id => .ok (.exit id, s)
  | .goto l => .ok (.goto l, s)
  | .ret => .ok (.ret, s)
  | .rangeFunc g ps assign body =>
    match ro with
    | some _ => .no "nested range"
    | none =>
      match evO s.env g with
      | .f (.func f) first cap =>
        let id := s.nx + 1
        let l : Lp := { st := .ready, pend := none, env := s.env, nt := s.nt, ps := ps, assign := assign, body := body, df := s.nx }
        match callR P FT ov run f (first ++ [.y id] ++ cap) ((id, .lp l) :: (s.nx, .df) :: s.h) (s.nx + 2) with
        | .ok (_, h, nx) =>
          match hget h id with
          | some (.lp l2) =>
            bif l2.st == .busy then .no "busy" else
            match backOf l2.pend with
            | some x => .ok (x, ⟨s.env, hdel h id, nx, s.nt, s.nx :: s.dfs⟩)
            | none => .no "jump"
          | _ => .no "loop gone"
        | .no w => .no w
      | _ => .no "range"
  | .scope _ => .no "scope"
  | .refuse w => .no w

def run (P : Program) (FT : Nat → Option Func) (ov : Ov M) (fuel : Nat) : Option Nat → Code → St M → Rz (X × St M) :=
  Nat.rec (motive := fun _ => Option Nat → Code → St M → Rz (X × St M)) (fun _ _ _ => .no "fuel") (fun _ ih => runStep P FT ov ih) fuel
end
end Lx

/- The engine, part 15: what a run says is so (all but regions that draw). -/
namespace Lx
open Go Go.RowKit

def Wd (ro : Option Nat) : Fence := { Fence.wide with round := ro }
theorem Wd_fn (ro : Option Nat) (f : FuncId) : (Wd ro).fn f := trivial
theorem Wd_room (ro : Option Nat) (n : Nat) : (Wd ro).room n := fun _ h => by simp [Wd, Fence.wide] at h
theorem Wd_depth (ro : Option Nat) (n : Nat) : (Wd ro).depth.isSome = true → 1 ≤ n := by simp [Wd, Fence.wide]

def exitOf : X → Exit
  | .normal => .normal
  | .exit id => .exit id
  | .goto l => .goto l
  | .ret => .ret

/-- the marks of blocks of deferred calls -/
def DR (E : Env) : List Nat → List Deferred → Prop
  | [], ds => ds = []
  | d :: r, ds => ∃ e rest, E d = some e ∧ ds = { target := .collected (e.blk 0), args := #[] } :: rest ∧ DR E r rest
theorem DR.ext {E E' : Env} (h : Ext E E') : ∀ {l : List Nat} {ds : List Deferred}, DR E l ds → DR E' l ds
  | [], _, k => k
  | _ :: _, _, ⟨e, rest, h1, h2, h3⟩ => ⟨e, rest, h _ _ h1, h2, h3.ext h⟩
def RO (E : Env) : Option Nat → Option Nat → Prop
  | none, l => l = none
  | some id, l => ∃ e, E id = some e ∧ l = some (e.blk 0)
theorem RO.ext {E E' : Env} (h : Ext E E') {ro lr : Option Nat} (k : RO E ro lr) : RO E' ro lr := by
  cases ro with
  | none => exact k
  | some id => obtain ⟨e, h1, h2⟩ := k; exact ⟨e, h _ _ h1, h2⟩

theorem evO_ok {E : Env} {env : List (Nat × LV)} {nt : Nat} {a : Act} (T : TR E env nt a.tmps) (x : Operand) : VR E (evO env x) (a.eval x) := by
  cases x with
  | tmp t =>
    rcases T.2 t with h | ⟨v, h1, h2⟩
    · simp only [evO, h]; exact .any
    · simp only [evO, Act.eval]
      rw [Array.getD_eq_getD_getElem?, h1]
      exact h2
  | const v => exact ofValue_ok E v
  | global g => exact .any
  | func f => exact .f .nil .nil

theorem TR.put {E : Env} {env : List (Nat × LV)} {nt : Nat} {tmps : Array Value} (T : TR E env nt tmps) (d : Nat) {x : LV} {v : Value} (hv : VR E x v) :
    TR E (putL nt env (some d) x) nt (tmps.setIfInBounds d v) := by
  refine ⟨by simp [T.1], fun t => ?_⟩
  simp only [putL]
  by_cases hd : d < nt
  · rw [show Nat.blt d nt = true from by simpa using hd]
    simp only [cond_true, aget]
    by_cases ht : d = t
    · subst ht
      rw [show Nat.beq d d = true from by simp]
      simp only [cond_true]
      exact .inr ⟨v, by rw [Array.getElem?_setIfInBounds_self_of_lt (by rw [T.1]; exact hd)], hv⟩
    · rw [show Nat.beq d t = false from by rw [Bool.eq_false_iff]; intro h; exact ht (Nat.eq_of_beq_eq_true h)]
      simp only [cond_false]
      rw [Array.getElem?_setIfInBounds_ne ht]
      exact T.2 t
  · rw [show Nat.blt d nt = false from by rw [Bool.eq_false_iff, Ne, Nat.blt_eq]; exact hd]
    simp only [cond_false]
    rcases T.2 t with h | ⟨u, h1, h2⟩
    · exact .inl h
    · refine .inr ⟨u, ?_, h2⟩
      have htl := (Array.getElem?_eq_some_iff.1 h1).1
      rw [Array.getElem?_setIfInBounds_ne (by rw [T.1] at htl; omega)]
      exact h1
theorem TR.putO {E : Env} {env : List (Nat × LV)} {nt : Nat} {a : Act} (T : TR E env nt a.tmps) (dst : Option Nat) {x : LV} {v : Value} (hv : VR E x v) :
    TR E (putL nt env dst x) nt (a.put dst v).tmps := by
  cases dst with
  | none => exact T
  | some d => exact T.put d hv
theorem put_defers' (a : Act) (dst : Option Nat) (v : Value) : (a.put dst v).defers = a.defers := by cases dst <;> rfl

theorem wantedL_ok {E : Env} {env : List (Nat × LV)} {nt : Nat} {a : Act} {ops : Array Oper} {o : Oper} {b : Bool} (T : TR E env nt a.tmps) (h : wantedL ops env o = some b) : Region.wanted o (yielded ops a.tmps) = b := by
  unfold wantedL at h
  unfold Region.wanted
  cases hg : o.guard with
  | none => rw [hg] at h; cases h; rfl
  | some gw =>
    obtain ⟨g, want⟩ := gw
    rw [hg] at h
    simp only at h ⊢
    cases hd : (ops[g]?).bind (·.dst) with
    | none => rw [hd] at h; cases h
    | some d =>
      rw [hd] at h
      simp only at h
      cases hx : aget env d <;> rw [hx] at h <;> try (cases h; done)
      rename_i x
      rcases T.2 d with hn | ⟨v, h1, h2⟩
      · rw [hx] at hn; cases hn
      · rw [hx] at h2
        cases h2
        cases h
        simp only [yielded, hd, Option.bind_some, h1]
        cases x <;> cases want <;> rfl

section
variable {M : Type} [Mdl M] {P : Program}

/-! the next free name only grows -/
theorem bad_nx (nx : Nat) : nx ≤ (bad (M := M)).nx nx := Nat.le_refl _
theorem up_nx {p : Prop} {d : Decidable p} {v : LV} {h : Hp M} {k nx : Nat} {f : List Nat} (hk : nx ≤ k) : nx ≤ ({ pre := p, dec := d, v := v, up := some (h, k), foot := f } : Eff M).nx nx := hk
theorem no_nx {p : Prop} {d : Decidable p} {v : LV} {nx : Nat} {f : List Nat} : nx ≤ ({ pre := p, dec := d, v := v, up := none, foot := f } : Eff M).nx nx := Nat.le_refl _
theorem ofPV_nx (x : PV) (nx : Nat) : nx ≤ (ofPV x : Eff M).nx nx := Nat.le_refl _
theorem nx_of_up {e : Eff M} {nx : Nat} (h : e.up = none) : nx ≤ e.nx nx := by simp [Eff.nx, h]
theorem storeL_nx {h : Hp M} {nx : Nat} {t : TypeId} {a x : LV} : nx ≤ (storeL P h nx t a x).nx nx := by
  unfold storeL
  repeat' split
  all_goals first | exact up_nx (Nat.le_refl _) | exact bad_nx _
theorem newL_nx {h : Hp M} {nx : Nat} {t : TypeId} {cs : List LV} : nx ≤ (newL h nx t cs).nx nx := up_nx (Nat.le_succ _)
theorem allocL_nx {h : Hp M} {nx : Nat} {t : TypeId} : nx ≤ (allocL P h nx t).nx nx := by
  unfold allocL
  split
  · exact newL_nx
  · exact bad_nx _
theorem bsliceL_nx {h : Hp M} {nx n : Nat} {t : TypeId} {ps : List (Nat × LV)} : nx ≤ (bsliceL P h nx t n ps).nx nx := by
  unfold bsliceL
  repeat' split
  all_goals first | exact up_nx (Nat.le_succ _) | exact bad_nx _
theorem appL_nx {h : Hp M} {nx : Nat} {t : TypeId} {s x : LV} : nx ≤ (appL P h nx t s x).nx nx := by
  unfold appL
  repeat' split
  all_goals first | exact up_nx (Nat.le_succ _) | exact bad_nx _
theorem updateL_nx {h : Hp M} {nx : Nat} {t : TypeId} {x k v : LV} : nx ≤ (updateL P h nx t x k v).nx nx := by
  unfold updateL
  repeat' split
  all_goals first | exact up_nx (Nat.le_refl _) | exact bad_nx _
theorem putRows_nx {h : Hp M} {nx : Nat} {x v : LV} {rows : List (List LV)} : nx ≤ (putRows h nx x rows v).nx nx := by
  unfold putRows
  repeat' split
  all_goals first | exact up_nx (Nat.le_refl _) | exact bad_nx _
theorem copyL_nx {h : Hp M} {nx : Nat} {t : TypeId} {d s : LV} : nx ≤ (copyL P h nx t d s).nx nx := by
  unfold copyL
  repeat' split
  all_goals first | exact putRows_nx | exact no_nx | exact bad_nx _
theorem conv2L_up {h : Hp M} {s d : TypeId} {x : LV} : (conv2L P h s d x).up = none := by
  unfold conv2L
  repeat' split
  all_goals rfl
theorem mksliceL_nx {h : Hp M} {nx : Nat} {t : TypeId} {l c : LV} : nx ≤ (mksliceL P h nx t l c).nx nx := by
  unfold mksliceL
  repeat' split
  all_goals first | exact up_nx (Nat.le_succ _) | exact bad_nx _
theorem mkchanL_nx {h : Hp M} {nx : Nat} {t : TypeId} {l : LV} : nx ≤ (mkchanL P h nx t l).nx nx := by
  unfold mkchanL
  repeat' split
  all_goals first | exact up_nx (Nat.le_succ _) | exact bad_nx _
theorem opL_nx {ρ : Operand → LV} {h : Hp M} {nx : Nat} {o : Oper} : nx ≤ (opL P ρ h nx o).nx nx := by
  obtain ⟨dst, op, type, pos, after, guard⟩ := o
  cases op <;> simp only [opL] <;> try exact bad_nx _
  case move => exact no_nx
  case assign => exact no_nx
  case pick => split <;> first | exact no_nx | exact bad_nx _
  case alloc => exact allocL_nx
  case box => exact newL_nx
  case build => exact nx_of_up build_up
  case buildSlice => exact bsliceL_nx
  case load => exact nx_of_up load2_up
  case store => exact storeL_nx
  case nilCheck => split <;> first | exact no_nx | exact bad_nx _
  case binOp => exact ofPV_nx _ _
  case unOp => exact ofPV_nx _ _
  case convert => exact nx_of_up conv2L_up
  case sliceToArrayPointer => exact ofPV_nx _ _
  case makeFunc => exact no_nx
  case makeMap t r => cases r <;> first | exact up_nx (Nat.le_succ _) | exact bad_nx _
  case makeSlice => exact mksliceL_nx
  case makeChan => exact mkchanL_nx
  case slice => exact ofPV_nx _ _
  case fieldAddr => exact nx_of_up faddr_up
  case field => exact ofPV_nx _ _
  case indexAddr => exact nx_of_up iaddr_up
  case index => exact ofPV_nx _ _
  case lookup => exact ofPV_nx _ _
  case mapUpdate => exact updateL_nx
  case insert => exact updateL_nx
  case extract => exact ofPV_nx _ _
  case call c =>
    obtain ⟨callee, args, argTypes⟩ := c
    cases callee <;> try exact bad_nx _
    rename_i b
    simp only
    repeat' split
    all_goals first | exact ofPV_nx _ _ | exact appL_nx | exact copyL_nx | exact bad_nx _

/-- a call that the run makes -/
def CallOK (P : Program) (call : CallF M) : Prop := ∀ g args h nx v h' nx', call g args h nx = .ok (v, h', nx') → nx ≤ nx' ∧
  ∀ B w0 E own w vs, Inv B w0 E own h nx w → VRs E args vs → (∀ W : World, (callFunc g vs.toArray).run P W = .ok (.enter g vs.toArray) W) ∧
    ∀ lr n R, (∀ E' own' u w', Grow nx E E' → Inv B w0 E' own' h' nx' w' → VR E' v u → R (.returned u) w') → CallsIn (Wd lr) n P g vs.toArray w R
def YieldOK (P : Program) (yield : CallF M) : Prop := ∀ id args h nx v h' nx', yield id args h nx = .ok (v, h', nx') → nx ≤ nx' ∧
  ∀ B w0 E own w vs e, Inv B w0 E own h nx w → E id = some e → VRs E args vs → ∃ f tmps assign body,
    (Instr.yield (e.blk 0) vs.toArray).run P w = .ok (.round (e.blk 0) f tmps assign body) w ∧
    ∀ lr n R, (∀ E' own' u w', Grow nx E E' → Inv B w0 E' own' h' nx' w' → VR E' v u → R (.returned u) w') → RoundIn (Wd lr) n P (e.blk 0) f tmps assign body w R

theorem stepO_ok {call yield : CallF M} (hz : ZOK P) (hc : CallOK P call) (hy : YieldOK P yield) {env : List (Nat × LV)} {h h' : Hp M} {nx nx' : Nat} {o : Oper} {v : LV} (hs : stepO P call yield env h nx o = .ok (v, h', nx')) :
    nx ≤ nx' ∧
    ∀ B w0 E own a w nt lr n next Q, Inv B w0 E own h nx w → TR E env nt a.tmps →
      (∀ E' own' u w', Grow nx E E' → Inv B w0 E' own' h' nx' w' → VR E' v u → next (a.put o.dst u) w') → o.wpIn (Wd lr) n P a w next Q := by
  have rest : (if (opL P (evO env) h nx o).pre then Rz.ok ((opL P (evO env) h nx o).v, (opL P (evO env) h nx o).h h, (opL P (evO env) h nx o).nx nx) else Rz.no o.pos) = .ok (v, h', nx') →
      nx ≤ nx' ∧
      ∀ B w0 E own a w nt lr n next Q, Inv B w0 E own h nx w → TR E env nt a.tmps →
        (∀ E' own' u w', Grow nx E E' → Inv B w0 E' own' h' nx' w' → VR E' v u → next (a.put o.dst u) w') → o.wpIn (Wd lr) n P a w next Q := by
    intro hs
    split at hs
    · rename_i hp
      cases hs
      refine ⟨opL_nx, fun B w0 E own a w nt lr n next Q I T hn => ⟨fun _ _ => trivial, ?_⟩⟩
      obtain ⟨E', own', u, w', hr, hE, hI, hv⟩ := opL_ok (ro := (Wd lr).round) hz I (evO_ok T) o hp
      rcases hr with hr | ⟨hr, rfl⟩
      · rw [hr, Oper.uponIn_value]; exact hn E' own' u w' hE hI hv
      · rw [hr, Oper.uponIn_skip]; exact hn E' own' _ w' hE hI hv
    · cases hs
  obtain ⟨dst, op, type, pos, after, guard⟩ := o
  cases op <;> try exact rest hs
  case call c =>
    obtain ⟨callee, args, argTypes⟩ := c
    cases callee <;> try exact rest hs
    rename_i f
    simp only [stepO] at hs
    cases hf : evO env f <;> rw [hf] at hs <;> try (cases hs; done)
    case f fn first cap =>
      cases fn <;> try (cases hs; done)
      rename_i g
      simp only at hs
      obtain ⟨hnx, hcall⟩ := hc _ _ _ _ _ _ _ hs
      refine ⟨hnx, fun B w0 E own a w nt lr n next Q I T hn => ⟨fun _ _ => trivial, ?_⟩⟩
      have hvf := evO_ok T f
      rw [hf] at hvf
      generalize hef : a.eval f = vf at hvf
      cases hvf
      rename_i vs ws h1 h2
      have hargs : VRs E (first ++ args.toList.map (evO env) ++ cap) (vs ++ args.toList.map a.eval ++ ws) := (h1.append (VRs.map (evO_ok T) args.toList)).append h2
      obtain ⟨henter, hcalls⟩ := hcall B w0 E own w _ I hargs
      have hrun : (Oper.semAt (Wd lr).round a.eval { dst := dst, op := .call { callee := .value f, args := args, argTypes := argTypes }, type := type, pos := pos, after := after, guard := guard }).run P w =
          .ok (.enter g (vs ++ args.toList.map a.eval ++ ws).toArray) w := by
        rw [Oper.semAt_eq _ _ _ (by intro c hc; cases hc)]
        have e1 : vs.toArray ++ args.map a.eval ++ ws.toArray = (vs ++ args.toList.map a.eval ++ ws).toArray := by apply Array.ext'; simp
        simp only [execOp, resolve, hef, Deferred.ofValue, Sem.run_bind, Sem.run_pure, Result.andThen_ok, invoke, e1]
        exact henter w
      rw [hrun, Oper.uponIn_enter]
      exact ⟨Wd_depth _ _, hcalls lr _ _ fun E' own' u w' hE hI hv => hn E' own' u w' hE hI hv⟩
    case y id =>
      simp only at hs
      obtain ⟨hnx, hyield⟩ := hy _ _ _ _ _ _ _ hs
      refine ⟨hnx, fun B w0 E own a w nt lr n next Q I T hn => ⟨fun _ _ => trivial, ?_⟩⟩
      have hvf := evO_ok T f
      rw [hf] at hvf
      generalize hef : a.eval f = vf at hvf
      cases hvf
      rename_i e he
      obtain ⟨f', tmps, assign, body, hrun', hround⟩ := hyield B w0 E own w _ e I he (VRs.map (evO_ok T) args.toList)
      have hrun : (Oper.semAt (Wd lr).round a.eval { dst := dst, op := .call { callee := .value f, args := args, argTypes := argTypes }, type := type, pos := pos, after := after, guard := guard }).run P w =
          .ok (.round (e.blk 0) f' tmps assign body) w := by
        rw [Oper.semAt_eq _ _ _ (by intro c hc; cases hc)]
        have e1 : #[] ++ args.map a.eval ++ #[] = (args.toList.map a.eval).toArray := by apply Array.ext'; simp
        have e2 : #[] ++ args.map a.eval = (args.toList.map a.eval).toArray := by apply Array.ext'; simp
        simp only [execOp, resolve, hef, Deferred.ofValue, Sem.run_bind, Sem.run_pure, Result.andThen_ok, invoke, e2]
        exact hrun'
      rw [hrun, Oper.uponIn_round]
      exact ⟨Wd_depth _ _, hround lr _ _ fun E' own' u w' hE hI hv => hn E' own' u w' hE hI hv⟩
end
end Lx

/- The engine, part 16: regions, calls, rounds. -/
namespace Lx
open Go Go.RowKit

section
variable {M : Type} [Mdl M] {P : Program}

theorem runOps_ok {call yield : CallF M} (hz : ZOK P) (hc : CallOK P call) (hy : YieldOK P yield) (ops : Array Oper) : ∀ (l : List Oper) (i : Nat) (s s' : St M), runOps P call yield ops l s = .ok s' → (∀ j, j < l.length → ops[i + j]? = l[j]?) →
    s.nx ≤ s'.nx ∧ s'.nt = s.nt ∧ s'.dfs = s.dfs ∧
    ∀ B w0 E own a w lr n Q, Inv B w0 E own s.h s.nx w → TR E s.env s.nt a.tmps →
      (∀ E' own' a' w', Grow s.nx E E' → Inv B w0 E' own' s'.h s'.nx w' → TR E' s'.env s.nt a'.tmps → a'.defers = a.defers → Q .normal a' w') →
      wpOpsIn (Wd lr) n P ops Q (List.range' i l.length) a w
  | [], i, s, s', h, _ => by
    cases h
    exact ⟨Nat.le_refl _, rfl, rfl, fun B w0 E own a w lr n Q I T hQ => hQ E own a w (Grow.refl _ E) I T rfl⟩
  | o :: l, i, s, s', h, hl => by
    simp only [runOps] at h
    have ho : ops[i]? = some o := by simpa using hl 0 (by simp)
    have hl' : ∀ j, j < l.length → ops[i + 1 + j]? = l[j]? := fun j hj => by
      have := hl (j + 1) (by simpa using hj)
      rw [show i + 1 + j = i + (j + 1) by omega, this]; rfl
    cases hw : wantedL ops s.env o with
    | none => rw [hw] at h; cases h
    | some b =>
      rw [hw] at h
      cases b with
      | true =>
        simp only at h
        cases hs : stepO P call yield s.env s.h s.nx o with
        | no w => rw [hs] at h; cases h
        | ok x =>
          obtain ⟨v, h1, nx1⟩ := x
          rw [hs] at h
          simp only at h
          obtain ⟨hn, hstep⟩ := stepO_ok hz hc hy hs
          obtain ⟨ih1, ih2, ih3, ih⟩ := runOps_ok hz hc hy ops l (i + 1) _ s' h hl'
          refine ⟨Nat.le_trans hn ih1, ih2, ih3, fun B w0 E own a w lr n Q I T hQ => ?_⟩
          simp only [List.length_cons, List.range'_succ, wpOpsIn, ho]
          rw [wantedL_ok T hw]
          simp only [if_true]
          refine hstep B w0 E own a w s.nt lr n _ Q I T fun E' own' u w' hE hI hv => ?_
          exact ih B w0 E' own' _ w' lr n Q hI ((T.ext hE.2).putO o.dst hv) fun E2 own2 a2 w2 hE2 hI2 hT2 hd => hQ E2 own2 a2 w2 (hE.trans hE2 hn) hI2 hT2 (hd.trans (put_defers' _ _ _))
      | false =>
        simp only at h
        obtain ⟨ih1, ih2, ih3, ih⟩ := runOps_ok hz hc hy ops l (i + 1) _ s' h hl'
        refine ⟨ih1, ih2, ih3, fun B w0 E own a w lr n Q I T hQ => ?_⟩
        simp only [List.length_cons, List.range'_succ, wpOpsIn, ho]
        rw [wantedL_ok T hw]
        simp only [Bool.false_eq_true, if_false]
        exact ⟨fun _ _ => trivial, ih B w0 E own _ w lr n Q I (T.putO o.dst .any) fun E2 own2 a2 w2 hE2 hI2 hT2 hd => hQ E2 own2 a2 w2 hE2 hI2 hT2 (hd.trans (put_defers' _ _ _))⟩

/-! a function's entry and its end -/
theorem aget_argsE : ∀ (l : List LV) (i t : Nat), aget (argsE l i) t = if i ≤ t then (l[t - i]?).getD .any else .any
  | [], i, t => by simp [argsE, aget]
  | x :: l, i, t => by
    simp only [argsE, aget]
    by_cases h : i = t
    · subst h; simp
    · rw [show Nat.beq i t = false from by rw [Bool.eq_false_iff]; intro h'; exact h (Nat.eq_of_beq_eq_true h')]
      simp only [cond_false, aget_argsE l (i + 1) t]
      by_cases h2 : i ≤ t
      · rw [if_pos h2, if_pos (by omega), show t - i = (t - (i + 1)) + 1 by omega]; rfl
      · rw [if_neg h2, if_neg (by omega)]
theorem TR_args {E : Env} {args : List LV} {vs : List Value} {nt : Nat} (h : VRs E args vs) (hn : args.length ≤ nt) : TR E (argsE args 0) nt (vs.toArray ++ Array.replicate (nt - vs.toArray.size) undef) := by
  have hl := h.length
  refine ⟨by simp; omega, fun t => ?_⟩
  rw [aget_argsE]
  simp only [Nat.zero_le, if_true, Nat.sub_zero]
  cases hx : args[t]? with
  | none => exact .inl rfl
  | some x =>
    obtain ⟨v, hv, hr⟩ := h.get t x hx
    refine .inr ⟨v, ?_, hr⟩
    have : t < vs.length := (List.getElem?_eq_some_iff.1 hv).1
    rw [Array.getElem?_append_left (by simpa using this)]
    simpa using hv

variable {B : Nat → Prop} {w0 w : World} {E : Env} {own : Nat → List Nat} {h : Hp M} {nx : Nat}
/-- a block of no cells is given up -/
theorem Inv.kill (I : Inv B w0 E own h nx w) {id : Nat} {o : LObj M} {b : Nat} {ob : Obj} (hid : hget h id = some o) (hown : own id = [b]) : Inv B w0 E own (hdel h id) nx (w.putObj b ob) := by
  have hB : B b := I.may id o hid b (by rw [hown]; simp)
  have J := I.del id
  refine ⟨⟨J.kept.os, J.kept.tape, J.kept.output, by simpa using J.kept.size, fun c hc => ?_⟩, J.new, J.dom, fun k x hk => ?_, J.disj, J.may⟩
  · rw [World.putObj_heap_other (fun e => hc (by rw [e]; exact hB))]
    exact J.kept.block c hc
  · obtain ⟨e, he, hO⟩ := J.obj k x hk
    refine ⟨e, he, hO.world fun c hc => World.putObj_heap_other fun e' => ?_⟩
    subst e'
    rw [hget_hdel] at hk
    split at hk
    · cases hk
    · rename_i hki
      exact I.disj k id (by simp [hk]) (by simp [hid]) hki c hc (by rw [hown]; simp)

def resF (tmps : Array Value) : ResultVar → Sem Value
  | .tmp t => pure (tmps.getD t undef)
  | .cell a t => do loadVar t (← asAddr (tmps.getD a undef))

theorem resL_ok {env : List (Nat × LV)} {nt : Nat} {tmps : Array Value} (I : Inv B w0 E own h nx w) (T : TR E env nt tmps) : ∀ (rs : List ResultVar) (l : List LV), resL P env h rs = some l →
    ∃ vs : List Value, (rs.mapM (resF tmps)).run P w = .ok vs w ∧ VRs E l vs
  | [], l, hr => by cases hr; exact ⟨[], by simp, .nil⟩
  | .tmp t :: rs, l, hr => by
    simp only [resL, Option.map_eq_some_iff] at hr
    obtain ⟨l', h1, rfl⟩ := hr
    obtain ⟨vs, h2, h3⟩ := resL_ok I T rs l' h1
    have hv := evO_ok (a := { tmps := tmps, defers := [] }) T (.tmp t)
    exact ⟨tmps.getD t undef :: vs, by rw [List.mapM_cons]; simp only [resF, Sem.run_bind, Sem.run_pure, Result.andThen_ok, h2], .cons hv h3⟩
  | .cell a t :: rs, l, hr => by
    simp only [resL] at hr
    split at hr
    · rename_i hp
      simp only [Option.map_eq_some_iff] at hr
      obtain ⟨l', h1, rfl⟩ := hr
      obtain ⟨vs, h2, h3⟩ := resL_ok I T rs l' h1
      have hv := evO_ok (a := { tmps := tmps, defers := [] }) T (.tmp a)
      simp only [evO, Act.eval] at hv
      obtain ⟨u, hu, hru⟩ := loadL_ok I hv hp
      refine ⟨u :: vs, ?_, .cons hru h3⟩
      rw [List.mapM_cons]
      simp only [resF, Sem.run_bind, Sem.run_pure]
      generalize tmps.getD a undef = va at hv hu ⊢
      generalize hq : aget env a = q at hv hp
      unfold loadL at hp
      cases hv <;> try exact hp.elim
      simp only [Instr.loadAt, Instr.sureAddr, Sem.run_bind, Sem.run_pure, Result.andThen_ok] at hu
      simp only [asAddr, Sem.run_pure, Result.andThen_ok, hu, h2]
    · cases hr

theorem OR.df_inv {e : EI} {ow : List Nat} (hO : OR (M := M) E e .df w ow) : ow = [e.blk 0] ∧ w.heap[e.blk 0]? = some (.deferred (some [])) := by
  cases hO with
  | df a => exact ⟨rfl, a⟩
theorem OR.lp_inv {e : EI} {l : Lp} {ow : List Nat} (hO : OR (M := M) E e (.lp l) w ow) : ∃ (L : Loop) (ed : EI), ow = [e.blk 0] ∧ w.heap[e.blk 0]? = some (.loop L) ∧ L.state = l.st ∧ L.pending = l.pend ∧ TR E l.env l.nt L.tmps ∧ L.params = l.ps ∧
    L.assign = l.assign ∧ L.body = l.body ∧ E l.df = some ed ∧ L.defers = ed.blk 0 := by
  cases hO with
  | lp a b c d f g k l m => exact ⟨_, _, rfl, a, b, c, d, f, g, k, l, m⟩

theorem leaves_ok {lr : Option Nat} {n : Nat} {fn : Func} {tmps : Array Value} {R : Ending → World → Prop} : ∀ (dfs : List Nat) (h h' : Hp M) (ds : List Deferred) (w : World) (own : Nat → List Nat), dropDf dfs h = some h' → Inv B w0 E own h nx w → DR E dfs ds →
    (∀ w' own', Inv B w0 E own' h' nx w' → ∃ v, (results fn tmps).run P w' = .ok v w' ∧ R (.returned v) w') → LeavesInM (Wd lr) n P fn tmps R ds .returning w
  | [], h, h', ds, w, own, hd, I, D, hR => by
    cases hd
    cases D
    exact hR w own I
  | d :: dfs, h, h', ds, w, own, hd, I, D, hR => by
    obtain ⟨e, rest, he, rfl, D⟩ := D
    simp only [dropDf] at hd
    cases hid : hget h d with
    | none => rw [hid] at hd; cases hd
    | some o =>
      rw [hid] at hd
      cases o <;> try (cases hd; done)
      simp only at hd
      obtain ⟨e', he', hO⟩ := I.obj d _ hid
      rw [he] at he'; cases he'
      obtain ⟨h1, h2⟩ := hO.df_inv
      refine ⟨by simp, .inl ⟨e.blk 0, _, rfl, run_takeDeferred h2, ?_⟩⟩
      exact leaves_ok dfs (hdel h d) h' rest _ own hd (I.kill hid h1) D hR

theorem oneL_ok {l : List LV} {vs : List Value} (h : VRs E l vs) : VR E (oneL l) (if h : vs.toArray.size = 1 then vs.toArray[0] else .tuple vs.toArray) := by
  match l, vs, h with
  | [], _, .nil => exact .tup .nil
  | [x], _, .cons a .nil => simpa [oneL] using a
  | x :: y :: l, _, .cons a (.cons b t) => simpa [oneL] using VR.tup (.cons a (.cons b t))

theorem run_results {fn : Func} {tmps : Array Value} {vs : List Value} (hr : (fn.results.toList.mapM (resF tmps)).run P w = .ok vs w) :
    (results fn tmps).run P w = .ok (if h : vs.toArray.size = 1 then vs.toArray[0] else .tuple vs.toArray) w := by
  have e1 : results fn tmps = (do let vs ← fn.results.mapM (resF tmps); pure (if h : vs.size = 1 then vs[0] else .tuple vs)) := by
    unfold results
    congr 1
  rw [e1, Array.mapM_eq_mapM_toList]
  simp [hr]

/-- a loop that is on its way -/
def wpLoop (F : Fence) (n : Nat) (P : Program) (c : Code) (Q : Exit → Act → World → Prop) (a : Act) (w : World) : Prop :=
  ∀ (b : Frame) (k : List Item) (cs : List Frame), b.roundOf = F.round → F.fn b.fn → F.room (cs.length + 1 + n) →
    ∃ e a' w', Q e a' w' ∧ ArrivesIn (Machine.fenced P F) P (lone (b.atR a (.code c :: .inLoop c :: k)) cs w) b k cs e a' w'
def wpX (F : Fence) (n : Nat) (P : Program) (c : Code) (Q : Exit → Act → World → Prop) (a : Act) (w : World) : Prop :=
  match c with
  | .loop b => wpLoop F n P b Q a w
  | c => c.wpIn F n P Q a w
theorem wpX_in {F : Fence} {n : Nat} {c : Code} {Q : Exit → Act → World → Prop} {a : Act} (h : wpX F n P c Q a w) : c.wpIn F n P Q a w := by
  cases c <;> try exact h
  rename_i c
  intro b k cs hro hb hr
  obtain ⟨e, a', w', hq, harr⟩ := h b k cs hro hb hr
  exact ⟨e, a', w', hq, .of_steps (.one (fenced_calm hb hr rfl) stepR_loop) harr⟩
theorem wpLoop_unroll {F : Fence} {n : Nat} {c : Code} {Q : Exit → Act → World → Prop} {a : Act} (h : c.wpIn F n P (Exit.then (wpLoop F n P c Q) Q) a w) : wpLoop F n P c Q a w := by
  intro b k cs hro hb hr
  obtain ⟨e, a₁, w₁, hq, harr⟩ := h b (.inLoop c :: k) cs hro hb hr
  cases e with
  | normal =>
    obtain ⟨e₂, a₂, w₂, hq₂, harr₂⟩ := hq b k cs hro hb hr
    exact ⟨e₂, a₂, w₂, hq₂, .of_steps (StepsIn.trans harr (.one (fenced_calm hb hr rfl) stepR_inLoop)) harr₂⟩
  | exit id => exact ⟨_, a₁, w₁, hq, .pass (x := .inLoop c) rfl (fun _ _ => .inl (by simp)) harr⟩
  | goto l => exact ⟨_, a₁, w₁, hq, .pass (x := .inLoop c) rfl (fun _ _ => .inl (by simp)) harr⟩
  | ret => exact ⟨_, a₁, w₁, hq, .pass (x := .inLoop c) rfl (fun _ _ => .inl (by simp)) harr⟩
  | panic ch => exact ⟨_, a₁, w₁, hq, .pass (x := .inLoop c) rfl (fun _ _ => .inl (by simp)) harr⟩
  | outgrown => exact ⟨_, a₁, w₁, hq, .pass (x := .inLoop c) rfl (fun _ _ => .inl (by simp)) harr⟩

def RunOK (P : Program) (r : RunF M) : Prop := ∀ ro c s x s', r ro c s = .ok (x, s') → s.nx ≤ s'.nx ∧ s'.nt = s.nt ∧
  ∀ B w0 E own a w lr, Inv B w0 E own s.h s.nx w → TR E s.env s.nt a.tmps → DR E s.dfs a.defers → RO E ro lr → ∀ n Q,
    (∀ E' own' a' w', Grow s.nx E E' → Inv B w0 E' own' s'.h s'.nx w' → TR E' s'.env s.nt a'.tmps → DR E' s'.dfs a'.defers → Q (exitOf x) a' w') → wpX (Wd lr) n P c Q a w

def FTOK (P : Program) (FT : Nat → Option Func) : Prop := ∀ g fn, FT g = some fn → P.funcs[g]? = some fn ∧ (fn.name == "runtime.NumGoroutine") = false
def OvOK (P : Program) (ov : Ov M) : Prop := ∀ g args h nx v h' nx', ov g args h nx = some (v, h', nx') → nx ≤ nx' ∧ ∀ B w0 E own w vs, Inv B w0 E own h nx w → VRs E args vs →
  (∀ W : World, (callFunc g vs.toArray).run P W = .ok (.enter g vs.toArray) W) ∧
  ∀ lr n R, (∀ E' own' u w', Grow nx E E' → Inv B w0 E' own' h' nx' w' → VR E' v u → R (.returned u) w') → CallsIn (Wd lr) n P g vs.toArray w R

theorem callR_ok {FT : Nat → Option Func} {ov : Ov M} {r : RunF M} (hF : FTOK P FT) (hov : OvOK P ov) (hr : RunOK P r) : CallOK P (callR P FT ov r) := by
  intro g args h nx v h' nx' hcall
  simp only [callR] at hcall
  cases ho : ov g args h nx with
  | some u =>
    rw [ho] at hcall
    cases hcall
    exact hov g args h nx _ _ _ ho
  | none =>
    rw [ho] at hcall
    simp only at hcall
    cases hft : FT g with
    | none => rw [hft] at hcall; cases hcall
    | some fn =>
      rw [hft] at hcall
      simp only at hcall
      obtain ⟨hf, hname⟩ := hF g fn hft
      cases hb : fn.body with
      | none => rw [hb] at hcall; cases hcall
      | some c =>
        rw [hb] at hcall
        simp only at hcall
        cases hlen : Nat.ble args.length fn.ntmps with
        | false => rw [hlen] at hcall; cases hcall
        | true =>
          rw [hlen] at hcall
          simp only [cond_true] at hcall
          have hlen' : args.length ≤ fn.ntmps := Nat.le_of_ble_eq_true hlen
          cases hrun : r none c ⟨argsE args 0, h, nx, fn.ntmps, []⟩ with
          | no w => rw [hrun] at hcall; cases hcall
          | ok y =>
            obtain ⟨x, s'⟩ := y
            rw [hrun] at hcall
            simp only at hcall
            obtain ⟨hnx, hnt, hsound⟩ := hr _ _ _ _ _ hrun
            have key : ∀ (q : Rz (LV × Hp M × Nat)), q = .ok (v, h', nx') → q = (match dropDf s'.dfs s'.h with
                | some h' => match resL P s'.env h' fn.results.toList with
                  | some l => .ok (oneL l, h', s'.nx)
                  | none => .no "results"
                | none => .no "defers") → ∃ l, dropDf s'.dfs s'.h = some h' ∧ resL P s'.env h' fn.results.toList = some l ∧ v = oneL l ∧ nx' = s'.nx := by
              intro q h1 h2
              rw [h1] at h2
              cases hd : dropDf s'.dfs s'.h with
              | none => rw [hd] at h2; cases h2
              | some h2' =>
                rw [hd] at h2
                simp only at h2
                cases hl : resL P s'.env h2' fn.results.toList with
                | none => rw [hl] at h2; cases h2
                | some l => rw [hl] at h2; cases h2; exact ⟨l, rfl, hl, rfl, rfl⟩
            have hx : ∃ l, dropDf s'.dfs s'.h = some h' ∧ resL P s'.env h' fn.results.toList = some l ∧ v = oneL l ∧ nx' = s'.nx ∧ (exitOf x = .normal ∨ exitOf x = .ret) := by
              cases x <;> try (cases hcall; done)
              · obtain ⟨l, h1, h2, h3, h4⟩ := key _ hcall rfl; exact ⟨l, h1, h2, h3, h4, .inl rfl⟩
              · obtain ⟨l, h1, h2, h3, h4⟩ := key _ hcall rfl; exact ⟨l, h1, h2, h3, h4, .inr rfl⟩
            obtain ⟨l, hdrop, hres, rfl, rfl, hex⟩ := hx
            refine ⟨hnx, fun B w0 E own w vs I hvs => ⟨fun W => ?_, fun lr n R hR => ?_⟩⟩
            · simp only [callFunc, Sem.run_bind, run_program, Result.andThen_ok, hf]
              simp [hname, hb]
            · have hin : CallsIn (Wd none) n P g vs.toArray w R := by
                refine callsIn_of_wp_marks hf hb trivial ?_
                refine wpX_in (hsound B w0 E own { tmps := vs.toArray ++ Array.replicate (fn.ntmps - vs.toArray.size) undef, defers := [] } w none I (TR_args hvs hlen') rfl rfl n _ fun E' own' a' w' hE hI hT hD => ?_)
                have hleave : LeavesInM (Wd none) n P fn a'.tmps R a'.defers .returning w' := by
                  refine leaves_ok s'.dfs s'.h h' a'.defers w' own' hdrop hI hD fun w2 own2 hI2 => ?_
                  obtain ⟨us, h1, h2⟩ := resL_ok (P := P) hI2 hT fn.results.toList l hres
                  exact ⟨_, run_results h1, hR E' own2 _ w2 hE hI2 (oneL_ok h2)⟩
                rcases hex with hex | hex <;> rw [hex] <;> exact hleave
              exact hin
end
end Lx

/- The engine, part 17: rounds; code. -/
namespace Lx
open Go Go.RowKit

section
variable {M : Type} [Mdl M] {P : Program}

theorem setPs_ok {E : Env} {nt : Nat} : ∀ (ps : List Nat) (args : List LV) (vs : List Value) (env : List (Nat × LV)) (tmps : Array Value), VRs E args vs → ps.length = args.length → TR E env nt tmps →
    TR E (setPs nt env ps args) nt ((ps.zip vs).foldl (fun t (x : Nat × Value) => t.setIfInBounds x.1 x.2) tmps)
  | [], args, vs, env, tmps, hv, hl, T => by
    have : args = [] := List.eq_nil_of_length_eq_zero (by simpa using hl.symm)
    subst this
    simpa [setPs] using T
  | p :: ps, [], vs, env, tmps, hv, hl, T => by simp at hl
  | p :: ps, x :: args, _ :: vs, env, tmps, .cons hx hv, hl, T => by
    simp only [setPs, List.zip_cons_cons, List.foldl_cons]
    exact setPs_ok ps args vs _ _ hv (by simpa using hl) (T.put p hx)

theorem yieldR_ok {r : RunF M} (hr : RunOK P r) : YieldOK P (yieldR r) := by
  intro id args h nx v h' nx' hy
  simp only [yieldR] at hy
  cases hid : hget h id with
  | none => rw [hid] at hy; cases hy
  | some o =>
    rw [hid] at hy
    cases o <;> try (cases hy; done)
    rename_i l
    simp only at hy
    cases hb : (l.st == .ready && Nat.beq args.length l.ps.size) with
    | false => rw [hb] at hy; cases hy
    | true =>
      rw [hb] at hy
      simp only [cond_true] at hy
      simp only [Bool.and_eq_true, beq_iff_eq, Nat.beq_eq] at hb
      obtain ⟨hready, hlen⟩ := hb
      cases hra : r (some id) l.assign ⟨setPs l.nt l.env l.ps.toList args, h, nx, l.nt, []⟩ with
      | no w => rw [hra] at hy; cases hy
      | ok y =>
        obtain ⟨x1, s1⟩ := y
        rw [hra] at hy
        simp only at hy
        cases x1 <;> try (cases hy; done)
        simp only at hy
        cases hid1 : hget s1.h id with
        | none => rw [hid1] at hy; cases hy
        | some o1 =>
          rw [hid1] at hy
          cases o1 <;> try (cases hy; done)
          rename_i l1
          simp only at hy
          cases hb1 : (l1.st == .ready) with
          | false => rw [hb1] at hy; cases hy
          | true =>
            rw [hb1] at hy
            simp only [cond_true] at hy
            simp only [beq_iff_eq] at hb1
            cases hrb : r (some id) l.body { s1 with h := hset s1.h id (.lp { l1 with st := .busy }) } with
            | no w => rw [hrb] at hy; cases hy
            | ok y2 =>
              obtain ⟨x, s2⟩ := y2
              rw [hrb] at hy
              simp only at hy
              cases hid2 : hget s2.h id with
              | none => rw [hid2] at hy; cases hy
              | some o2 =>
                rw [hid2] at hy
                cases o2 <;> try (cases hy; done)
                rename_i l2
                simp only at hy
                cases hy
                obtain ⟨hn1, hnt1, hs1⟩ := hr _ _ _ _ _ hra
                obtain ⟨hn2, hnt2, hs2⟩ := hr _ _ _ _ _ hrb
                simp only at hn1 hn2 hnt1 hnt2 hs1 hs2
                refine ⟨Nat.le_trans hn1 hn2, fun B w0 E own w vs e I he hvs => ?_⟩
                obtain ⟨e', he', hO⟩ := I.obj id _ hid
                rw [he] at he'; cases he'
                obtain ⟨L, ed, hown, hheap, hst, hpend, hT, hps, has, hbd, hdf, hdfb⟩ := hO.lp_inv
                have hsz : vs.toArray.size = L.params.size := by
                  rw [hps, ← hlen, hvs.length]; simp
                refine ⟨_, _, _, _, run_yield hheap hsz, fun lr n R hR => ?_⟩
                refine roundIn_of_wpIn trivial ?_
                have hT0 : TR E (setPs l.nt l.env l.ps.toList args) l.nt ((L.params.zip vs.toArray).foldl (fun tmps (t, a) => tmps.setIfInBounds t a) L.tmps) := by
                  have := setPs_ok (E := E) (nt := l.nt) l.ps.toList args vs l.env L.tmps hvs (by simpa using hlen.symm) hT
                  rw [hps, ← Array.foldl_toList]
                  simpa [Array.toList_zip] using this
                rw [has, hbd]
                refine wpX_in (hs1 B w0 E own { tmps := _, defers := [] } w (some (e.blk 0)) I hT0 rfl ⟨e, he, rfl⟩ n _ fun E1 own1 a1 w1 hE1 hI1 hT1 hD1 => ?_)
                -- the round begins
                have he1 : E1 id = some e := hE1.2 _ _ he
                obtain ⟨e', he', hO1⟩ := hI1.obj id _ hid1
                rw [he1] at he'; cases he'
                obtain ⟨L1, ed1, hown1, hheap1, hst1, hpend1, hTL1, hps1, has1, hbd1, hdf1, hdfb1⟩ := hO1.lp_inv
                refine ⟨_, run_beginRound hheap1 (hst1.trans hb1), ?_⟩
                have hlt1 := (Array.getElem?_eq_some_iff.1 hheap1).1
                obtain ⟨own1', hI1'⟩ := hI1.put (ob := .loop { L1 with state := .busy }) (o' := .lp { l1 with st := .busy }) hid1 he1 hown1 (.lp (World.putObj_heap_same hlt1) rfl hpend1 hTL1 hps1 has1 hbd1 hdf1 hdfb1)
                refine wpX_in (hs2 B w0 E1 own1' a1 _ (some (e.blk 0)) hI1' (by rw [hnt1]; exact hT1) hD1 ⟨e, he1, rfl⟩ n _ fun E2 own2 a2 w2 hE2 hI2 hT2 hD2 => ?_)
                have he2 : E2 id = some e := hE2.2 _ _ he1
                obtain ⟨e', he', hO2⟩ := hI2.obj id _ hid2
                rw [he2] at he'; cases he'
                obtain ⟨L2, ed2, hown2, hheap2, hst2, hpend2, hTL2, hps2, has2, hbd2, hdf2, hdfb2⟩ := hO2.lp_inv
                have hlt2 := (Array.getElem?_eq_some_iff.1 hheap2).1
                obtain ⟨own2', hI2'⟩ := hI2.put (ob := .loop { L2 with state := if (jumpOf x).isNone then .ready else .done, pending := jumpOf x }) (o' := .lp { l2 with st := if (jumpOf x).isNone then .ready else .done, pend := jumpOf x }) hid2 he2 hown2
                  (.lp (World.putObj_heap_same hlt2) rfl rfl hTL2 hps2 has2 hbd2 hdf2 hdfb2)
                have hend := run_endRound (P := P) (jumpOf x) hheap2
                have hfin := hR E2 own2' (.bool (jumpOf x).isNone) _ (hE1.trans hE2 hn1) hI2' .b
                cases x <;> exact ⟨_, _, hend, hfin⟩

/-- what a region that draws comes to -/
def DrawOK (M : Type) [Mdl M] (P : Program) : Prop := ∀ (call yield : CallF M), CallOK P call → YieldOK P yield → ∀ (ops : Array Oper) (s s' : St M), runDraw P call yield ops s = .ok s' →
  s.nx ≤ s'.nx ∧ s'.nt = s.nt ∧ s'.dfs = s.dfs ∧ ∀ B w0 E own a w lr n Q id, Inv B w0 E own s.h s.nx w → TR E s.env s.nt a.tmps →
    (∀ E' own' a' w', Grow s.nx E E' → Inv B w0 E' own' s'.h s'.nx w' → TR E' s'.env s.nt a'.tmps → a'.defers = a.defers → Q .normal a' w') →
    (Code.region id ops true).wpIn (Wd lr) n P Q a w

theorem two_new {B : Nat → Prop} {w0 w : World} {E : Env} {own : Nat → List Nat} {h : Hp M} {nx : Nat} (I : Inv B w0 E own h nx w) {l : Lp} {L : Loop} (hl : l.st = L.state) (hp : L.pending = l.pend) (hT : TR E l.env l.nt L.tmps) (hps : L.params = l.ps)
    (ha : L.assign = l.assign) (hb : L.body = l.body) (hdf : l.df = nx) (hD : L.defers = w.heap.size) :
    ∃ E' own', Grow nx E E' ∧ E' nx = some (newEI w 0) ∧ E' (nx + 1) = some (newEI (w.alloc (.deferred (some []))) 0) ∧ Inv B w0 E' own' ((nx + 1, .lp l) :: (nx, .df) :: h) (nx + 2) ((w.alloc (.deferred (some []))).alloc (.loop L)) := by
  have hg1 := Grow.put (e := newEI w 0) I.fresh
  have I1 := I.fresh_obj (w' := w.alloc (.deferred (some []))) (o := .df) (e := newEI w 0) (ow := [w.heap.size]) rfl rfl rfl (by simp) (fun b hb => Below.heap_alloc _ _ _ hb) (.df (heap_alloc_new w _)) (by simp)
  have hg2 := Grow.put (e := newEI (w.alloc (.deferred (some []))) 0) I1.fresh
  refine ⟨_, _, hg1.trans hg2 (Nat.le_succ _), hg2.2 _ _ (Env.put_same _ _ _), Env.put_same _ _ _,
    I1.fresh_obj (ow := [(w.alloc (.deferred (some []))).heap.size]) rfl rfl rfl (by simp) (fun b hb => Below.heap_alloc _ _ _ hb) ?_ (by simp)⟩
  refine .lp (L := L) (ed := newEI w 0) (heap_alloc_new _ _) hl.symm hp ((hT.ext hg1.2).ext hg2.2) hps ha hb ?_ (by rw [hD]; rfl)
  rw [hdf]
  exact hg2.2 _ _ (Env.put_same _ _ _)
end
end Lx

/- The engine, part 18: code; a run. -/
namespace Lx
open Go Go.RowKit

section
variable {M : Type} [Mdl M] {P : Program}

theorem exit_ne {x : X} (h : x ≠ .normal) {next : Act → World → Prop} {Q : Exit → Act → World → Prop} {a : Act} {w : World} (hq : Q (exitOf x) a w) : Exit.then next Q (exitOf x) a w := by
  cases x <;> first | exact absurd rfl h | exact hq

theorem runStep_ok {FT : Nat → Option Func} {ov : Ov M} {r : RunF M} (hz : ZOK P) (hF : FTOK P FT) (hov : OvOK P ov) (hD : DrawOK M P) (hr : RunOK P r) : RunOK P (runStep P FT ov r) := by
  have hcall := callR_ok hF hov hr
  have hyield := yieldR_ok hr
  intro ro c s x s' hs
  cases c with
  | skip => cases hs; exact ⟨Nat.le_refl _, rfl, fun B w0 E own a w lr I T D O n Q hQ => wpIn_skip (hQ E own a w (Grow.refl _ E) I T D)⟩
  | label l => cases hs; exact ⟨Nat.le_refl _, rfl, fun B w0 E own a w lr I T D O n Q hQ => wpIn_label (hQ E own a w (Grow.refl _ E) I T D)⟩
  | exit id => cases hs; exact ⟨Nat.le_refl _, rfl, fun B w0 E own a w lr I T D O n Q hQ => wpIn_exit (hQ E own a w (Grow.refl _ E) I T D)⟩
  | goto l => cases hs; exact ⟨Nat.le_refl _, rfl, fun B w0 E own a w lr I T D O n Q hQ => wpIn_goto (hQ E own a w (Grow.refl _ E) I T D)⟩
  | ret => cases hs; exact ⟨Nat.le_refl _, rfl, fun B w0 E own a w lr I T D O n Q hQ => wpIn_ret (hQ E own a w (Grow.refl _ E) I T D)⟩
  | scope b => cases hs
  | refuse w => cases hs
  | region id ops draw =>
    simp only [runStep] at hs
    cases draw with
    | true =>
      simp only [cond_true] at hs
      cases hrun : runDraw P (callR P FT ov r) (yieldR r) ops s with
      | no w => rw [hrun] at hs; cases hs
      | ok s1 =>
        rw [hrun] at hs
        cases hs
        obtain ⟨h1, h2, h3, h4⟩ := hD _ _ hcall hyield ops s s' hrun
        exact ⟨h1, h2, fun B w0 E own a w lr I T D O n Q hQ => h4 B w0 E own a w lr n Q id I T fun E' own' a' w' hE hI hT hd => hQ E' own' a' w' hE hI hT (by rw [h3, hd]; exact D.ext hE.2)⟩
    | false =>
      simp only [cond_false] at hs
      cases hrun : runOps P (callR P FT ov r) (yieldR r) ops ops.toList s with
      | no w => rw [hrun] at hs; cases hs
      | ok s1 =>
        rw [hrun] at hs
        cases hs
        obtain ⟨h1, h2, h3, h4⟩ := runOps_ok hz hcall hyield ops ops.toList 0 s s' hrun (fun j _ => by simp)
        refine ⟨h1, h2, fun B w0 E own a w lr I T D O n Q hQ => wpIn_region ?_⟩
        rw [List.range_eq_range']
        have := h4 B w0 E own a w lr n Q I T fun E' own' a' w' hE hI hT hd => hQ E' own' a' w' hE hI hT (by rw [h3, hd]; exact D.ext hE.2)
        simpa using this
  | seq c1 c2 =>
    simp only [runStep] at hs
    cases h1 : r ro c1 s with
    | no w => rw [h1] at hs; cases hs
    | ok y =>
      obtain ⟨x1, s1⟩ := y
      rw [h1] at hs
      obtain ⟨hn1, ht1, hs1⟩ := hr _ _ _ _ _ h1
      by_cases hx : x1 = .normal
      · subst hx
        simp only at hs
        obtain ⟨hn2, ht2, hs2⟩ := hr _ _ _ _ _ hs
        refine ⟨Nat.le_trans hn1 hn2, ht2.trans ht1, fun B w0 E own a w lr I T D O n Q hQ => wpIn_seq (wpX_in (hs1 B w0 E own a w lr I T D O n _ fun E' own' a' w' hE hI hT hd => ?_))⟩
        exact wpX_in (hs2 B w0 E' own' a' w' lr hI (by rw [ht1]; exact hT) hd (O.ext hE.2) n Q fun E2 own2 a2 w2 hE2 hI2 hT2 hd2 => hQ E2 own2 a2 w2 (hE.trans hE2 hn1) hI2 (by rw [← ht1]; exact hT2) hd2)
      · have : (x1, s1) = (x, s') := by cases x1 <;> first | exact absurd rfl hx | (cases hs; rfl)
        cases this
        exact ⟨hn1, ht1, fun B w0 E own a w lr I T D O n Q hQ => wpIn_seq (wpX_in <| hs1 B w0 E own a w lr I T D O n _ fun E' own' a' w' hE hI hT hd => exit_ne hx (hQ E' own' a' w' hE hI hT hd))⟩
  | cond o c1 c2 =>
    simp only [runStep] at hs
    cases ho : evO s.env o <;> rw [ho] at hs <;> try (cases hs; done)
    rename_i b
    have hev : ∀ (E : Env) (a : Act), TR E s.env s.nt a.tmps → a.eval o = .bool b := by
      intro E a T
      have := evO_ok T o
      rw [ho] at this
      generalize a.eval o = v at this
      cases this
      rfl
    cases b with
    | true =>
      obtain ⟨h1, h2, h3⟩ := hr _ _ _ _ _ hs
      exact ⟨h1, h2, fun B w0 E own a w lr I T D O n Q hQ => wpIn_cond_true (hev E a T) (wpX_in (h3 B w0 E own a w lr I T D O n Q hQ))⟩
    | false =>
      obtain ⟨h1, h2, h3⟩ := hr _ _ _ _ _ hs
      exact ⟨h1, h2, fun B w0 E own a w lr I T D O n Q hQ => wpIn_cond_false (hev E a T) (wpX_in (h3 B w0 E own a w lr I T D O n Q hQ))⟩
  | block id b =>
    simp only [runStep] at hs
    cases h1 : r ro b s with
    | no w => rw [h1] at hs; cases hs
    | ok y =>
      obtain ⟨x1, s1⟩ := y
      rw [h1] at hs
      obtain ⟨hn1, ht1, hs1⟩ := hr _ _ _ _ _ h1
      cases x1 with
      | exit k =>
        simp only at hs
        by_cases hk : k = id
        · subst hk
          rw [show Nat.beq k k = true from by simp] at hs
          cases hs
          exact ⟨hn1, ht1, fun B w0 E own a w lr I T D O n Q hQ => wpIn_block (wpX_in <| hs1 B w0 E own a w lr I T D O n _ fun E' own' a' w' hE hI hT hd => by simpa [exitOf, Exit.inBlock] using hQ E' own' a' w' hE hI hT hd)⟩
        · rw [show Nat.beq k id = false from by rw [Bool.eq_false_iff]; intro h; exact hk (Nat.eq_of_beq_eq_true h)] at hs
          cases hs
          exact ⟨hn1, ht1, fun B w0 E own a w lr I T D O n Q hQ => wpIn_block (wpX_in <| hs1 B w0 E own a w lr I T D O n _ fun E' own' a' w' hE hI hT hd => by simpa [exitOf, Exit.inBlock, hk] using hQ E' own' a' w' hE hI hT hd)⟩
      | normal => cases hs; exact ⟨hn1, ht1, fun B w0 E own a w lr I T D O n Q hQ => wpIn_block (wpX_in <| hs1 B w0 E own a w lr I T D O n _ fun E' own' a' w' hE hI hT hd => hQ E' own' a' w' hE hI hT hd)⟩
      | goto l => cases hs; exact ⟨hn1, ht1, fun B w0 E own a w lr I T D O n Q hQ => wpIn_block (wpX_in <| hs1 B w0 E own a w lr I T D O n _ fun E' own' a' w' hE hI hT hd => hQ E' own' a' w' hE hI hT hd)⟩
      | ret => cases hs; exact ⟨hn1, ht1, fun B w0 E own a w lr I T D O n Q hQ => wpIn_block (wpX_in <| hs1 B w0 E own a w lr I T D O n _ fun E' own' a' w' hE hI hT hd => hQ E' own' a' w' hE hI hT hd)⟩
  | loop b =>
    simp only [runStep] at hs
    cases h1 : r ro b s with
    | no w => rw [h1] at hs; cases hs
    | ok y =>
      obtain ⟨x1, s1⟩ := y
      rw [h1] at hs
      obtain ⟨hn1, ht1, hs1⟩ := hr _ _ _ _ _ h1
      by_cases hx : x1 = .normal
      · subst hx
        simp only at hs
        obtain ⟨hn2, ht2, hs2⟩ := hr _ _ _ _ _ hs
        refine ⟨Nat.le_trans hn1 hn2, ht2.trans ht1, fun B w0 E own a w lr I T D O n Q hQ => wpLoop_unroll (wpX_in <| hs1 B w0 E own a w lr I T D O n _ fun E' own' a' w' hE hI hT hd => ?_)⟩
        exact hs2 B w0 E' own' a' w' lr hI (by rw [ht1]; exact hT) hd (O.ext hE.2) n Q fun E2 own2 a2 w2 hE2 hI2 hT2 hd2 => hQ E2 own2 a2 w2 (hE.trans hE2 hn1) hI2 (by rw [← ht1]; exact hT2) hd2
      · have : (x1, s1) = (x, s') := by cases x1 <;> first | exact absurd rfl hx | (cases hs; rfl)
        cases this
        exact ⟨hn1, ht1, fun B w0 E own a w lr I T D O n Q hQ => wpLoop_unroll (wpX_in <| hs1 B w0 E own a w lr I T D O n _ fun E' own' a' w' hE hI hT hd => exit_ne hx (hQ E' own' a' w' hE hI hT hd))⟩
  | rangeFunc g ps assign body =>
    simp only [runStep] at hs
    cases ro with
    | some _ => cases hs
    | none =>
      simp only at hs
      cases hg : evO s.env g <;> rw [hg] at hs <;> try (cases hs; done)
      rename_i fn first cap
      cases fn <;> try (cases hs; done)
      rename_i f
      simp only at hs
      generalize hl : ({ st := .ready, pend := none, env := s.env, nt := s.nt, ps := ps, assign := assign, body := body, df := s.nx } : Lp) = l at hs
      cases hc : callR P FT ov r f (first ++ [.y (s.nx + 1)] ++ cap) ((s.nx + 1, .lp l) :: (s.nx, .df) :: s.h) (s.nx + 2) with
      | no w => rw [hc] at hs; cases hs
      | ok y =>
        obtain ⟨v, h1, nx1⟩ := y
        rw [hc] at hs
        simp only at hs
        cases hid : hget h1 (s.nx + 1) with
        | none => rw [hid] at hs; cases hs
        | some o =>
          rw [hid] at hs
          cases o <;> try (cases hs; done)
          rename_i l2
          simp only at hs
          cases hbz : (l2.st == .busy) with
          | true => rw [hbz] at hs; cases hs
          | false =>
            rw [hbz] at hs
            simp only [cond_false] at hs
            cases hbk : backOf l2.pend with
            | none => rw [hbk] at hs; cases hs
            | some x1 =>
              rw [hbk] at hs
              cases hs
              obtain ⟨hn1, hcs⟩ := hcall _ _ _ _ _ _ _ hc
              refine ⟨by simp only; omega, rfl, fun B w0 E own a w lr I T D O n Q hQ => ?_⟩
              have hlr : lr = none := O
              subst hlr
              refine wpIn_rangeFunc fun fn _ => ?_
              have hvf := evO_ok T g
              rw [hg] at hvf
              generalize hef : a.eval g = vf at hvf
              cases hvf
              rename_i vs ws hv1 hv2
              obtain ⟨L, hL⟩ : ∃ L : Loop, L = { state := .ready, pending := none, fn := fn, tmps := a.tmps, params := ps, assign := assign, body := body, defers := w.heap.size } := ⟨_, rfl⟩
              obtain ⟨E1, own1, hE1, he0, he1, hI1⟩ := two_new (l := l) (L := L) I (by subst hl hL; rfl) (by subst hl hL; rfl) (by subst hl hL; exact T) (by subst hl hL; rfl) (by subst hl hL; rfl) (by subst hl hL; rfl) (by subst hl; rfl) (by subst hL; rfl)
              have hargs : VRs E1 (first ++ [.y (s.nx + 1)] ++ cap) (vs ++ [Value.func (.yield (w.heap.size + 1)) #[] #[]] ++ ws) := by
                refine ((hv1.ext hE1.2).append (.cons ?_ .nil)).append (hv2.ext hE1.2)
                have := VR.y he1
                simpa [newEI] using this
              obtain ⟨henter, hcalls⟩ := hcs B w0 E1 own1 _ _ hI1 hargs
              refine ⟨w.heap.size + 1, [{ target := .collected w.heap.size, args := #[] }], (w.alloc (.deferred (some []))).alloc (.loop L),
                { target := .fn (.func f) ws.toArray, args := vs.toArray ++ #[Value.func (.yield (w.heap.size + 1)) #[] #[]] }, (w.alloc (.deferred (some []))).alloc (.loop L), f,
                (vs ++ [Value.func (.yield (w.heap.size + 1)) #[] #[]] ++ ws).toArray, (w.alloc (.deferred (some []))).alloc (.loop L), ?_, ?_, fun _ _ => trivial, ?_, Wd_depth _ _, ?_⟩
              · rw [hL]; exact run_enterLoop_outer ..
              · unfold resolve
                simp only [rangeCall, hef, Deferred.ofValue]
                simp [Act.eval]
              · have e1 : vs.toArray ++ #[Value.func (.yield (w.heap.size + 1)) #[] #[]] ++ ws.toArray = (vs ++ [Value.func (.yield (w.heap.size + 1)) #[] #[]] ++ ws).toArray := by apply Array.ext'; simp
                simp only [invoke, e1]
                exact henter _
              · refine hcalls none (n - 1) _ fun E2 own2 u w2 hE2 hI2 _ => ?_
                have he2 : E2 (s.nx + 1) = some _ := hE2.2 _ _ he1
                obtain ⟨e', he', hO⟩ := hI2.obj _ _ hid
                rw [he2] at he'; cases he'
                obtain ⟨L2, ed2, hown2, hheap2, hst2, hpend2, _⟩ := hO.lp_inv
                have hblk : (newEI (w.alloc (.deferred (some []))) 0).blk 0 = w.heap.size + 1 := by simp [newEI]
                rw [hblk] at hown2 hheap2
                have hb2 : L2.state ≠ .busy := by rw [hst2]; intro h; rw [h] at hbz; cases hbz
                refine ⟨_, _, run_endLoop hheap2 hb2, ?_⟩
                have hI3 := hI2.kill (ob := .loop { L2 with state := .exhausted }) hid hown2
                have hfin := hQ E2 own2 { a with defers := [{ target := .collected w.heap.size, args := #[] }] ++ a.defers } _ (hE1.trans hE2 (by omega)) hI3 ((T.ext hE1.2).ext hE2.2)
                  ⟨_, _, hE2.2 _ _ he0, rfl, (D.ext hE1.2).ext hE2.2⟩
                cases hpd : l2.pend with
                | none =>
                  rw [hpd] at hbk; cases hbk
                  have hLp : L2.pending = none := hpend2.trans hpd
                  rw [hLp] at hfin ⊢
                  exact hfin
                | some c =>
                  rw [hpd] at hbk
                  have hLp : L2.pending = some c := hpend2.trans hpd
                  rw [hLp] at hfin ⊢
                  cases c <;> try (cases hbk; done)
                  case ret => cases hbk; exact wpIn_ret hfin
                  case exit k => cases hbk; exact wpIn_exit hfin

theorem run_ok {FT : Nat → Option Func} {ov : Ov M} (hz : ZOK P) (hF : FTOK P FT) (hov : OvOK P ov) (hD : DrawOK M P) : ∀ fuel, RunOK P (run (M := M) P FT ov fuel)
  | 0 => fun _ _ _ _ _ h => by cases h
  | fuel + 1 => runStep_ok hz hF hov hD (run_ok hz hF hov hD fuel)
end
end Lx

/- The engine, part 19: what regions that draw need: frames; operations that look at the same do the same. -/
namespace Lx
open Go Go.RowKit

section
variable {M : Type} [Mdl M] {P : Program} {B : Nat → Prop} {w0 w w' : World} {E E' : Env} {own own' : Nat → List Nat} {G h1 h2 : Hp M} {nx nx' : Nat}

/-- the blocks that a part of the heap may turn, when the rest is to stay -/
def Part (B : Nat → Prop) (own : Nat → List Nat) (G h1 : Hp M) : Nat → Prop := fun b => B b ∧ ∀ id, (hget G id).isSome = true → hget h1 id = none → b ∉ own id

theorem Inv.split (I : Inv B w0 E own G nx w) (hs : ∀ id o, hget h1 id = some o → hget G id = some o) : Inv (Part B own G h1) w E own h1 nx w := by
  refine ⟨⟨rfl, rfl, rfl, Nat.le_refl _, fun _ _ => rfl⟩, fun b hb => ⟨I.new b (Nat.le_trans I.kept.size hb), fun id hid _ hin => ?_⟩, I.dom, fun id o hid => I.obj id o (hs id o hid), fun i j hi hj => ?_, fun id o hid b hb => ⟨I.may id o (hs id o hid) b hb, fun k hk hk1 hin => ?_⟩⟩
  · obtain ⟨o, ho⟩ := Option.isSome_iff_exists.1 hid
    exact absurd (I.lt ho b hin) (by omega)
  · obtain ⟨o, ho⟩ := Option.isSome_iff_exists.1 hi
    obtain ⟨o', ho'⟩ := Option.isSome_iff_exists.1 hj
    exact I.disj i j (by simp [hs _ _ ho]) (by simp [hs _ _ ho'])
  · have hne : id ≠ k := by intro e; subst e; rw [hid] at hk1; cases hk1
    exact I.disj id k (by simp [hs _ _ hid]) hk hne b hb hin

/-- behind a turn of the part, the rest is there as it was -/
theorem Inv.join (I : Inv B w0 E own G nx w) (J : Inv (Part B own G h1) w E' own' h2 nx' w') (hE : Grow nx E E') (hn : nx ≤ nx') {G2 : Hp M} {fr : Nat → Bool}
    (hfr : ∀ id, fr id = true → (hget G id).isSome = true ∧ hget h1 id = none) (hG : ∀ id, hget G2 id = if fr id = true then hget G id else hget h2 id) :
    ∃ own'', Inv B w0 E' own'' G2 nx' w' := by
  have hno : ∀ b, ¬ B b → ¬ Part B own G h1 b := fun b hb h => hb h.1
  refine ⟨fun id => if fr id = true then own id else own' id, ⟨J.kept.os.trans I.kept.os, J.kept.tape.trans I.kept.tape, J.kept.output.trans I.kept.output, Nat.le_trans I.kept.size J.kept.size, fun b hb => ?_⟩, I.new, J.dom, ?_, ?_, ?_⟩
  · rw [J.kept.block b (hno b hb), I.kept.block b hb]
  · intro id o hid
    rw [hG] at hid
    by_cases hf : fr id = true
    · simp only [if_pos hf] at hid ⊢
      obtain ⟨e, he, hO⟩ := I.obj id o hid
      refine ⟨e, hE.2 _ _ he, (hO.ext hE.2).world fun b hb => J.kept.block b fun hp => ?_⟩
      exact hp.2 id (hfr id hf).1 (hfr id hf).2 hb
    · simp only [if_neg hf] at hid ⊢
      exact J.obj id o hid
  · intro i j hi hj hij b hbi hbj
    rw [hG] at hi hj
    by_cases hfi : fr i = true <;> by_cases hfj : fr j = true
    · simp only [if_pos hfi, if_pos hfj] at hi hj hbi hbj
      exact I.disj i j hi hj hij b hbi hbj
    · simp only [if_pos hfi, if_neg hfj] at hi hj hbi hbj
      obtain ⟨o, ho⟩ := Option.isSome_iff_exists.1 hj
      exact (J.may j o ho b hbj).2 i (hfr i hfi).1 (hfr i hfi).2 hbi
    · simp only [if_neg hfi, if_pos hfj] at hi hj hbi hbj
      obtain ⟨o, ho⟩ := Option.isSome_iff_exists.1 hi
      exact (J.may i o ho b hbi).2 j (hfr j hfj).1 (hfr j hfj).2 hbj
    · simp only [if_neg hfi, if_neg hfj] at hi hj hbi hbj
      exact J.disj i j hi hj hij b hbi hbj
  · intro id o hid b hb
    rw [hG] at hid
    by_cases hf : fr id = true
    · simp only [if_pos hf] at hid hb
      exact I.may id o hid b hb
    · simp only [if_neg hf] at hid hb
      exact (J.may id o hid b hb).1

/-- a heap that reads the same -/
theorem Inv.congr (I : Inv B w0 E own G nx w) (h : ∀ id, hget h1 id = hget G id) : Inv B w0 E own h1 nx w := I.forget fun id o hid => by rw [← h]; exact hid

/-- operations that look at the same values -/
theorem opL_congr {ρ ρ' : Operand → LV} {h : Hp M} {o : Oper} (hρ : ∀ x ∈ o.op.operands.toList, ρ x = ρ' x) : opL P ρ h nx o = opL P ρ' h nx o := by
  obtain ⟨dst, op, type, pos, after, guard⟩ := o
  have opt : ∀ (x : Option Operand), (∀ y ∈ x.toArray.toList, ρ y = ρ' y) → x.map ρ = x.map ρ' := by
    intro x hx
    cases x with
    | none => rfl
    | some x => simp [hx x (by simp)]
  cases op <;> simp only [Op.operands] at hρ <;> simp only [opL]
  case move x => rw [hρ x (by simp)]
  case assign x => rw [hρ x (by simp)]
  case pick c a b => rw [hρ c (by simp), hρ a (by simp), hρ b (by simp)]
  case box t x => rw [hρ x (by simp)]
  case build t ps =>
    rw [List.map_congr_left fun p hp => ?_]
    rw [hρ p.2 (by simpa using ⟨p.1, by simpa using hp⟩)]
  case buildSlice t n ps =>
    rw [List.map_congr_left fun p hp => ?_]
    rw [hρ p.2 (by simpa using ⟨p.1, by simpa using hp⟩)]
  case load t x => rw [hρ x (by simp)]
  case store t a x => rw [hρ a (by simp), hρ x (by simp)]
  case nilCheck x => rw [hρ x (by simp)]
  case binOp op t x y yt => rw [hρ x (by simp), hρ y (by simp)]
  case unOp op t x => rw [hρ x (by simp)]
  case convert s d x => rw [hρ x (by simp)]
  case sliceToArrayPointer t x => rw [hρ x (by simp)]
  case makeFunc fn a b =>
    rw [List.map_congr_left (f := ρ) (g := ρ') (l := a.toList) fun x hx => hρ x (by simp at hx ⊢; exact .inl hx),
      List.map_congr_left (f := ρ) (g := ρ') (l := b.toList) fun x hx => hρ x (by simp at hx ⊢; exact .inr hx)]
  case makeChan t n => rw [hρ n (by simp)]
  case makeSlice t l c => rw [hρ l (by simp), hρ c (by simp)]
  case slice t x lo hi mx =>
    rw [hρ x (by simp), opt lo fun y hy => hρ y (by simp at hy ⊢; simp [hy]), opt hi fun y hy => hρ y (by simp at hy ⊢; simp [hy]), opt mx fun y hy => hρ y (by simp at hy ⊢; simp [hy])]
  case fieldAddr t x f => rw [hρ x (by simp)]
  case field t x f => rw [hρ x (by simp)]
  case indexAddr t x i => rw [hρ x (by simp), hρ i (by simp)]
  case index t x i => rw [hρ x (by simp), hρ i (by simp)]
  case lookup t x k ok => rw [hρ x (by simp), hρ k (by simp)]
  case mapUpdate t m k v => rw [hρ m (by simp), hρ k (by simp), hρ v (by simp)]
  case insert t m k v => rw [hρ m (by simp), hρ k (by simp), hρ v (by simp)]
  case extract x i => rw [hρ x (by simp)]
  case call c =>
    obtain ⟨callee, args, argTypes⟩ := c
    cases callee <;> try rfl
    rename_i b
    simp only [Call.operands] at hρ
    have ha : ∀ x ∈ args.toList, ρ x = ρ' x := fun x hx => hρ x (by simp at hx ⊢; exact hx)
    dsimp only
    generalize args.toList = al at ha ⊢
    rcases al with _ | ⟨x, _ | ⟨y, _ | ⟨z, r⟩⟩⟩
    · cases b <;> rfl
    · have hx := ha x (by simp)
      generalize argTypes.toList = tl
      rcases tl with _ | ⟨t, _ | ⟨t2, _ | ⟨t3, tl⟩⟩⟩ <;> cases b <;> first | rfl | simp only [hx]
    · have hx := ha x (by simp)
      have hy := ha y (by simp)
      generalize argTypes.toList = tl
      rcases tl with _ | ⟨t, _ | ⟨t2, _ | ⟨t3, tl⟩⟩⟩ <;> cases b <;> first | rfl | simp only [hx, hy]
    · cases b <;> rfl
  case makeMap t r => cases r <;> rfl

/-- an operation that touches no memory -/
theorem still_opL {ρ : Operand → LV} {h h' : Hp M} {nx nx' : Nat} {o : Oper} (hs : still o.op = true) : opL P ρ h nx o = opL P ρ h' nx' o ∧ (opL P ρ h nx o).up = none := by
  obtain ⟨dst, op, type, pos, after, guard⟩ := o
  cases op <;> try (cases hs; done)
  case move => exact ⟨rfl, rfl⟩
  case assign => exact ⟨rfl, rfl⟩
  case pick c a b => refine ⟨rfl, ?_⟩; simp only [opL]; split <;> rfl
  case build => exact ⟨rfl, build_up⟩
  case nilCheck x => refine ⟨rfl, ?_⟩; simp only [opL]; split <;> rfl
  case binOp => exact ⟨rfl, rfl⟩
  case unOp => exact ⟨rfl, rfl⟩
  case sliceToArrayPointer => exact ⟨rfl, rfl⟩
  case makeFunc => exact ⟨rfl, rfl⟩
  case fieldAddr => exact ⟨rfl, faddr_up⟩
  case field => exact ⟨rfl, rfl⟩
  case indexAddr => exact ⟨rfl, iaddr_up⟩
  case index => exact ⟨rfl, rfl⟩
  case extract => exact ⟨rfl, rfl⟩
end
end Lx

/- The engine, part 20: a variable that is new, under a name that was kept for it. -/
namespace Lx
open Go Go.RowKit

section
variable {M : Type} [Mdl M] {P : Program} {B : Nat → Prop} {w0 w w' : World} {E E' : Env} {own own' : Nat → List Nat} {h : Hp M} {nx nx' : Nat}

theorem Inv.fresh_at (I : Inv B w0 E own h nx w) {r : Nat} {o : LObj M} {e : EI} {ow : List Nat} (hrn : r < nx) (hr : E r = none)
    (hos : w'.os = w.os) (ht : w'.tape = w.tape) (ho : w'.output = w.output) (hsz : w.heap.size ≤ w'.heap.size)
    (hb : ∀ b, b < w.heap.size → w'.heap[b]? = w.heap[b]?) (hO : OR (E.put r e) e o w' ow) (how : ∀ b ∈ ow, w.heap.size ≤ b) :
    Inv B w0 (E.put r e) (fun k => if k = r then ow else own k) ((r, o) :: h) nx w' := by
  have hlt0 : ∀ b, ¬ B b → b < w.heap.size := by
    intro b hB
    rcases Nat.lt_or_ge b w0.heap.size with hl | hl
    · exact Nat.lt_of_lt_of_le hl I.kept.size
    · exact absurd (I.new b hl) hB
  have hget' : ∀ k, hget ((r, o) :: h) k = if k = r then some o else hget h k := by
    intro k
    simp only [hget]
    by_cases hk : k = r
    · subst hk; simp
    · rw [if_neg hk, show (r == k) = false from by simp; omega]; rfl
  refine ⟨⟨hos.trans I.kept.os, ht.trans I.kept.tape, ho.trans I.kept.output, Nat.le_trans I.kept.size hsz, fun b hB => ?_⟩, I.new, ?_, ?_, ?_, ?_⟩
  · rw [hb b (hlt0 b hB)]; exact I.kept.block b hB
  · intro id x hx
    unfold Env.put at hx
    split at hx
    · omega
    · exact I.dom id x hx
  · intro k x hk
    rw [hget'] at hk
    by_cases hkn : k = r
    · subst hkn
      rw [if_pos rfl] at hk; cases hk
      exact ⟨e, Env.put_same _ _ _, by rw [if_pos rfl]; exact hO⟩
    · rw [if_neg hkn] at hk
      obtain ⟨e', he', hO'⟩ := I.obj k x hk
      refine ⟨e', Ext.put hr _ _ he', ?_⟩
      rw [if_neg hkn]
      exact (hO'.ext (Ext.put hr)).world fun b hbk => hb b (I.lt hk b hbk)
  · intro i j hi hj hij b hbi hbj
    rw [hget'] at hi hj
    by_cases hin : i = r
    · have hjn : j ≠ r := fun h => hij (hin.trans h.symm)
      simp only [hin, if_true] at hbi
      simp only [hjn, if_false] at hbj hj
      obtain ⟨x, hx⟩ := Option.isSome_iff_exists.1 hj
      exact absurd (I.lt hx b hbj) (by have := how b hbi; omega)
    · simp only [hin, if_false] at hbi hi
      obtain ⟨x, hx⟩ := Option.isSome_iff_exists.1 hi
      by_cases hjn : j = r
      · simp only [hjn, if_true] at hbj
        exact absurd (I.lt hx b hbi) (by have := how b hbj; omega)
      · simp only [hjn, if_false] at hbj hj
        exact I.disj i j hi hj hij b hbi hbj
  · intro k x hk b hbk
    rw [hget'] at hk
    by_cases hkn : k = r
    · simp only [hkn, if_true] at hbk
      exact I.new b (Nat.le_trans I.kept.size (how b hbk))
    · simp only [hkn, if_false] at hbk hk
      exact I.may k x hk b hbk

theorem alloc_at (I : Inv B w0 E own h nx w) {r : Nat} {t : TypeId} {cs : List LV} (hrn : r < nx) (hr : E r = none) (hz : zcells P t = some cs) (h1 : cs.all LV.one = true) (h2 : 0 < cs.length) :
    ∃ e own' v w', (Instr.alloc t true (.tuple #[])).run P w = .ok v w' ∧ Inv B w0 (E.put r e) own' ((r, .st t cs) :: h) nx w' ∧ VR (E.put r e) (.p r 0 1 0 0) v := by
  unfold zcells at hz
  simp only [Option.map_eq_some_iff, Option.bind_eq_some_iff] at hz
  obtain ⟨z, ⟨i, hi, hzi⟩, rfl⟩ := hz
  have hcells := ofValue_cells_ok (E := E) z ⟨h1, h2⟩
  refine ⟨newEI w z.cells.size, fun k => if k = r then [w.heap.size] else own k, .pointer (some ⟨w.heap.size, 0, none⟩), w.alloc (.cells z.cells t), by simp [Instr.alloc, zeroValue, typeInfo, hi, hzi, newVar, newRow], ?_, VR.p (e := newEI w z.cells.size) (Env.put_same _ _ _)⟩
  refine I.fresh_at (ow := [w.heap.size]) hrn hr rfl rfl rfl (by simp) (fun b hb => Below.heap_alloc _ _ _ hb) ?_ (by simp)
  exact .st (vs := z.cells) (heap_alloc_new w _) (hcells.ext (Ext.put hr)) (by simpa using h1) rfl

/-! masks: a set that is closed under 'after' holds all that an operation waits for -/
theorem maskO_bit {prev : List Nat} {o : Oper} {k : Nat} (h : (maskO prev o).testBit k = true) : ∃ e ∈ o.after.toList, Region.binds .any e = true ∧ (k = e.on ∨ (prev.getD e.on 0).testBit k = true) := by
  unfold maskO at h
  have key : ∀ (l : List Edge) (s : Nat), (l.foldl (fun s e => bif Region.binds .any e then s ||| 2 ^ e.on ||| prev.getD e.on 0 else s) s).testBit k = true →
      s.testBit k = true ∨ ∃ e ∈ l, Region.binds .any e = true ∧ (k = e.on ∨ (prev.getD e.on 0).testBit k = true) := by
    intro l
    induction l with
    | nil => intro s hs; exact .inl hs
    | cons e l ih =>
      intro s hs
      simp only [List.foldl_cons] at hs
      rcases ih _ hs with h1 | ⟨e', h1, h2, h3⟩
      · cases hb : Region.binds .any e with
        | false => rw [hb] at h1; exact .inl h1
        | true =>
          rw [hb] at h1
          simp only [cond_true, Nat.testBit_or, Bool.or_eq_true, Nat.testBit_two_pow] at h1
          rcases h1 with (h1 | h1) | h1
          · exact .inl h1
          · exact .inr ⟨e, by simp, hb, .inl (by simpa using h1 : e.on = k).symm⟩
          · exact .inr ⟨e, by simp, hb, .inr h1⟩
      · exact .inr ⟨e', by simp [h1], h2, h3⟩
  rcases key _ _ h with h1 | h1
  · simp at h1
  · exact h1

abbrev Fl := Nat × Nat × TypeId × List LV
omit [Mdl M] in
theorem joinF_none {mask id : Nat} : ∀ {fl : List Fl}, (∀ x ∈ fl, mask.testBit x.1 = true → x.2.1 ≠ id) → hget (joinF mask fl h) id = hget h id
  | [], _ => rfl
  | (i, r, t, cs) :: fl, hx => by
    have ih := joinF_none (fl := fl) fun x hxm => hx x (by simp [hxm])
    simp only [joinF]
    cases hb : mask.testBit i with
    | false => exact ih
    | true =>
      have := hx (i, r, t, cs) (by simp) hb
      simp only [cond_true, hget]
      rw [show (r == id) = false from by simpa using this]
      exact ih
omit [Mdl M] in
theorem joinF_some {mask : Nat} : ∀ {fl : List Fl} {x : Fl}, (∀ y ∈ fl, y.2.1 = x.2.1 → y = x) → x ∈ fl → mask.testBit x.1 = true → hget (joinF mask fl h) x.2.1 = some (.st x.2.2.1 x.2.2.2)
  | (i, r, t, cs) :: fl, x, hu, hx, hm => by
    simp only [joinF]
    by_cases hr : r = x.2.1
    · have := hu (i, r, t, cs) (by simp) hr
      subst this
      simp only at hm ⊢
      rw [hm]
      simp [hget]
    · have hx' : x ∈ fl := by
        rcases List.mem_cons.1 hx with h | h
        · subst h; exact absurd rfl hr
        · exact h
      have ih := joinF_some (fl := fl) (x := x) (fun y hy => hu y (by simp [hy])) hx' hm
      cases hb : mask.testBit i with
      | false => exact ih
      | true =>
        simp only [cond_true, hget]
        rw [show (r == x.2.1) = false from by simpa using hr]
        exact ih
omit [Mdl M] in
theorem mem_leftF {mask : Nat} {x : Fl} : ∀ {fl : List Fl}, x ∈ leftF mask fl ↔ x ∈ fl ∧ mask.testBit x.1 = false
  | [] => by simp [leftF]
  | (i, r, t, cs) :: fl => by
    have ih : x ∈ leftF mask fl ↔ x ∈ fl ∧ mask.testBit x.1 = false := mem_leftF
    simp only [leftF]
    cases hb : mask.testBit i with
    | false =>
      simp only [cond_false, List.mem_cons, ih]
      constructor
      · rintro (rfl | ⟨h1, h2⟩)
        · exact ⟨.inl rfl, hb⟩
        · exact ⟨.inr h1, h2⟩
      · rintro ⟨rfl | h1, h2⟩
        · exact .inl rfl
        · exact .inr ⟨h1, h2⟩
    | true =>
      simp only [cond_true, ih, List.mem_cons]
      constructor
      · rintro ⟨h1, h2⟩; exact ⟨.inr h1, h2⟩
      · rintro ⟨rfl | h1, h2⟩
        · rw [hb] at h2; cases h2
        · exact ⟨h1, h2⟩
end
end Lx

/- The engine, part 21: the run of a region in the order of the text, as a relation. -/
namespace Lx
open Go Go.RowKit

section
variable {M : Type} [Mdl M]

inductive Dr (P : Program) (call yield : CallF M) (ops : Array Oper) (nt base : Nat) : List Oper → List Nat → Nat → List (Nat × LV) → Stage M → List Rec → List (Stage M) → List (Nat × LV) → Prop
  | nil {ms i env sg} : Dr P call yield ops nt base [] ms i env sg [] [sg] env
  | off {o r mask ms i env sg recs sgs env'} : mask < 2 ^ i → wantedL ops env o = some false → Dr P call yield ops nt base r ms (i + 1) (putL nt env o.dst .any) sg recs sgs env' →
      Dr P call yield ops nt base (o :: r) (mask :: ms) i env sg (⟨.off, .any, env, o, mask⟩ :: recs) sgs env'
  | float {o r mask ms i env sg recs sgs env' t cs} : mask < 2 ^ i → wantedL ops env o = some true → o.op = .alloc t → zcells P t = some cs → cs.all LV.one = true → 0 < cs.length →
      Dr P call yield ops nt base r ms (i + 1) (putL nt env o.dst (.p (base + i) 0 1 0 0)) { sg with fl := (i, base + i, t, cs) :: sg.fl } recs sgs env' →
      Dr P call yield ops nt base (o :: r) (mask :: ms) i env sg (⟨.float t cs, .p (base + i) 0 1 0 0, env, o, mask⟩ :: recs) sgs env'
  | upd {o r mask ms i env sg recs sgs env' v h nx} : mask < 2 ^ i → wantedL ops env o = some true → isAlloc o.op = none → stepO P call yield env (joinF mask sg.fl sg.h) sg.nx o = .ok (v, h, nx) →
      (sg.n = 0 ∨ mask.testBit sg.last = true) → Dr P call yield ops nt base r ms (i + 1) (putL nt env o.dst v) ⟨h, nx, sg.past ||| mask ||| 2 ^ i, i, sg.n + 1, leftF mask sg.fl⟩ recs sgs env' →
      Dr P call yield ops nt base (o :: r) (mask :: ms) i env sg (⟨.upd, v, env, o, mask⟩ :: recs) (sg :: sgs) env'
  | pure {o r mask ms i env sg recs sgs env'} : mask < 2 ^ i → wantedL ops env o = some true → isAlloc o.op = none → calls o.op = false →
      (opL P (evO env) (joinF mask sg.fl sg.h) sg.nx o).pre → (opL P (evO env) (joinF mask sg.fl sg.h) sg.nx o).up = none →
      Dr P call yield ops nt base r ms (i + 1) (putL nt env o.dst (opL P (evO env) (joinF mask sg.fl sg.h) sg.nx o).v) sg recs sgs env' →
      Dr P call yield ops nt base (o :: r) (mask :: ms) i env sg (⟨bif still o.op then .still else .reads, (opL P (evO env) (joinF mask sg.fl sg.h) sg.nx o).v, env, o, mask⟩ :: recs) sgs env'

theorem isAlloc_some {op : Op} {t : TypeId} (h : isAlloc op = some t) : op = .alloc t := by
  cases op <;> simp only [isAlloc, reduceCtorEq, Option.some.injEq] at h
  rw [h]

theorem stepO_pure {P : Program} {call yield : CallF M} {env : List (Nat × LV)} {h h' : Hp M} {nx nx' : Nat} {o : Oper} {v : LV} (hc : calls o.op = false) (hs : stepO P call yield env h nx o = .ok (v, h', nx')) :
    (opL P (evO env) h nx o).pre ∧ v = (opL P (evO env) h nx o).v ∧ h' = (opL P (evO env) h nx o).h h ∧ nx' = (opL P (evO env) h nx o).nx nx := by
  have rest : (if (opL P (evO env) h nx o).pre then Rz.ok ((opL P (evO env) h nx o).v, (opL P (evO env) h nx o).h h, (opL P (evO env) h nx o).nx nx) else Rz.no o.pos) = .ok (v, h', nx') →
      (opL P (evO env) h nx o).pre ∧ v = (opL P (evO env) h nx o).v ∧ h' = (opL P (evO env) h nx o).h h ∧ nx' = (opL P (evO env) h nx o).nx nx := by
    intro hs
    split at hs
    · rename_i hp; cases hs; exact ⟨hp, rfl, rfl, rfl⟩
    · cases hs
  obtain ⟨dst, op, type, pos, after, guard⟩ := o
  cases op <;> try exact rest hs
  rename_i c
  obtain ⟨callee, args, argTypes⟩ := c
  cases callee <;> try exact rest hs
  cases hc

theorem drawGo_dr {P : Program} {call yield : CallF M} {ops : Array Oper} {nt base : Nat} : ∀ (l : List Oper) (ms : List Nat) (i : Nat) (env : List (Nat × LV)) (sg : Stage M) (recs : List Rec) (sgs : List (Stage M)) (env' : List (Nat × LV)),
    drawGo P call yield ops nt base l ms i env sg = .ok (recs, sgs, env') → Dr P call yield ops nt base l ms i env sg recs sgs env'
  | [], ms, i, env, sg, recs, sgs, env', h => by
    simp only [drawGo] at h
    cases h
    exact .nil
  | o :: r, [], i, env, sg, recs, sgs, env', h => by cases h
  | o :: r, mask :: ms, i, env, sg, recs, sgs, env', h => by
    simp only [drawGo] at h
    cases hm : Nat.blt mask (2 ^ i) with
    | false => rw [hm] at h; cases h
    | true =>
      rw [hm] at h
      simp only [cond_true] at h
      have hm' : mask < 2 ^ i := by rwa [Nat.blt_eq] at hm
      cases hw : wantedL ops env o with
      | none => rw [hw] at h; cases h
      | some b =>
        rw [hw] at h
        cases b with
        | false =>
          simp only at h
          cases ht : drawGo P call yield ops nt base r ms (i + 1) (putL nt env o.dst .any) sg with
          | no w => rw [ht] at h; cases h
          | ok x =>
            obtain ⟨recs1, sgs1, env1⟩ := x
            rw [ht] at h
            cases h
            exact .off hm' hw (drawGo_dr r ms (i + 1) _ _ _ _ _ ht)
        | true =>
          simp only at h
          cases ha : isAlloc o.op with
          | some t =>
            rw [ha] at h
            simp only at h
            cases hz : zcells P t with
            | none => rw [hz] at h; cases h
            | some cs =>
              rw [hz] at h
              simp only at h
              cases hc : (cs.all LV.one && Nat.blt 0 cs.length) with
              | false => rw [hc] at h; cases h
              | true =>
                rw [hc] at h
                simp only [cond_true] at h
                rw [Bool.and_eq_true, Nat.blt_eq] at hc
                cases ht : drawGo P call yield ops nt base r ms (i + 1) (putL nt env o.dst (.p (base + i) 0 1 0 0)) { sg with fl := (i, base + i, t, cs) :: sg.fl } with
                | no w => rw [ht] at h; cases h
                | ok x =>
                  obtain ⟨recs1, sgs1, env1⟩ := x
                  rw [ht] at h
                  cases h
                  exact .float hm' hw (isAlloc_some ha) hz hc.1 hc.2 (drawGo_dr r ms (i + 1) _ _ _ _ _ ht)
          | none =>
            rw [ha] at h
            simp only at h
            cases hs : stepO P call yield env (joinF mask sg.fl sg.h) sg.nx o with
            | no w => rw [hs] at h; cases h
            | ok y =>
              obtain ⟨v, h1, nx1⟩ := y
              rw [hs] at h
              simp only at h
              cases hu : (calls o.op || (opL P (evO env) (joinF mask sg.fl sg.h) sg.nx o).up.isSome) with
              | true =>
                rw [hu] at h
                simp only [cond_true] at h
                cases ho : ((sg.n == 0) || mask.testBit sg.last) with
                | false => rw [ho] at h; cases h
                | true =>
                  rw [ho] at h
                  simp only [cond_true] at h
                  cases ht : drawGo P call yield ops nt base r ms (i + 1) (putL nt env o.dst v) ⟨h1, nx1, sg.past ||| mask ||| 2 ^ i, i, sg.n + 1, leftF mask sg.fl⟩ with
                  | no w => rw [ht] at h; cases h
                  | ok x =>
                    obtain ⟨recs1, sgs1, env1⟩ := x
                    rw [ht] at h
                    cases h
                    refine .upd hm' hw ha hs ?_ (drawGo_dr r ms (i + 1) _ _ _ _ _ ht)
                    simpa using ho
              | false =>
                rw [hu] at h
                simp only [cond_false] at h
                simp only [Bool.or_eq_false_iff, Option.isSome_eq_false_iff, Option.isNone_iff_eq_none] at hu
                obtain ⟨hp, rfl, _, _⟩ := stepO_pure hu.1 hs
                cases ht : drawGo P call yield ops nt base r ms (i + 1) (putL nt env o.dst (opL P (evO env) (joinF mask sg.fl sg.h) sg.nx o).v) sg with
                | no w => rw [ht] at h; cases h
                | ok x =>
                  obtain ⟨recs1, sgs1, env1⟩ := x
                  rw [ht] at h
                  cases h
                  exact .pure hm' hw ha hu.1 hp hu.2 (drawGo_dr r ms (i + 1) _ _ _ _ _ ht)
end
end Lx

/- The engine, part 22: what each record and each stage of such a run is. -/
namespace Lx
open Go Go.RowKit

section
variable {M : Type} [Mdl M]

def kdOff : Kd → Bool
  | .off => true
  | _ => false
/-- what a record says -/
def RecIs (P : Program) (call yield : CallF M) (base : Nat) (sgs : List (Stage M)) (q : Nat) (rc : Rec) : Prop :=
  match rc.kd with
  | .off => rc.v = .any
  | .float t cs => rc.o.op = .alloc t ∧ zcells P t = some cs ∧ cs.all LV.one = true ∧ 0 < cs.length ∧ rc.v = .p (base + q) 0 1 0 0
  | .upd => ∃ (k : Nat) (x y : Stage M), sgs[k]? = some x ∧ sgs[k + 1]? = some y ∧ stepO P call yield rc.env (joinF rc.mask x.fl x.h) x.nx rc.o = .ok (rc.v, y.h, y.nx) ∧ y.past = x.past ||| rc.mask ||| 2 ^ q ∧ y.last = q ∧ y.n = x.n + 1 ∧
      (x.n = 0 ∨ rc.mask.testBit x.last = true) ∧ isAlloc rc.o.op = none
  | .still => still rc.o.op = true ∧ calls rc.o.op = false ∧ isAlloc rc.o.op = none ∧ ∃ h nx, (opL (M := M) P (evO rc.env) h nx rc.o).pre ∧ rc.v = (opL P (evO rc.env) h nx rc.o).v
  | .reads => calls rc.o.op = false ∧ isAlloc rc.o.op = none

theorem Dr.acc {P : Program} {call yield : CallF M} {ops : Array Oper} {nt base : Nat} {l : List Oper} {ms : List Nat} {i : Nat} {env : List (Nat × LV)} {sg : Stage M} {recs : List Rec} {sgs : List (Stage M)} {env' : List (Nat × LV)}
    (D : Dr P call yield ops nt base l ms i env sg recs sgs env') :
    (∃ x rest, sgs = x :: rest ∧ x.h = sg.h ∧ x.nx = sg.nx ∧ x.past = sg.past ∧ x.last = sg.last ∧ x.n = sg.n ∧ ∀ f ∈ sg.fl, f ∈ x.fl) ∧ recs.length = l.length ∧
    ∀ (j : Nat) rc, recs[j]? = some rc → l[j]? = some rc.o ∧ ms[j]? = some rc.mask ∧ rc.mask < 2 ^ (i + j) ∧ wantedL ops rc.env rc.o = some (!kdOff rc.kd) ∧ RecIs P call yield base sgs (i + j) rc := by
  -- a record's word, behind one stage more
  have more : ∀ {sgs : List (Stage M)} {q : Nat} {rc : Rec} (x : Stage M), RecIs P call yield base sgs q rc → RecIs P call yield base (x :: sgs) q rc := by
    intro sgs q rc x h
    unfold RecIs at *
    cases hk : rc.kd <;> rw [hk] at h <;> try exact h
    obtain ⟨k, a, b, h1, h2, h3⟩ := h
    exact ⟨k + 1, a, b, by simpa using h1, by simpa using h2, h3⟩
  induction D with
  | nil => exact ⟨⟨_, _, rfl, rfl, rfl, rfl, rfl, rfl, fun _ h => h⟩, rfl, fun j rc h => by simp at h⟩
  | @off o r mask ms i env sg recs sgs env' hm hw _ ih =>
    obtain ⟨h1, h2, h3⟩ := ih
    refine ⟨h1, by simp [h2], fun j rc hj => ?_⟩
    cases j with
    | zero => simp at hj; subst hj; exact ⟨rfl, rfl, by simpa using hm, hw, rfl⟩
    | succ j => have := h3 j rc (by simpa using hj); rw [show i + (j + 1) = i + 1 + j by omega]; simpa using this
  | @float o r mask ms i env sg recs sgs env' t cs hm hw ho hz ha hl _ ih =>
    obtain ⟨⟨x, rest, g0, g1, g2, g3, g4, g5, g6⟩, h2, h3⟩ := ih
    refine ⟨⟨x, rest, g0, g1, g2, g3, g4, g5, fun f hf => g6 f (by simp [hf])⟩, by simp [h2], fun j rc hj => ?_⟩
    cases j with
    | zero => simp at hj; subst hj; exact ⟨rfl, rfl, by simpa using hm, hw, ho, hz, ha, hl, rfl⟩
    | succ j => have := h3 j rc (by simpa using hj); rw [show i + (j + 1) = i + 1 + j by omega]; simpa using this
  | @upd o r mask ms i env sg recs sgs env' v h nx hm hw ha hs ho _ ih =>
    obtain ⟨⟨x, rest, g0, g1, g2, g3, g4, g5, g6⟩, h2, h3⟩ := ih
    refine ⟨⟨sg, sgs, rfl, rfl, rfl, rfl, rfl, rfl, fun f hf => hf⟩, by simp [h2], fun j rc hj => ?_⟩
    cases j with
    | zero =>
      simp at hj; subst hj
      refine ⟨rfl, rfl, by simpa using hm, hw, 0, sg, x, rfl, by rw [g0]; rfl, ?_, g3, g4, g5, ho, ha⟩
      rw [g1, g2]; exact hs
    | succ j =>
      obtain ⟨a, b, c, d, e⟩ := h3 j rc (by simpa using hj)
      rw [show i + (j + 1) = i + 1 + j by omega]
      exact ⟨by simpa using a, by simpa using b, c, d, more sg e⟩
  | @pure o r mask ms i env sg recs sgs env' hm hw ha hc hp hu _ ih =>
    obtain ⟨h1, h2, h3⟩ := ih
    refine ⟨h1, by simp [h2], fun j rc hj => ?_⟩
    cases j with
    | zero =>
      simp at hj; subst hj
      refine ⟨rfl, rfl, by simpa using hm, ?_, ?_⟩
      · simp only; rw [hw]; cases still o.op <;> rfl
      · unfold RecIs
        simp only
        cases hst : still o.op with
        | true => exact ⟨rfl, hc, ha, _, _, hp, rfl⟩
        | false => exact ⟨hc, ha⟩
    | succ j => have := h3 j rc (by simpa using hj); rw [show i + (j + 1) = i + 1 + j by omega]; simpa using this

/-- a stage comes of an update -/
theorem Dr.stages {P : Program} {call yield : CallF M} {ops : Array Oper} {nt base : Nat} {l : List Oper} {ms : List Nat} {i : Nat} {env : List (Nat × LV)} {sg : Stage M} {recs : List Rec} {sgs : List (Stage M)} {env' : List (Nat × LV)}
    (D : Dr P call yield ops nt base l ms i env sg recs sgs env') :
    ∀ (k : Nat) (x y : Stage M), sgs[k]? = some x → sgs[k + 1]? = some y → ∃ j rc, recs[j]? = some rc ∧ (match rc.kd with | .upd => True | _ => False) ∧ y.last = i + j ∧ y.past = x.past ||| rc.mask ||| 2 ^ (i + j) ∧ y.n = x.n + 1 ∧
      (x.n = 0 ∨ rc.mask.testBit x.last = true) := by
  induction D with
  | nil => intro k x y _ hy; simp at hy
  | @off o r mask ms i env sg recs sgs env' hm hw _ ih =>
    intro k x y hx hy
    obtain ⟨j, rc, h1, h2, h3⟩ := ih k x y hx hy
    exact ⟨j + 1, rc, by simpa using h1, h2, by rw [show i + (j + 1) = i + 1 + j by omega]; exact h3⟩
  | @float o r mask ms i env sg recs sgs env' t cs hm hw ho hz ha hl _ ih =>
    intro k x y hx hy
    obtain ⟨j, rc, h1, h2, h3⟩ := ih k x y hx hy
    exact ⟨j + 1, rc, by simpa using h1, h2, by rw [show i + (j + 1) = i + 1 + j by omega]; exact h3⟩
  | @upd o r mask ms i env sg recs sgs env' v h nx hm hw ha hs ho D' ih =>
    intro k x y hx hy
    cases k with
    | zero =>
      obtain ⟨⟨z, rest, g0, g1, g2, g3, g4, g5, g6⟩, _⟩ := D'.acc
      simp at hx
      subst hx
      rw [g0] at hy
      simp at hy
      subst hy
      exact ⟨0, _, rfl, trivial, g4, g3, g5, ho⟩
    | succ k =>
      obtain ⟨j, rc, h1, h2, h3⟩ := ih k x y (by simpa using hx) (by simpa using hy)
      exact ⟨j + 1, rc, by simpa using h1, h2, by rw [show i + (j + 1) = i + 1 + j by omega]; exact h3⟩
  | @pure o r mask ms i env sg recs sgs env' hm hw ha hc hp hu _ ih =>
    intro k x y hx hy
    obtain ⟨j, rc, h1, h2, h3⟩ := ih k x y hx hy
    exact ⟨j + 1, rc, by simpa using h1, h2, by rw [show i + (j + 1) = i + 1 + j by omega]; exact h3⟩
end
end Lx

/- The engine, part 23: the variables that a stage keeps. -/
namespace Lx
open Go Go.RowKit

theorem bit_lt {m i b : Nat} (hm : m < 2 ^ i) (hb : m.testBit b = true) : b < i := by
  rcases Nat.lt_or_ge b i with h | h
  · exact h
  · have : m.testBit b = false := Nat.testBit_lt_two_pow (Nat.lt_of_lt_of_le hm (Nat.pow_le_pow_right (by omega) h))
    rw [this] at hb; cases hb

section
variable {M : Type} [Mdl M] {P : Program} {call yield : CallF M} {ops : Array Oper} {nt base : Nat} {l : List Oper} {ms : List Nat} {i : Nat} {env : List (Nat × LV)} {sg : Stage M} {recs : List Rec} {sgs : List (Stage M)} {env' : List (Nat × LV)}

theorem Dr.past_mono (D : Dr P call yield ops nt base l ms i env sg recs sgs env') : ∀ (k : Nat) (x : Stage M), sgs[k]? = some x → ∀ b, sg.past.testBit b = true → x.past.testBit b = true := by
  induction D with
  | nil => intro k x hx b hb; cases k with
    | zero => simp at hx; subst hx; exact hb
    | succ k => simp at hx
  | off _ _ _ ih => exact ih
  | float _ _ _ _ _ _ _ ih => exact ih
  | pure _ _ _ _ _ _ _ ih => exact ih
  | upd _ _ _ _ _ _ ih =>
    intro k x hx b hb
    cases k with
    | zero => simp at hx; subst hx; exact hb
    | succ k => exact ih k x (by simpa using hx) b (by simp [Nat.testBit_or, hb])

theorem Dr.fl_sound (D : Dr P call yield ops nt base l ms i env sg recs sgs env') : (∀ f ∈ sg.fl, sg.past.testBit f.1 = false ∧ f.1 < i) → (∀ b, sg.past.testBit b = true → b < i) →
    ∀ (k : Nat) (x : Stage M), sgs[k]? = some x → ∀ f ∈ x.fl, x.past.testBit f.1 = false ∧ (f ∈ sg.fl ∨ ∃ j rc t cs, recs[j]? = some rc ∧ rc.kd = .float t cs ∧ f = (i + j, base + (i + j), t, cs)) := by
  have shift : ∀ {recs : List Rec} {i : Nat} {f : Fl} {r0 : Rec}, (∃ j rc t cs, recs[j]? = some rc ∧ rc.kd = .float t cs ∧ f = (i + 1 + j, base + (i + 1 + j), t, cs)) →
      ∃ j rc t cs, (r0 :: recs)[j]? = some rc ∧ rc.kd = .float t cs ∧ f = (i + j, base + (i + j), t, cs) := by
    rintro recs i f r0 ⟨j, rc, t, cs, h1, h2, h3⟩
    exact ⟨j + 1, rc, t, cs, by simpa using h1, h2, by rw [show i + (j + 1) = i + 1 + j by omega]; exact h3⟩
  induction D with
  | nil => intro h0 _ k x hx f hf; cases k with
    | zero => simp at hx; subst hx; exact ⟨(h0 f hf).1, .inl hf⟩
    | succ k => simp at hx
  | off _ _ _ ih =>
    intro h0 hb k x hx f hf
    obtain ⟨h1, h2⟩ := ih (fun f hf => ⟨(h0 f hf).1, by have := (h0 f hf).2; omega⟩) (fun b hb' => by have := hb b hb'; omega) k x hx f hf
    exact ⟨h1, h2.imp id shift⟩
  | pure _ _ _ _ _ _ _ ih =>
    intro h0 hb k x hx f hf
    obtain ⟨h1, h2⟩ := ih (fun f hf => ⟨(h0 f hf).1, by have := (h0 f hf).2; omega⟩) (fun b hb' => by have := hb b hb'; omega) k x hx f hf
    exact ⟨h1, h2.imp id shift⟩
  | @float o r mask ms i env sg recs sgs env' t cs _ _ _ _ _ _ _ ih =>
    intro h0 hb k x hx f hf
    have hi : sg.past.testBit i = false := by
      cases hq : sg.past.testBit i with
      | false => rfl
      | true => have := hb i hq; omega
    obtain ⟨h1, h2⟩ := ih (fun f hf => by
      rcases List.mem_cons.1 hf with rfl | hf
      · exact ⟨hi, by simp⟩
      · exact ⟨(h0 f hf).1, by have := (h0 f hf).2; omega⟩) (fun b hb' => by have := hb b hb'; omega) k x hx f hf
    refine ⟨h1, ?_⟩
    rcases h2 with h2 | h2
    · rcases List.mem_cons.1 h2 with rfl | h2
      · exact .inr ⟨0, _, t, cs, rfl, rfl, rfl⟩
      · exact .inl h2
    · exact .inr (shift h2)
  | @upd o r mask ms i env sg recs sgs env' v h nx hm _ _ _ _ _ ih =>
    intro h0 hb k x hx f hf
    cases k with
    | zero => simp at hx; subst hx; exact ⟨(h0 f hf).1, .inl hf⟩
    | succ k =>
      obtain ⟨h1, h2⟩ := ih (fun f hf => by
        obtain ⟨g1, g2⟩ := mem_leftF.1 hf
        obtain ⟨g3, g4⟩ := h0 f g1
        refine ⟨?_, by omega⟩
        simp only [Nat.testBit_or, g3, g2, Bool.or_self, Bool.false_or, Nat.testBit_two_pow]
        simp; omega) (fun b hb' => by
        simp only [Nat.testBit_or, Bool.or_eq_true, Nat.testBit_two_pow] at hb'
        rcases hb' with (hb' | hb') | hb'
        · have := hb b hb'; omega
        · have := bit_lt hm hb'; omega
        · simp at hb'; omega) k x (by simpa using hx) f hf
      exact ⟨h1, h2.imp (fun h => (mem_leftF.1 h).1) shift⟩

theorem Dr.fl_full (D : Dr P call yield ops nt base l ms i env sg recs sgs env') : ∀ (k : Nat) (x : Stage M), sgs[k]? = some x →
    (∀ f ∈ sg.fl, x.past.testBit f.1 = false → f ∈ x.fl) ∧
    ∀ j rc t cs, recs[j]? = some rc → rc.kd = .float t cs → x.past.testBit (i + j) = false → (∀ y, sgs[k + 1]? = some y → i + j < y.last) → (i + j, base + (i + j), t, cs) ∈ x.fl := by
  induction D with
  | nil => intro k x hx; cases k with
    | zero => simp at hx; subst hx; exact ⟨fun f hf _ => hf, fun j rc t cs h => by simp at h⟩
    | succ k => simp at hx
  | @off o r mask ms i env sg recs sgs env' _ _ _ ih =>
    intro k x hx
    obtain ⟨h1, h2⟩ := ih k x hx
    refine ⟨h1, fun j rc t cs hj hk hp hy => ?_⟩
    cases j with
    | zero => simp at hj; subst hj; cases hk
    | succ j => rw [show i + (j + 1) = i + 1 + j by omega] at *; exact h2 j rc t cs (by simpa using hj) hk hp hy
  | @pure o r mask ms i env sg recs sgs env' _ _ _ _ _ _ _ ih =>
    intro k x hx
    obtain ⟨h1, h2⟩ := ih k x hx
    refine ⟨h1, fun j rc t cs hj hk hp hy => ?_⟩
    cases j with
    | zero => simp at hj; subst hj; simp only at hk; cases hst : still o.op <;> rw [hst] at hk <;> cases hk
    | succ j => rw [show i + (j + 1) = i + 1 + j by omega] at *; exact h2 j rc t cs (by simpa using hj) hk hp hy
  | @float o r mask ms i env sg recs sgs env' t0 cs0 _ _ _ _ _ _ _ ih =>
    intro k x hx
    obtain ⟨h1, h2⟩ := ih k x hx
    refine ⟨fun f hf => h1 f (by simp [hf]), fun j rc t cs hj hk hp hy => ?_⟩
    cases j with
    | zero => simp at hj; subst hj; cases hk; exact h1 _ (by simp) hp
    | succ j => rw [show i + (j + 1) = i + 1 + j by omega] at *; exact h2 j rc t cs (by simpa using hj) hk hp hy
  | @upd o r mask ms i env sg recs sgs env' v h nx hm _ _ _ _ D' ih =>
    intro k x hx
    cases k with
    | zero =>
      simp at hx; subst hx
      refine ⟨fun f hf _ => hf, fun j rc t cs hj hk hp hy => ?_⟩
      obtain ⟨⟨z, rest, g0, g1, g2, g3, g4, g5, g6⟩, _⟩ := D'.acc
      have := hy z (by rw [g0]; rfl)
      rw [g4] at this
      simp only at this
      omega
    | succ k =>
      obtain ⟨h1, h2⟩ := ih k x (by simpa using hx)
      have hmono := D'.past_mono k x (by simpa using hx)
      refine ⟨fun f hf hp => h1 f (mem_leftF.2 ⟨hf, ?_⟩) hp, fun j rc t cs hj hk hp hy => ?_⟩
      · cases hq : mask.testBit f.1 with
        | false => rfl
        | true =>
          have := hmono f.1 (by simp [Nat.testBit_or, hq])
          rw [this] at hp; cases hp
      · cases j with
        | zero => simp at hj; subst hj; cases hk
        | succ j => rw [show i + (j + 1) = i + 1 + j by omega] at *; exact h2 j rc t cs (by simpa using hj) hk hp (fun y hy' => hy y (by simpa using hy'))
end
end Lx
