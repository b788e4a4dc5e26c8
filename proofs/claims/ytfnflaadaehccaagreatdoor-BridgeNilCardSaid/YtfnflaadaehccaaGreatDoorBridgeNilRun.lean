/- The run of BridgeNil, evaluated by the kernel, in each of the six ways of its guard. No conditions. -/
import Derived.Test.YtfnflaadaehccaaGreatDoorLxD
import Derived.Test.YtfnflaadaehccaaGreatDoorRows
import Derived.Test.YtfnflaadaehccaaGreatDoorTie
import Derived.Test.YtfnflaadaehccaaGreatDoorCards
import Derived.WalkKit
import Derived.ProofKit
import Derived.Lay
import Derived.LaidOnce
import Derived.SevenTiedAt
namespace Go.Proofs.YtfnflaadaehccaaGreatDoor
open Go.ChangeShapes Go.WideShapes Go.ChangeAt Go.RowKit Lx
abbrev Md := CA Tryz.prog
noncomputable abbrev FT : Nat → Option Func := fun n => Tryz.prog.funcs[n]?
theorem zok : ZOK Tryz.prog := zok_of (by kernel_rfl)
theorem ftok : FTOK Tryz.prog FT := ftok_of (by kernel_rfl)
theorem mixed : Tryz.prog.follows .mixedOrders = true := by kernel_rfl
theorem own : ownKnob Tryz.prog.godebug = none := by kernel_rfl
theorem laidOut : laidOutB Tryz.prog = true := by kernel_rfl
theorem enters7 (W : World) : (callFunc 7 #[]).run Tryz.prog W = .ok (.enter 7 #[]) W := enter_ok ftok Tryz.func7 (by kernel_rfl : Tryz.f7.body = some (Tryz.f7.body.getD .skip)) _ W
abbrev ov0 : Ov Md := fun _ _ _ _ => none
theorem wakes7_ok : okTrue (call0 (M := Md) Tryz.prog FT ov0 100000 7 [] 0) = true := by kernel_rfl
theorem ov7 : OvTrue Tryz.prog 7 := ⟨enters7, fun w => calls_true_tok (toks := []) (vs := []) mixed zok ftok ov_none wakes7_ok rfl .nil w⟩

noncomputable abbrev ovB : Ov Md := ovTrue [7]
theorem ovB_ok : OvOK Tryz.prog ovB := ovTrue_ok fun g hg => by
  rw [List.mem_singleton] at hg
  subst hg
  exact ov7
/-- a command: 27 cells -/
def cmdL (j : Nat) (b1 b2 b3 b4 : Bool) : List LV := (List.range 27).map fun i => match i with
  | 12 => .t (j + 12) 1 [(100, b1)] | 13 => .t (j + 13) 1 [(100, b2)] | 16 => .t (j + 16) 2 [(20, b3)] | 25 => .t (j + 25) 1 [(300, b4)] | i => .t (j + i) 0 []
noncomputable def chkB (b0 b1 b2 b3 b4 : Bool) : Bool := okTrue (call0 (M := Md) Tryz.prog FT ovB 100000 3 [.t 0 0 [], .t 1 1 [(2000, b0)], .agg (cmdL 2 b1 b2 b3 b4)] 29)
theorem chkB_1 (b1 b2 b3 b4 : Bool) : chkB true b1 b2 b3 b4 = true := by kernel_rfl
theorem chkB_2 (b1 b2 b3 : Bool) : chkB false b1 b2 b3 true = true := by kernel_rfl
theorem chkB_3 (b1 b3 : Bool) : chkB false b1 true b3 false = true := by kernel_rfl
theorem chkB_4 (b3 : Bool) : chkB false true false b3 false = true := by kernel_rfl
theorem chkB_5 : chkB false false false true false = true := by kernel_rfl
theorem chkB_6 : chkB false false false false false = true := by kernel_rfl
theorem chkB_ok (b0 b1 b2 b3 b4 : Bool) : chkB b0 b1 b2 b3 b4 = true := by
  cases b0
  · cases b4
    · cases b2
      · cases b1
        · cases b3
          · exact chkB_6
          · exact chkB_5
        · exact chkB_4 b3
      · exact chkB_3 b1 b3
    · exact chkB_2 b1 b2 b3
  · exact chkB_1 b1 b2 b3 b4

def ksC (i : Nat) : Nat := match i with | 12 => 1 | 13 => 1 | 16 => 2 | 25 => 1 | _ => 0
def thC (i : Nat) : List Nat := match i with | 12 => [100] | 13 => [100] | 16 => [20] | 25 => [300] | _ => []
def lb (c k i : Nat) (cs : Array Value) : Bool := decide (c < (lenV k (cs.getD i undef)).getD 0)
theorem rowC (j : Nat) (cs : Array Value) : rowT 27 j ksC thC cs = cmdL j (lb 100 1 12 cs) (lb 100 1 13 cs) (lb 20 2 16 cs) (lb 300 1 25 cs) := rfl
noncomputable def tsC : List TypeId := (Tryz.prog.cellTypes Tryz.prog.depth 33).getD []
theorem tsC_ok : Tryz.prog.cellTypes Tryz.prog.depth 33 = some tsC := by kernel_rfl
end Go.Proofs.YtfnflaadaehccaaGreatDoor
