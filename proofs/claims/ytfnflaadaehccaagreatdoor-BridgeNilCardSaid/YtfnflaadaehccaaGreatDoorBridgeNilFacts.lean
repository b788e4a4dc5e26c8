/- The closed facts of the row of BridgeNil. No conditions. -/
import Derived.Test.YtfnflaadaehccaaGreatDoorRows
import Derived.JoinedOf
import Derived.SevenTiedAt
import Derived.KernelRfl
namespace Go.Proofs.YtfnflaadaehccaaGreatDoor
set_option maxRecDepth 100000
theorem bn_k0 : Rows.bridgeNilRow.wf (OpenSpec.ofChange Rows.bridgeNilSpec) = true := by kernel_rfl
theorem bn_k1 : laidOutB Tryz.prog = true := by kernel_rfl
theorem bn_k2 : mapsRowed Tryz.prog = true := by kernel_rfl
theorem bn_k3 : Tryz.f3.params.all (Tryz.prog.readableRec ·) = true := by kernel_rfl
theorem bn_k4 : namedTie Tryz.prog Rows.bridgeNilRow.named Rows.bridgeNilSpec.vars = true := by kernel_rfl
theorem bn_k5 : (Rows.bridgeNilRow.stops == []) = true := by kernel_rfl
theorem bn_k6 : (Tryz.prog.stops == []) = true := by kernel_rfl
theorem bn_k7 : (Rows.bridgeNilRow.knobs == []) = true := by kernel_rfl
theorem bn_k8 : (Tryz.prog.stopKnobs == []) = true := by kernel_rfl
theorem bn_k9 : (Rows.bridgeNilRow.inPlace == Tryz.prog.inPlace 3) = true := by kernel_rfl
theorem bn_k10 : (Rows.bridgeNilRow.unfollowed == Tryz.prog.unfollowed 3) = true := by kernel_rfl
theorem bn_k11 : (Rows.bridgeNilRow.recurses == Tryz.prog.recurses 3) = true := by kernel_rfl
theorem bn_k12 : (Rows.bridgeNilRow.named == Tryz.prog.varsNamed 3) = true := by kernel_rfl
theorem bn_k13 : (Rows.bridgeNilRow.maps == (Tryz.f3.params.toList ++ Rows.bridgeNilSpec.plain.varTypes Tryz.prog).any (Tryz.prog.mapsRec ·)) = true := by kernel_rfl
theorem bn_k14 : (Rows.bridgeNilRow.ifaces == (Tryz.f3.params.toList ++ Rows.bridgeNilSpec.plain.varTypes Tryz.prog).any (Tryz.prog.ifacesRec ·)) = true := by kernel_rfl
theorem bn_k15 : (Rows.bridgeNilRow.mapsOut == Tryz.prog.mapsAmong Tryz.f3.resultTypes.toList) = true := by kernel_rfl
theorem bn_k16 : (Rows.bridgeNilRow.loops == (Tryz.f3.params.toList ++ Rows.bridgeNilSpec.plain.varTypes Tryz.prog).any (Tryz.prog.loopsFrom ·)) = true := by kernel_rfl
theorem bn_k17 : (Rows.bridgeNilRow.wideKeys == (Tryz.f3.params.toList ++ Rows.bridgeNilSpec.plain.varTypes Tryz.prog ++ Tryz.f3.resultTypes.toList).any (Tryz.prog.wideKeysFrom ·)) = true := by kernel_rfl
theorem bn_k18 : Rows.bridgeNilSpec.vars.all (Tryz.prog.varReadable ·) = true := by kernel_rfl
theorem bn_k19 : Tryz.f3.resultTypes.all (fun t => Tryz.prog.readableRec t && decide (t < Tryz.prog.types.size)) = true := by kernel_rfl
theorem bn_k20 : (Rows.bridgeNilRow.ifacesOut == Tryz.f3.resultTypes.toList.any (Tryz.prog.ifacesRec ·)) = true := by kernel_rfl
theorem bn_k21 : (Rows.bridgeNilRow.loopsOut == Tryz.f3.resultTypes.toList.any (Tryz.prog.loopsFrom ·)) = true := by kernel_rfl
theorem bn_k22 : (Rows.bridgeNilRow.plainKeys == Tryz.prog.plainKeys) = true := by kernel_rfl
theorem bn_k23 : Rows.bridgeNilRow.shortTexts.isNone = true := by kernel_rfl
theorem bn_k24 : Tryz.prog.stopsHeard = true := by kernel_rfl
theorem bn_k25 : Tryz.prog.mayEnter = true := by kernel_rfl
theorem bn_k26 : (Rows.bridgeNilRow.lifted == Tryz.prog.liftsFinal) = true := by kernel_rfl
theorem bn_k27 : (Tryz.prog.make == some Rows.bridgeNilRow.make) = true := by kernel_rfl
theorem bn_k28 : (Rows.bridgeNilRow.kinds == (if Rows.bridgeNilRow.domain.isEmpty then [] else Tryz.f3.params.toList.map fun t => match Tryz.prog.underlying t with | some (.int k) => some k | _ => none)) = true := by kernel_rfl
theorem bn_k29 : (Rows.bridgeNilRow.pinned == Rows.bridgeNilRow.pinnedBy) = true := by kernel_rfl
theorem bn_k30 : (Rows.bridgeNilRow.veiled == (Tryz.f3.params.toList ++ Rows.bridgeNilSpec.plain.varTypes Tryz.prog ++ Tryz.f3.resultTypes.toList).any (Tryz.prog.veiledRec ·)) = true := by kernel_rfl
theorem bn_k31 : Rows.bridgeNilRow.veiledFits Tryz.prog Tryz.f3.params.toList (Tryz.f3.params.toList ++ Rows.bridgeNilSpec.plain.varTypes Tryz.prog ++ Tryz.f3.resultTypes.toList) = true := by kernel_rfl
theorem bn_joined : joinedFacts Tryz.prog 3 Tryz.f3 Rows.bridgeNilSpec Rows.bridgeNilRow = true := by
  unfold joinedFacts
  simp only [Bool.and_eq_true]
  exact ⟨⟨⟨⟨⟨⟨⟨⟨⟨⟨⟨⟨⟨⟨⟨⟨⟨⟨⟨⟨⟨⟨⟨⟨⟨⟨⟨⟨⟨⟨⟨bn_k0, bn_k1⟩, bn_k2⟩, bn_k3⟩, bn_k4⟩, bn_k5⟩, bn_k6⟩, bn_k7⟩, bn_k8⟩, bn_k9⟩, bn_k10⟩, bn_k11⟩, bn_k12⟩, bn_k13⟩, bn_k14⟩, bn_k15⟩, bn_k16⟩, bn_k17⟩, bn_k18⟩, bn_k19⟩, bn_k20⟩, bn_k21⟩, bn_k22⟩, bn_k23⟩, bn_k24⟩, bn_k25⟩, bn_k26⟩, bn_k27⟩, bn_k28⟩, bn_k29⟩, bn_k30⟩, bn_k31⟩
theorem bn_named : Tryz.prog.funcNamed "viaduct/viaductlaw22.BridgeNil" = some 3 := by kernel_rfl
theorem bn_looks : false = Tryz.prog.looks [] := by kernel_rfl
theorem bn_wfText : OpenClaim.wfByText (OpenSpec.ofChange Rows.bridgeNilSpec) Rows.bridgeNilRow = true := by kernel_rfl
theorem bn_goesBy : false = Rows.bridgeNilRow.goesBy Tryz.prog := by kernel_rfl
theorem bn_standIns : ([5, 9, 33].all fun u => !Tryz.prog.wantsStandIn u) = true := by kernel_rfl
end Go.Proofs.YtfnflaadaehccaaGreatDoor
