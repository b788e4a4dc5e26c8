/- The law BridgeNil: for every input the call returns true and leaves its arguments as they were: its row and its card. Conditions: those of the given row. -/
import Derived.Test.YtfnflaadaehccaaGreatDoorBridgeNilRun
import Derived.Test.YtfnflaadaehccaaGreatDoorBridgeNilFacts
namespace Go.Proofs.YtfnflaadaehccaaGreatDoor
open Go.ChangeShapes Go.WideShapes Go.ChangeAt Go.RowKit Lx

theorem tsC_len : tsC.length = 27 := by kernel_rfl
theorem tsC_kinds : kindsOk Tryz.prog 27 tsC ksC thC = true := by kernel_rfl
theorem cmd_ok {W : World} {r : Reach} {base : Nat} {cs : Array Value} {toks : List Value} {j : Nat} (hn : cs.size = 27) (hj : ∀ i, i < 27 → toks[j + i]? = cs[i]?) (h : Row.okWide Tryz.prog W r base 33 cs) :
    VRs (tokE toks) (cmdL j (lb 100 1 12 cs) (lb 100 1 13 cs) (lb 20 2 16 cs) (lb 300 1 25 cs)) cs.toList :=
  rowC j cs ▸ row_tok tsC_ok tsC_len tsC_kinds hn hj h

theorem bridgeNil_calls {W : World} {v0 v1 : Value} {cs : Array Value} (h0 : v0.oneCell' = true) (h1 : v1.oneCell' = true) (hs : (lenV 1 v1).isSome = true) (hn : cs.size = 27) {r : Reach} {base : Nat} (h : Row.okWide Tryz.prog W r base 33 cs) :
    Calls Tryz.prog 3 #[v0, v1, .agg cs] W fun e w' => e = .returned (.bool true) ∧ RowKit.Below W.heap.size W w' := by
  have hvs : VRs (tokE (v0 :: v1 :: cs.toList)) [.t 0 0 [], .t 1 1 [(2000, decide (2000 < (lenV 1 v1).getD 0))], .agg (cmdL 2 (lb 100 1 12 cs) (lb 100 1 13 cs) (lb 20 2 16 cs) (lb 300 1 25 cs))] [v0, v1, .agg cs] := by
    refine .cons (tok_ok (k := 0) (ths := []) rfl h0 (.inl rfl)) (.cons (tok_ok (k := 1) (ths := [2000]) rfl h1 (.inr hs)) (.cons ?_ .nil))
    have := VR.agg (cmd_ok (toks := v0 :: v1 :: cs.toList) (j := 2) hn (fun i hi => by rw [show 2 + i = i + 1 + 1 by omega]; simp) h)
    simpa using this
  exact calls_true_tok mixed zok ftok ovB_ok (chkB_ok _ _ _ _ _) (by simp [hn]) hvs W

noncomputable def zero33 : Value := ((Tryz.prog.info? 33).bind (·.zero)).getD undef
noncomputable abbrev laid : List (String × DataW Unit) := Rows.bridgeNilRow.laid
theorem pars3 : (Tryz.f3.params.toList.all fun t => Tryz.prog.readableRec t && Nat.blt t Tryz.prog.types.size) = true := by kernel_rfl
theorem cells33 : Tryz.prog.cellsOf 33 = 27 := by kernel_rfl

set_option maxRecDepth 100000 in
theorem bridgeNil_lifted (os : Os) (started : os.Started) (H : Type) (enc : TypeId × Value → H) :
    ReturnsInHanded {} Tryz.checked os 3 .any (fun w args => (Rows.bridgeNilSpec.pre enc Tryz.prog Tryz.f3 [] false w args ∧ laidMetH Tryz.prog laid w) ∧ sizedMet enc Tryz.prog Tryz.f3 (OpenSpec.ofChange Rows.bridgeNilSpec) false w args)
      (Rows.bridgeNilSpec.post enc Tryz.prog Tryz.f3 false true false false) := by
  refine returnsInHanded_of_change_and (C := Tryz.checked) (X := fun w _ => laidMetH Tryz.prog laid w) (fun _ _ _ hh h => h.of_heap hh) own started (by kernel_rfl) Tryz.func3
    (ChangeSpec.witness_shaped (enc := enc) (C := Tryz.checked) (os := os) (X := fun w _ => laidMetH Tryz.prog laid w) false (World.laidAll Tryz.prog os laid) #[.int .u8 0, .string ByteArray.empty, zero33] 8 (World.laidAll_os _ _ _)
      (World.shaped_of_ZipB (by kernel_rfl) (by kernel_rfl)) (by kernel_rfl) (by kernel_rfl) (by kernel_rfl)
      (by rw [MakeChecks.laidMetH_plain _ _ _ (by kernel_rfl)]; exact laidMet_laidAll _ (by kernel_rfl) (by kernel_rfl))) ?_
  intro W base args ds gs before hval0 hW _ _ _ _
  have hval : ∀ (j : Nat) t v, Tryz.f3.params[j]? = some t → args[j]? = some v → Value.okWide Tryz.prog W .any base t v := hval0
  have hW' := hW
  obtain ⟨p, q, hA0, hV, rfl, _, _⟩ := hW
  have hA : DataW.TrodAll enc Tryz.prog W 0 (fun _ => true) true Tryz.f3.params.toList args.toList ds p := hA0
  rw [Tryz.params3] at hA hval
  obtain ⟨v0, v1, v2, d0, d1, d2, p0, p1, p2, rfl, rfl, rfl, h0, h1, h2⟩ := trodAll_three hA
  have hgs : gs = [] := (trodVars_none hV).1
  subst hgs
  have o0 : v0.oneCell' = true := okWide_int Tryz.underlying5 (hval 0 5 v0 rfl rfl)
  obtain ⟨o1, s1⟩ := okWide_str Tryz.underlying9 (hval 1 9 v1 rfl rfl)
  obtain ⟨cs, rfl, hn, hrow⟩ := okWide_row Tryz.underlying33 cells33 (hval 2 33 v2 rfl rfl)
  refine (bridgeNil_calls o0 o1 s1 hn hrow).mono fun e W' ⟨he, hb⟩ => ?_
  subst he
  exact ⟨_, rfl, law_post laidOut (pars_of pars3) (by kernel_rfl) Tryz.underlying4 rfl rfl rfl rfl hW' hb⟩

theorem bridgeNil_row_holds : Rows.BridgeNilSaid :=
  OpenClaim.holds_of_wide 3 Tryz.f3 rfl rfl rfl rfl rfl rfl rfl ⟨rfl, rfl, rfl, rfl, rfl⟩ rfl rfl rfl rfl rfl bn_named Tryz.func3 bn_joined
    (of_decide_eq_true (by kernel_rfl)) (by unfold Func.isWrapper; first | (rw [if_pos (by decide +kernel)]; kernel_rfl) | (rw [if_neg (by decide +kernel)]; exact ⟨rfl, rfl⟩))
    (fun os started H enc _ => bridgeNil_lifted os started H enc)
theorem bridgeNil_holds : Rows.BridgeNilCardSaid :=
  Claim7.holds_tied_plain_at .later [] [.data, .pinned] true (true, "beb784026887b1edd6bebb12fd6c98050ea5bb39309fb36497dca2ec227837bc") false bridgeNil_row_holds (fun _ h => by cases h) bn_wfText (fun _ h => by cases h) bridgeNil_row_tie rfl ⟨rfl, rfl⟩ (by kernel_rfl) rfl
    (fun f fn hf hfn => by
      obtain rfl : f = 3 := Option.some.inj (bn_named.symm.trans hf) |>.symm
      obtain rfl : fn = Tryz.f3 := (Option.some.inj (Tryz.func3.symm.trans hfn)).symm
      exact ⟨bn_looks, fun j t ht => by
        rw [Tryz.params3] at ht
        have hm : t ∈ [5, 9, 33] := by simpa using Array.mem_of_getElem? ht
        exact (show Tryz.prog.wantsStandIn t = false by simpa using List.all_eq_true.1 bn_standIns t hm)⟩)
    bn_goesBy
#print axioms bridgeNil_holds
end Go.Proofs.YtfnflaadaehccaaGreatDoor
