/- Statement OrderUses: for every input the law answers true, and each argument reads behind the call as it read before. -/
import Derived.Test.YtkhddecnllcaiaaGreatV6
import Derived.Test.YtkhddecnllcaiaaGreatV5
import Derived.OpenShut
set_option maxRecDepth 100000
set_option linter.unusedSimpArgs false
set_option linter.unusedVariables false
namespace Go.Proofs.YtkhddecnllcaiaaGreat
open Go.ChangeShapes Go.WideShapes Go.ChangeAt Go.RowKit
open Go.Abs (CallP Reads Rep Noblk Mu)

theorem orderUses_lifted (os : Os) (started : os.Started) (H : Type) (enc : TypeId × Value → H) :
    ReturnsInHanded {} Tryz.checked os 4 .any (Rows.orderUsesSpec.pre6 enc Tryz.prog Tryz.f4 Rows.orderUsesRow.domain false) (Rows.orderUsesSpec.post enc Tryz.prog Tryz.f4 false true false false) := by
  refine returnsInHanded_of_change_sized (C := Tryz.checked) own started (by kernel_rfl) Tryz.func4
    (ChangeSpec.witness6 (enc := enc) (C := Tryz.checked) false ⟨#[], #[.agg #[.slice none 0 0, .slice none 0 0, .slice none 0 0]], []⟩ 8 (by kernel_rfl) (by kernel_rfl) (by kernel_rfl) (by kernel_rfl)) ?_
  intro W base args ds gs before hval0 hW hcnd hsz0 _
  have hval : ∀ (j : Nat) t v, Tryz.f4.params[j]? = some t → args[j]? = some v → Value.okWide Tryz.prog W .any base t v := hval0
  have hsz : (DataW.weightsEach Tryz.prog (Tryz.f4.params.toList ++ Rows.orderUsesSpec.plain.varTypes Tryz.prog) (ds ++ gs)).all (· ≤ reachBytes) = true := hsz0
  clear hval0 hsz0
  have hW' := hW
  obtain ⟨p, q, hA0, hV, rfl, hfz, hnd⟩ := hW
  have hA : DataW.TrodAll enc Tryz.prog W 0 (fun _ => true) true Tryz.f4.params.toList args.toList ds p := hA0
  clear hA0
  rw [Tryz.params4] at hA hval hsz
  obtain ⟨v0, vs0, d0, ds0, p0, q0, hargs, rfl, rfl, h0, r0⟩ := trodAll_cons hA
  obtain ⟨rfl, rfl, rfl⟩ := trodAll_nil r0
  obtain rfl : args = #[v0] := by cases args; simp_all
  obtain ⟨rfl, rfl⟩ := trodVars_none hV
  have w0 : ∀ n ∈ d0.weights Tryz.prog 36, n ≤ reachBytes := fun n hn => of_decide_eq_true (List.all_eq_true.1 hsz n (DataW.weights_mem_each (j := 0) rfl rfl n hn))
  have lt0 : ∀ x ∈ p0, x.block < W.heap.size := by obtain ⟨m, hm⟩ := h0; exact DataW.trod_lt m _ _ _ hm
  obtain ⟨a0, k0⟩ := Abs.arg_agg Tryz.underlying36 (reads_case enc W) (fun _ => ⟨_, rfl⟩) (hval 0 36 v0 rfl rfl) h0 w0
  have hargsR : ∀ i, i < [caseV a0].length → Rep W Noblk Mu.none ([caseV a0].getD i .junk) ((#[v0] : Array Value).getD i undef) := by
    intro i hi
    match i, hi with
    | 0, _ => exact k0
  refine (Abs.CallP.calls (lawOrderUses_c a0 (len_of_case k0)) rfl hargsR).mono fun e W' ⟨he, bel⟩ => ?_
  subst he
  exact ⟨_, rfl, _, _, _, [], _, [], hW', trodAll_mk1 (shut_bool Tryz.underlying4 _), (trodAll_cons_mk (Below.trod laidOut (by kernel_rfl) (of_decide_eq_true (by kernel_rfl)) h0 bel lt0) trodAll_mk0), rfl, bel.frame _, fun h => by cases h⟩
theorem orderUses_k0 : (Rows.orderUsesRow.wf (OpenSpec.ofChange Rows.orderUsesSpec)) = true := by kernel_rfl
theorem orderUses_k3 : (Tryz.f4.params.all (Tryz.pinned.checked.prog.readableRec ·)) = true := by kernel_rfl
theorem orderUses_k4 : (namedTie Tryz.pinned.checked.prog Rows.orderUsesRow.named Rows.orderUsesSpec.vars) = true := by kernel_rfl
theorem orderUses_k5 : ((Rows.orderUsesRow.stops == [])) = true := by kernel_rfl
theorem orderUses_k7 : ((Rows.orderUsesRow.knobs == [])) = true := by kernel_rfl
theorem orderUses_k9 : ((Rows.orderUsesRow.inPlace == Tryz.pinned.checked.prog.inPlace 4)) = true := by kernel_rfl
theorem orderUses_k10 : ((Rows.orderUsesRow.unfollowed == Tryz.pinned.checked.prog.unfollowed 4)) = true := by kernel_rfl
theorem orderUses_k11 : ((Rows.orderUsesRow.recurses == Tryz.pinned.checked.prog.recurses 4)) = true := by kernel_rfl
theorem orderUses_k12 : ((Rows.orderUsesRow.named == Tryz.pinned.checked.prog.varsNamed 4)) = true := by kernel_rfl
theorem orderUses_k13 : ((Rows.orderUsesRow.maps == (Tryz.f4.params.toList ++ Rows.orderUsesSpec.plain.varTypes Tryz.pinned.checked.prog).any (Tryz.pinned.checked.prog.mapsRec ·))) = true := by kernel_rfl
theorem orderUses_k14 : ((Rows.orderUsesRow.ifaces == (Tryz.f4.params.toList ++ Rows.orderUsesSpec.plain.varTypes Tryz.pinned.checked.prog).any (Tryz.pinned.checked.prog.ifacesRec ·))) = true := by kernel_rfl
theorem orderUses_k15 : ((Rows.orderUsesRow.mapsOut == Tryz.pinned.checked.prog.mapsAmong Tryz.f4.resultTypes.toList)) = true := by kernel_rfl
theorem orderUses_k16 : ((Rows.orderUsesRow.loops == (Tryz.f4.params.toList ++ Rows.orderUsesSpec.plain.varTypes Tryz.pinned.checked.prog).any (Tryz.pinned.checked.prog.loopsFrom ·))) = true := by kernel_rfl
theorem orderUses_k17 : ((Rows.orderUsesRow.wideKeys == (Tryz.f4.params.toList ++ Rows.orderUsesSpec.plain.varTypes Tryz.pinned.checked.prog ++ Tryz.f4.resultTypes.toList).any (Tryz.pinned.checked.prog.wideKeysFrom ·))) = true := by kernel_rfl
theorem orderUses_k18 : (Rows.orderUsesSpec.vars.all (Tryz.pinned.checked.prog.varReadable ·)) = true := by kernel_rfl
theorem orderUses_k19 : (Tryz.f4.resultTypes.all (fun t => Tryz.pinned.checked.prog.readableRec t && decide (t < Tryz.pinned.checked.prog.types.size))) = true := by kernel_rfl
theorem orderUses_k20 : ((Rows.orderUsesRow.ifacesOut == Tryz.f4.resultTypes.toList.any (Tryz.pinned.checked.prog.ifacesRec ·))) = true := by kernel_rfl
theorem orderUses_k21 : ((Rows.orderUsesRow.loopsOut == Tryz.f4.resultTypes.toList.any (Tryz.pinned.checked.prog.loopsFrom ·))) = true := by kernel_rfl
theorem orderUses_k22 : ((Rows.orderUsesRow.plainKeys == Tryz.pinned.checked.prog.plainKeys)) = true := by kernel_rfl
theorem orderUses_k23 : (Rows.orderUsesRow.shortTexts.isNone) = true := by kernel_rfl
theorem orderUses_k26 : ((Rows.orderUsesRow.lifted == Tryz.pinned.checked.prog.liftsFinal)) = true := by rw [liftsFinal_no]; kernel_rfl
theorem orderUses_k27 : ((Tryz.pinned.checked.prog.make == some Rows.orderUsesRow.make)) = true := by rw [make_cut]; kernel_rfl
theorem orderUses_k28 : ((Rows.orderUsesRow.kinds == (if Rows.orderUsesRow.domain.isEmpty then [] else Tryz.f4.params.toList.map fun t => match Tryz.pinned.checked.prog.underlying t with | some (.int k) => some k | _ => none))) = true := by kernel_rfl
theorem orderUses_k29 : ((Rows.orderUsesRow.pinned == Rows.orderUsesRow.pinnedBy)) = true := by kernel_rfl
theorem orderUses_k30 : ((Rows.orderUsesRow.veiled == (Tryz.f4.params.toList ++ Rows.orderUsesSpec.plain.varTypes Tryz.pinned.checked.prog ++ Tryz.f4.resultTypes.toList).any (Tryz.pinned.checked.prog.veiledRec ·))) = true := by kernel_rfl
theorem orderUses_k31 : (Rows.orderUsesRow.veiledFits Tryz.pinned.checked.prog Tryz.f4.params.toList (Tryz.f4.params.toList ++ Rows.orderUsesSpec.plain.varTypes Tryz.pinned.checked.prog ++ Tryz.f4.resultTypes.toList)) = true := by kernel_rfl

theorem orderUses_proved : Rows.OrderUsesSaid :=
  OpenClaim.holds_of_wide 4 Tryz.f4 rfl rfl rfl rfl rfl rfl rfl ⟨rfl, rfl, rfl, rfl, rfl⟩ rfl rfl rfl rfl rfl (by kernel_rfl) Tryz.func4
    (joined_of orderUses_k0 fact1 fact2 orderUses_k3 orderUses_k4 orderUses_k5 fact6 orderUses_k7 fact8 orderUses_k9 orderUses_k10 orderUses_k11 orderUses_k12 orderUses_k13 orderUses_k14 orderUses_k15 orderUses_k16 orderUses_k17 orderUses_k18 orderUses_k19 orderUses_k20 orderUses_k21 orderUses_k22 orderUses_k23 fact24 mayEnter_yes orderUses_k26 orderUses_k27 orderUses_k28 orderUses_k29 orderUses_k30 orderUses_k31)
    (of_decide_eq_true (by kernel_rfl)) (by unfold Func.isWrapper; first | (rw [if_pos (by decide +kernel)]; kernel_rfl) | (rw [if_neg (by decide +kernel)]; exact ⟨rfl, rfl⟩))
    (fun os started H enc _ => orderUses_lifted os started H enc)
#print axioms orderUses_proved
end Go.Proofs.YtkhddecnllcaiaaGreat
