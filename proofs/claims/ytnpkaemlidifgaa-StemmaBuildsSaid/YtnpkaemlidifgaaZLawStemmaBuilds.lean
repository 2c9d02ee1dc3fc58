/- Statement StemmaBuilds: for every input the law answers true, and each argument reads behind the call as it read before. -/
import Derived.Test.YtnpkaemlidifgaaV5
import Derived.Test.YtnpkaemlidifgaaV6
import Derived.OpenShut
set_option maxRecDepth 100000
set_option linter.unusedSimpArgs false
set_option linter.unusedVariables false
namespace Go.Proofs.Ytnpkaemlidifgaa
open Go.ChangeShapes Go.WideShapes Go.ChangeAt Go.RowKit
open Go.Abs (CallP Reads Rep Noblk Mu)

theorem stemmaBuilds_lifted (os : Os) (started : os.Started) (H : Type) (enc : TypeId × Value → H) :
    ReturnsInHanded {} Try.checked os 16 .any (Rows.stemmaBuildsSpec.pre6 enc Try.prog Try.f16 Rows.stemmaBuildsRow.domain false) (Rows.stemmaBuildsSpec.post enc Try.prog Try.f16 false true false false) := by
  refine returnsInHanded_of_change_sized (C := Try.checked) own started (by kernel_rfl) Try.func16
    (ChangeSpec.witness6 (enc := enc) (C := Try.checked) false ⟨#[], #[.slice none 0 0], []⟩ 8 (by kernel_rfl) (by kernel_rfl) (by kernel_rfl) (by kernel_rfl)) ?_
  intro W base args ds gs before hval0 hW hcnd hsz0 _
  have hval : ∀ (j : Nat) t v, Try.f16.params[j]? = some t → args[j]? = some v → Value.okWide Try.prog W .any base t v := hval0
  have hsz : (DataW.weightsEach Try.prog (Try.f16.params.toList ++ Rows.stemmaBuildsSpec.plain.varTypes Try.prog) (ds ++ gs)).all (· ≤ reachBytes) = true := hsz0
  clear hval0 hsz0
  have hW' := hW
  obtain ⟨p, q, hA0, hV, rfl, hfz, hnd⟩ := hW
  have hA : DataW.TrodAll enc Try.prog W 0 (fun _ => true) true Try.f16.params.toList args.toList ds p := hA0
  clear hA0
  rw [Try.params16] at hA hval hsz
  obtain ⟨v0, vs0, d0, ds0, p0, q0, hargs, rfl, rfl, h0, r0⟩ := trodAll_cons hA
  obtain ⟨rfl, rfl, rfl⟩ := trodAll_nil r0
  obtain rfl : args = #[v0] := by cases args; simp_all
  obtain ⟨rfl, rfl⟩ := trodVars_none hV
  have w0 : ∀ n ∈ d0.weights Try.prog 22, n ≤ reachBytes := fun n hn => of_decide_eq_true (List.all_eq_true.1 hsz n (DataW.weights_mem_each (j := 0) rfl rfl n hn))
  have lt0 : ∀ x ∈ p0, x.block < W.heap.size := by obtain ⟨m, hm⟩ := h0; exact DataW.trod_lt m _ _ _ hm
  have c0 : v0.cells = #[v0] := by obtain ⟨a, len, cap, rfl⟩ := okWide_slice Try.underlying22 (hval 0 22 v0 rfl rfl); rfl
  obtain ⟨a0, k0⟩ := Abs.arg_one (reads_rds enc W) (fun _ => rfl) c0 h0 w0
  have hargsR : ∀ i, i < [rdsV a0].length → Rep W Noblk Mu.none ([rdsV a0].getD i .junk) ((#[v0] : Array Value).getD i undef) := by
    intro i hi
    match i, hi with
    | 0, _ => exact k0
  refine (Abs.CallP.calls (lawStemmaBuilds_c a0 (len_of_rds k0)) rfl hargsR).mono fun e W' ⟨he, bel⟩ => ?_
  subst he
  exact ⟨_, rfl, _, _, _, [], _, [], hW', trodAll_mk1 (shut_bool Try.underlying4 _), (trodAll_cons_mk (Below.trod laidOut (by kernel_rfl) (of_decide_eq_true (by kernel_rfl)) h0 bel lt0) trodAll_mk0), rfl, bel.frame _, fun h => by cases h⟩
theorem stemmaBuilds_k0 : (Rows.stemmaBuildsRow.wf (OpenSpec.ofChange Rows.stemmaBuildsSpec)) = true := by kernel_rfl
theorem stemmaBuilds_k3 : (Try.f16.params.all (Try.pinned.checked.prog.readableRec ·)) = true := by kernel_rfl
theorem stemmaBuilds_k4 : (namedTie Try.pinned.checked.prog Rows.stemmaBuildsRow.named Rows.stemmaBuildsSpec.vars) = true := by kernel_rfl
theorem stemmaBuilds_k5 : ((Rows.stemmaBuildsRow.stops == [])) = true := by kernel_rfl
theorem stemmaBuilds_k7 : ((Rows.stemmaBuildsRow.knobs == [])) = true := by kernel_rfl
theorem stemmaBuilds_k9 : ((Rows.stemmaBuildsRow.inPlace == Try.pinned.checked.prog.inPlace 16)) = true := by kernel_rfl
theorem stemmaBuilds_k10 : ((Rows.stemmaBuildsRow.unfollowed == Try.pinned.checked.prog.unfollowed 16)) = true := by kernel_rfl
theorem stemmaBuilds_k11 : ((Rows.stemmaBuildsRow.recurses == Try.pinned.checked.prog.recurses 16)) = true := by kernel_rfl
theorem stemmaBuilds_k12 : ((Rows.stemmaBuildsRow.named == Try.pinned.checked.prog.varsNamed 16)) = true := by kernel_rfl
theorem stemmaBuilds_k13 : ((Rows.stemmaBuildsRow.maps == (Try.f16.params.toList ++ Rows.stemmaBuildsSpec.plain.varTypes Try.pinned.checked.prog).any (Try.pinned.checked.prog.mapsRec ·))) = true := by kernel_rfl
theorem stemmaBuilds_k14 : ((Rows.stemmaBuildsRow.ifaces == (Try.f16.params.toList ++ Rows.stemmaBuildsSpec.plain.varTypes Try.pinned.checked.prog).any (Try.pinned.checked.prog.ifacesRec ·))) = true := by kernel_rfl
theorem stemmaBuilds_k15 : ((Rows.stemmaBuildsRow.mapsOut == Try.pinned.checked.prog.mapsAmong Try.f16.resultTypes.toList)) = true := by kernel_rfl
theorem stemmaBuilds_k16 : ((Rows.stemmaBuildsRow.loops == (Try.f16.params.toList ++ Rows.stemmaBuildsSpec.plain.varTypes Try.pinned.checked.prog).any (Try.pinned.checked.prog.loopsFrom ·))) = true := by kernel_rfl
theorem stemmaBuilds_k17 : ((Rows.stemmaBuildsRow.wideKeys == (Try.f16.params.toList ++ Rows.stemmaBuildsSpec.plain.varTypes Try.pinned.checked.prog ++ Try.f16.resultTypes.toList).any (Try.pinned.checked.prog.wideKeysFrom ·))) = true := by kernel_rfl
theorem stemmaBuilds_k18 : (Rows.stemmaBuildsSpec.vars.all (Try.pinned.checked.prog.varReadable ·)) = true := by kernel_rfl
theorem stemmaBuilds_k19 : (Try.f16.resultTypes.all (fun t => Try.pinned.checked.prog.readableRec t && decide (t < Try.pinned.checked.prog.types.size))) = true := by kernel_rfl
theorem stemmaBuilds_k20 : ((Rows.stemmaBuildsRow.ifacesOut == Try.f16.resultTypes.toList.any (Try.pinned.checked.prog.ifacesRec ·))) = true := by kernel_rfl
theorem stemmaBuilds_k21 : ((Rows.stemmaBuildsRow.loopsOut == Try.f16.resultTypes.toList.any (Try.pinned.checked.prog.loopsFrom ·))) = true := by kernel_rfl
theorem stemmaBuilds_k22 : ((Rows.stemmaBuildsRow.plainKeys == Try.pinned.checked.prog.plainKeys)) = true := by kernel_rfl
theorem stemmaBuilds_k23 : (Rows.stemmaBuildsRow.shortTexts.isNone) = true := by kernel_rfl
theorem stemmaBuilds_k26 : ((Rows.stemmaBuildsRow.lifted == Try.pinned.checked.prog.liftsFinal)) = true := by rw [liftsFinal_no]; kernel_rfl
theorem stemmaBuilds_k27 : ((Try.pinned.checked.prog.make == some Rows.stemmaBuildsRow.make)) = true := by rw [make_cut]; kernel_rfl
theorem stemmaBuilds_k28 : ((Rows.stemmaBuildsRow.kinds == (if Rows.stemmaBuildsRow.domain.isEmpty then [] else Try.f16.params.toList.map fun t => match Try.pinned.checked.prog.underlying t with | some (.int k) => some k | _ => none))) = true := by kernel_rfl
theorem stemmaBuilds_k29 : ((Rows.stemmaBuildsRow.pinned == Rows.stemmaBuildsRow.pinnedBy)) = true := by kernel_rfl
theorem stemmaBuilds_k30 : ((Rows.stemmaBuildsRow.veiled == (Try.f16.params.toList ++ Rows.stemmaBuildsSpec.plain.varTypes Try.pinned.checked.prog ++ Try.f16.resultTypes.toList).any (Try.pinned.checked.prog.veiledRec ·))) = true := by kernel_rfl
theorem stemmaBuilds_k31 : (Rows.stemmaBuildsRow.veiledFits Try.pinned.checked.prog Try.f16.params.toList (Try.f16.params.toList ++ Rows.stemmaBuildsSpec.plain.varTypes Try.pinned.checked.prog ++ Try.f16.resultTypes.toList)) = true := by kernel_rfl

theorem stemmaBuilds_proved : Rows.StemmaBuildsSaid :=
  OpenClaim.holds_of_wide 16 Try.f16 rfl rfl rfl rfl rfl rfl rfl ⟨rfl, rfl, rfl, rfl, rfl⟩ rfl rfl rfl rfl rfl (by kernel_rfl) Try.func16
    (joined_of stemmaBuilds_k0 fact1 fact2 stemmaBuilds_k3 stemmaBuilds_k4 stemmaBuilds_k5 fact6 stemmaBuilds_k7 fact8 stemmaBuilds_k9 stemmaBuilds_k10 stemmaBuilds_k11 stemmaBuilds_k12 stemmaBuilds_k13 stemmaBuilds_k14 stemmaBuilds_k15 stemmaBuilds_k16 stemmaBuilds_k17 stemmaBuilds_k18 stemmaBuilds_k19 stemmaBuilds_k20 stemmaBuilds_k21 stemmaBuilds_k22 stemmaBuilds_k23 fact24 mayEnter_yes stemmaBuilds_k26 stemmaBuilds_k27 stemmaBuilds_k28 stemmaBuilds_k29 stemmaBuilds_k30 stemmaBuilds_k31)
    (of_decide_eq_true (by kernel_rfl)) (by unfold Func.isWrapper; first | (rw [if_pos (by decide +kernel)]; kernel_rfl) | (rw [if_neg (by decide +kernel)]; exact ⟨rfl, rfl⟩))
    (fun os started H enc _ => stemmaBuilds_lifted os started H enc)
#print axioms stemmaBuilds_proved
end Go.Proofs.Ytnpkaemlidifgaa
