/- Statement StemmaDoubles: for every input the law answers true, and each argument reads behind the call as it read before. -/
import Derived.Test.YtnpkaemlidifgaaV5
import Derived.Test.YtnpkaemlidifgaaV6
import Derived.OpenShut
set_option maxRecDepth 100000
set_option linter.unusedSimpArgs false
set_option linter.unusedVariables false
namespace Go.Proofs.Ytnpkaemlidifgaa
open Go.ChangeShapes Go.WideShapes Go.ChangeAt Go.RowKit
open Go.Abs (CallP Reads Rep Noblk Mu)

theorem stemmaDoubles_lifted (os : Os) (started : os.Started) (H : Type) (enc : TypeId × Value → H) :
    ReturnsInHanded {} Try.checked os 10 .any (Rows.stemmaDoublesSpec.pre6 enc Try.prog Try.f10 Rows.stemmaDoublesRow.domain false) (Rows.stemmaDoublesSpec.post enc Try.prog Try.f10 false true false false) := by
  refine returnsInHanded_of_change_sized (C := Try.checked) own started (by kernel_rfl) Try.func10
    (ChangeSpec.witness6 (enc := enc) (C := Try.checked) false ⟨#[], #[.slice none 0 0], []⟩ 8 (by kernel_rfl) (by kernel_rfl) (by kernel_rfl) (by kernel_rfl)) ?_
  intro W base args ds gs before hval0 hW hcnd hsz0 _
  have hval : ∀ (j : Nat) t v, Try.f10.params[j]? = some t → args[j]? = some v → Value.okWide Try.prog W .any base t v := hval0
  have hsz : (DataW.weightsEach Try.prog (Try.f10.params.toList ++ Rows.stemmaDoublesSpec.plain.varTypes Try.prog) (ds ++ gs)).all (· ≤ reachBytes) = true := hsz0
  clear hval0 hsz0
  have hW' := hW
  obtain ⟨p, q, hA0, hV, rfl, hfz, hnd⟩ := hW
  have hA : DataW.TrodAll enc Try.prog W 0 (fun _ => true) true Try.f10.params.toList args.toList ds p := hA0
  clear hA0
  rw [Try.params10] at hA hval hsz
  obtain ⟨v0, vs0, d0, ds0, p0, q0, hargs, rfl, rfl, h0, r0⟩ := trodAll_cons hA
  obtain ⟨rfl, rfl, rfl⟩ := trodAll_nil r0
  obtain rfl : args = #[v0] := by cases args; simp_all
  obtain ⟨rfl, rfl⟩ := trodVars_none hV
  have w0 : ∀ n ∈ d0.weights Try.prog 22, n ≤ reachBytes := fun n hn => of_decide_eq_true (List.all_eq_true.1 hsz n (DataW.weights_mem_each (j := 0) rfl rfl n hn))
  have lt0 : ∀ x ∈ p0, x.block < W.heap.size := by obtain ⟨m, hm⟩ := h0; exact DataW.trod_lt m _ _ _ hm
  have c0 : v0.cells = #[v0] := by obtain ⟨a, len, cap, rfl⟩ := okWide_slice Try.underlying22 (hval 0 22 v0 rfl rfl); rfl
  obtain ⟨a0, k0⟩ := Abs.arg_one (reads_rds enc W) (fun _ => rfl) c0 h0 w0
  have hargsR : ∀ i, i < [rdsV a0].length → Rep W Noblk Mu.none ([rdsV a0].getD i .junk) ((#[v0] : Array Value).getD i undef) := by
    intro i hi
    match i, hi with
    | 0, _ => exact k0
  refine (Abs.CallP.calls (lawStemmaDoubles_c a0 (len_of_rds k0)) rfl hargsR).mono fun e W' ⟨he, bel⟩ => ?_
  subst he
  exact ⟨_, rfl, _, _, _, [], _, [], hW', trodAll_mk1 (shut_bool Try.underlying4 _), (trodAll_cons_mk (Below.trod laidOut (by kernel_rfl) (of_decide_eq_true (by kernel_rfl)) h0 bel lt0) trodAll_mk0), rfl, bel.frame _, fun h => by cases h⟩
theorem stemmaDoubles_k0 : (Rows.stemmaDoublesRow.wf (OpenSpec.ofChange Rows.stemmaDoublesSpec)) = true := by kernel_rfl
theorem stemmaDoubles_k3 : (Try.f10.params.all (Try.pinned.checked.prog.readableRec ·)) = true := by kernel_rfl
theorem stemmaDoubles_k4 : (namedTie Try.pinned.checked.prog Rows.stemmaDoublesRow.named Rows.stemmaDoublesSpec.vars) = true := by kernel_rfl
theorem stemmaDoubles_k5 : ((Rows.stemmaDoublesRow.stops == [])) = true := by kernel_rfl
theorem stemmaDoubles_k7 : ((Rows.stemmaDoublesRow.knobs == [])) = true := by kernel_rfl
theorem stemmaDoubles_k9 : ((Rows.stemmaDoublesRow.inPlace == Try.pinned.checked.prog.inPlace 10)) = true := by kernel_rfl
theorem stemmaDoubles_k10 : ((Rows.stemmaDoublesRow.unfollowed == Try.pinned.checked.prog.unfollowed 10)) = true := by kernel_rfl
theorem stemmaDoubles_k11 : ((Rows.stemmaDoublesRow.recurses == Try.pinned.checked.prog.recurses 10)) = true := by kernel_rfl
theorem stemmaDoubles_k12 : ((Rows.stemmaDoublesRow.named == Try.pinned.checked.prog.varsNamed 10)) = true := by kernel_rfl
theorem stemmaDoubles_k13 : ((Rows.stemmaDoublesRow.maps == (Try.f10.params.toList ++ Rows.stemmaDoublesSpec.plain.varTypes Try.pinned.checked.prog).any (Try.pinned.checked.prog.mapsRec ·))) = true := by kernel_rfl
theorem stemmaDoubles_k14 : ((Rows.stemmaDoublesRow.ifaces == (Try.f10.params.toList ++ Rows.stemmaDoublesSpec.plain.varTypes Try.pinned.checked.prog).any (Try.pinned.checked.prog.ifacesRec ·))) = true := by kernel_rfl
theorem stemmaDoubles_k15 : ((Rows.stemmaDoublesRow.mapsOut == Try.pinned.checked.prog.mapsAmong Try.f10.resultTypes.toList)) = true := by kernel_rfl
theorem stemmaDoubles_k16 : ((Rows.stemmaDoublesRow.loops == (Try.f10.params.toList ++ Rows.stemmaDoublesSpec.plain.varTypes Try.pinned.checked.prog).any (Try.pinned.checked.prog.loopsFrom ·))) = true := by kernel_rfl
theorem stemmaDoubles_k17 : ((Rows.stemmaDoublesRow.wideKeys == (Try.f10.params.toList ++ Rows.stemmaDoublesSpec.plain.varTypes Try.pinned.checked.prog ++ Try.f10.resultTypes.toList).any (Try.pinned.checked.prog.wideKeysFrom ·))) = true := by kernel_rfl
theorem stemmaDoubles_k18 : (Rows.stemmaDoublesSpec.vars.all (Try.pinned.checked.prog.varReadable ·)) = true := by kernel_rfl
theorem stemmaDoubles_k19 : (Try.f10.resultTypes.all (fun t => Try.pinned.checked.prog.readableRec t && decide (t < Try.pinned.checked.prog.types.size))) = true := by kernel_rfl
theorem stemmaDoubles_k20 : ((Rows.stemmaDoublesRow.ifacesOut == Try.f10.resultTypes.toList.any (Try.pinned.checked.prog.ifacesRec ·))) = true := by kernel_rfl
theorem stemmaDoubles_k21 : ((Rows.stemmaDoublesRow.loopsOut == Try.f10.resultTypes.toList.any (Try.pinned.checked.prog.loopsFrom ·))) = true := by kernel_rfl
theorem stemmaDoubles_k22 : ((Rows.stemmaDoublesRow.plainKeys == Try.pinned.checked.prog.plainKeys)) = true := by kernel_rfl
theorem stemmaDoubles_k23 : (Rows.stemmaDoublesRow.shortTexts.isNone) = true := by kernel_rfl
theorem stemmaDoubles_k26 : ((Rows.stemmaDoublesRow.lifted == Try.pinned.checked.prog.liftsFinal)) = true := by rw [liftsFinal_no]; kernel_rfl
theorem stemmaDoubles_k27 : ((Try.pinned.checked.prog.make == some Rows.stemmaDoublesRow.make)) = true := by rw [make_cut]; kernel_rfl
theorem stemmaDoubles_k28 : ((Rows.stemmaDoublesRow.kinds == (if Rows.stemmaDoublesRow.domain.isEmpty then [] else Try.f10.params.toList.map fun t => match Try.pinned.checked.prog.underlying t with | some (.int k) => some k | _ => none))) = true := by kernel_rfl
theorem stemmaDoubles_k29 : ((Rows.stemmaDoublesRow.pinned == Rows.stemmaDoublesRow.pinnedBy)) = true := by kernel_rfl
theorem stemmaDoubles_k30 : ((Rows.stemmaDoublesRow.veiled == (Try.f10.params.toList ++ Rows.stemmaDoublesSpec.plain.varTypes Try.pinned.checked.prog ++ Try.f10.resultTypes.toList).any (Try.pinned.checked.prog.veiledRec ·))) = true := by kernel_rfl
theorem stemmaDoubles_k31 : (Rows.stemmaDoublesRow.veiledFits Try.pinned.checked.prog Try.f10.params.toList (Try.f10.params.toList ++ Rows.stemmaDoublesSpec.plain.varTypes Try.pinned.checked.prog ++ Try.f10.resultTypes.toList)) = true := by kernel_rfl

theorem stemmaDoubles_proved : Rows.StemmaDoublesSaid :=
  OpenClaim.holds_of_wide 10 Try.f10 rfl rfl rfl rfl rfl rfl rfl ⟨rfl, rfl, rfl, rfl, rfl⟩ rfl rfl rfl rfl rfl (by kernel_rfl) Try.func10
    (joined_of stemmaDoubles_k0 fact1 fact2 stemmaDoubles_k3 stemmaDoubles_k4 stemmaDoubles_k5 fact6 stemmaDoubles_k7 fact8 stemmaDoubles_k9 stemmaDoubles_k10 stemmaDoubles_k11 stemmaDoubles_k12 stemmaDoubles_k13 stemmaDoubles_k14 stemmaDoubles_k15 stemmaDoubles_k16 stemmaDoubles_k17 stemmaDoubles_k18 stemmaDoubles_k19 stemmaDoubles_k20 stemmaDoubles_k21 stemmaDoubles_k22 stemmaDoubles_k23 fact24 mayEnter_yes stemmaDoubles_k26 stemmaDoubles_k27 stemmaDoubles_k28 stemmaDoubles_k29 stemmaDoubles_k30 stemmaDoubles_k31)
    (of_decide_eq_true (by kernel_rfl)) (by unfold Func.isWrapper; first | (rw [if_pos (by decide +kernel)]; kernel_rfl) | (rw [if_neg (by decide +kernel)]; exact ⟨rfl, rfl⟩))
    (fun os started H enc _ => stemmaDoubles_lifted os started H enc)
#print axioms stemmaDoubles_proved
end Go.Proofs.Ytnpkaemlidifgaa
