/- Statement TopStemmas: for every input the law answers true, and each argument reads behind the call as it read before. -/
import Derived.Test.YtnpkaemlidifgaaV6
import Derived.Test.YtnpkaemlidifgaaV7
import Derived.OpenShut
set_option maxRecDepth 100000
set_option linter.unusedSimpArgs false
set_option linter.unusedVariables false
namespace Go.Proofs.Ytnpkaemlidifgaa
open Go.ChangeShapes Go.WideShapes Go.ChangeAt Go.RowKit
open Go.Abs (CallP Reads Rep Noblk Mu)

theorem topStemmas_lifted (os : Os) (started : os.Started) (H : Type) (enc : TypeId × Value → H) :
    ReturnsInHanded {} Try.checked os 17 .any (Rows.topStemmasSpec.pre6 enc Try.prog Try.f17 Rows.topStemmasRow.domain false) (Rows.topStemmasSpec.post enc Try.prog Try.f17 false true false false) := by
  refine returnsInHanded_of_change_sized (C := Try.checked) own started (by kernel_rfl) Try.func17
    (ChangeSpec.witness6 (enc := enc) (C := Try.checked) false ⟨#[], #[.slice none 0 0, .agg #[.slice none 0 0, .slice none 0 0]], []⟩ 8 (by kernel_rfl) (by kernel_rfl) (by kernel_rfl) (by kernel_rfl)) ?_
  intro W base args ds gs before hval0 hW hcnd hsz0 _
  have hval : ∀ (j : Nat) t v, Try.f17.params[j]? = some t → args[j]? = some v → Value.okWide Try.prog W .any base t v := hval0
  have hsz : (DataW.weightsEach Try.prog (Try.f17.params.toList ++ Rows.topStemmasSpec.plain.varTypes Try.prog) (ds ++ gs)).all (· ≤ reachBytes) = true := hsz0
  clear hval0 hsz0
  have hW' := hW
  obtain ⟨p, q, hA0, hV, rfl, hfz, hnd⟩ := hW
  have hA : DataW.TrodAll enc Try.prog W 0 (fun _ => true) true Try.f17.params.toList args.toList ds p := hA0
  clear hA0
  rw [Try.params17] at hA hval hsz
  obtain ⟨v0, vs0, d0, ds0, p0, q0, hargs, rfl, rfl, h0, r0⟩ := trodAll_cons hA
  obtain ⟨v1, vs1, d1, ds1, p1, q1, rfl, rfl, rfl, h1, r1⟩ := trodAll_cons r0
  obtain ⟨rfl, rfl, rfl⟩ := trodAll_nil r1
  obtain rfl : args = #[v0, v1] := by cases args; simp_all
  obtain ⟨rfl, rfl⟩ := trodVars_none hV
  have w0 : ∀ n ∈ d0.weights Try.prog 22, n ≤ reachBytes := fun n hn => of_decide_eq_true (List.all_eq_true.1 hsz n (DataW.weights_mem_each (j := 0) rfl rfl n hn))
  have lt0 : ∀ x ∈ p0, x.block < W.heap.size := by obtain ⟨m, hm⟩ := h0; exact DataW.trod_lt m _ _ _ hm
  have c0 : v0.cells = #[v0] := by obtain ⟨a, len, cap, rfl⟩ := okWide_slice Try.underlying22 (hval 0 22 v0 rfl rfl); rfl
  obtain ⟨a0, k0⟩ := Abs.arg_one (reads_rds enc W) (fun _ => rfl) c0 h0 w0
  have w1 : ∀ n ∈ d1.weights Try.prog 25, n ≤ reachBytes := fun n hn => of_decide_eq_true (List.all_eq_true.1 hsz n (DataW.weights_mem_each (j := 1) rfl rfl n hn))
  have lt1 : ∀ x ∈ p1, x.block < W.heap.size := by obtain ⟨m, hm⟩ := h1; exact DataW.trod_lt m _ _ _ hm
  obtain ⟨a1, k1⟩ := Abs.arg_agg Try.underlying25 (reads_tree enc W) (fun _ => ⟨_, rfl⟩) (hval 1 25 v1 rfl rfl) h1 w1
  have hargsR : ∀ i, i < [rdsV a0, treeP a1].length → Rep W Noblk Mu.none ([rdsV a0, treeP a1].getD i .junk) ((#[v0, v1] : Array Value).getD i undef) := by
    intro i hi
    match i, hi with
    | 0, _ => exact k0
    | 1, _ => exact k1
  refine (Abs.CallP.calls (lawTopStemmas_c a0 a1.1 a1.2 (len_of_rds k0)) rfl hargsR).mono fun e W' ⟨he, bel⟩ => ?_
  subst he
  exact ⟨_, rfl, _, _, _, [], _, [], hW', trodAll_mk1 (shut_bool Try.underlying4 _), (trodAll_cons_mk (Below.trod laidOut (by kernel_rfl) (of_decide_eq_true (by kernel_rfl)) h0 bel lt0) (trodAll_cons_mk (Below.trod laidOut (by kernel_rfl) (of_decide_eq_true (by kernel_rfl)) h1 bel lt1) trodAll_mk0)), rfl, bel.frame _, fun h => by cases h⟩
theorem topStemmas_k0 : (Rows.topStemmasRow.wf (OpenSpec.ofChange Rows.topStemmasSpec)) = true := by kernel_rfl
theorem topStemmas_k3 : (Try.f17.params.all (Try.pinned.checked.prog.readableRec ·)) = true := by kernel_rfl
theorem topStemmas_k4 : (namedTie Try.pinned.checked.prog Rows.topStemmasRow.named Rows.topStemmasSpec.vars) = true := by kernel_rfl
theorem topStemmas_k5 : ((Rows.topStemmasRow.stops == [])) = true := by kernel_rfl
theorem topStemmas_k7 : ((Rows.topStemmasRow.knobs == [])) = true := by kernel_rfl
theorem topStemmas_k9 : ((Rows.topStemmasRow.inPlace == Try.pinned.checked.prog.inPlace 17)) = true := by kernel_rfl
theorem topStemmas_k10 : ((Rows.topStemmasRow.unfollowed == Try.pinned.checked.prog.unfollowed 17)) = true := by kernel_rfl
theorem topStemmas_k11 : ((Rows.topStemmasRow.recurses == Try.pinned.checked.prog.recurses 17)) = true := by kernel_rfl
theorem topStemmas_k12 : ((Rows.topStemmasRow.named == Try.pinned.checked.prog.varsNamed 17)) = true := by kernel_rfl
theorem topStemmas_k13 : ((Rows.topStemmasRow.maps == (Try.f17.params.toList ++ Rows.topStemmasSpec.plain.varTypes Try.pinned.checked.prog).any (Try.pinned.checked.prog.mapsRec ·))) = true := by kernel_rfl
theorem topStemmas_k14 : ((Rows.topStemmasRow.ifaces == (Try.f17.params.toList ++ Rows.topStemmasSpec.plain.varTypes Try.pinned.checked.prog).any (Try.pinned.checked.prog.ifacesRec ·))) = true := by kernel_rfl
theorem topStemmas_k15 : ((Rows.topStemmasRow.mapsOut == Try.pinned.checked.prog.mapsAmong Try.f17.resultTypes.toList)) = true := by kernel_rfl
theorem topStemmas_k16 : ((Rows.topStemmasRow.loops == (Try.f17.params.toList ++ Rows.topStemmasSpec.plain.varTypes Try.pinned.checked.prog).any (Try.pinned.checked.prog.loopsFrom ·))) = true := by kernel_rfl
theorem topStemmas_k17 : ((Rows.topStemmasRow.wideKeys == (Try.f17.params.toList ++ Rows.topStemmasSpec.plain.varTypes Try.pinned.checked.prog ++ Try.f17.resultTypes.toList).any (Try.pinned.checked.prog.wideKeysFrom ·))) = true := by kernel_rfl
theorem topStemmas_k18 : (Rows.topStemmasSpec.vars.all (Try.pinned.checked.prog.varReadable ·)) = true := by kernel_rfl
theorem topStemmas_k19 : (Try.f17.resultTypes.all (fun t => Try.pinned.checked.prog.readableRec t && decide (t < Try.pinned.checked.prog.types.size))) = true := by kernel_rfl
theorem topStemmas_k20 : ((Rows.topStemmasRow.ifacesOut == Try.f17.resultTypes.toList.any (Try.pinned.checked.prog.ifacesRec ·))) = true := by kernel_rfl
theorem topStemmas_k21 : ((Rows.topStemmasRow.loopsOut == Try.f17.resultTypes.toList.any (Try.pinned.checked.prog.loopsFrom ·))) = true := by kernel_rfl
theorem topStemmas_k22 : ((Rows.topStemmasRow.plainKeys == Try.pinned.checked.prog.plainKeys)) = true := by kernel_rfl
theorem topStemmas_k23 : (Rows.topStemmasRow.shortTexts.isNone) = true := by kernel_rfl
theorem topStemmas_k26 : ((Rows.topStemmasRow.lifted == Try.pinned.checked.prog.liftsFinal)) = true := by rw [liftsFinal_no]; kernel_rfl
theorem topStemmas_k27 : ((Try.pinned.checked.prog.make == some Rows.topStemmasRow.make)) = true := by rw [make_cut]; kernel_rfl
theorem topStemmas_k28 : ((Rows.topStemmasRow.kinds == (if Rows.topStemmasRow.domain.isEmpty then [] else Try.f17.params.toList.map fun t => match Try.pinned.checked.prog.underlying t with | some (.int k) => some k | _ => none))) = true := by kernel_rfl
theorem topStemmas_k29 : ((Rows.topStemmasRow.pinned == Rows.topStemmasRow.pinnedBy)) = true := by kernel_rfl
theorem topStemmas_k30 : ((Rows.topStemmasRow.veiled == (Try.f17.params.toList ++ Rows.topStemmasSpec.plain.varTypes Try.pinned.checked.prog ++ Try.f17.resultTypes.toList).any (Try.pinned.checked.prog.veiledRec ·))) = true := by kernel_rfl
theorem topStemmas_k31 : (Rows.topStemmasRow.veiledFits Try.pinned.checked.prog Try.f17.params.toList (Try.f17.params.toList ++ Rows.topStemmasSpec.plain.varTypes Try.pinned.checked.prog ++ Try.f17.resultTypes.toList)) = true := by kernel_rfl

theorem topStemmas_proved : Rows.TopStemmasSaid :=
  OpenClaim.holds_of_wide 17 Try.f17 rfl rfl rfl rfl rfl rfl rfl ⟨rfl, rfl, rfl, rfl, rfl⟩ rfl rfl rfl rfl rfl (by kernel_rfl) Try.func17
    (joined_of topStemmas_k0 fact1 fact2 topStemmas_k3 topStemmas_k4 topStemmas_k5 fact6 topStemmas_k7 fact8 topStemmas_k9 topStemmas_k10 topStemmas_k11 topStemmas_k12 topStemmas_k13 topStemmas_k14 topStemmas_k15 topStemmas_k16 topStemmas_k17 topStemmas_k18 topStemmas_k19 topStemmas_k20 topStemmas_k21 topStemmas_k22 topStemmas_k23 fact24 mayEnter_yes topStemmas_k26 topStemmas_k27 topStemmas_k28 topStemmas_k29 topStemmas_k30 topStemmas_k31)
    (of_decide_eq_true (by kernel_rfl)) (by unfold Func.isWrapper; first | (rw [if_pos (by decide +kernel)]; kernel_rfl) | (rw [if_neg (by decide +kernel)]; exact ⟨rfl, rfl⟩))
    (fun os started H enc _ => topStemmas_lifted os started H enc)
#print axioms topStemmas_proved
end Go.Proofs.Ytnpkaemlidifgaa
