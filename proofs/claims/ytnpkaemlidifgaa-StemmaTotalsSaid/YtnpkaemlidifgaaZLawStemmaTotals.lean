/- Statement StemmaTotals: for every input the law answers true, and each argument reads behind the call as it read before. -/
import Derived.Test.YtnpkaemlidifgaaV6
import Derived.Test.YtnpkaemlidifgaaV7
import Derived.OpenShut
set_option maxRecDepth 100000
set_option linter.unusedSimpArgs false
set_option linter.unusedVariables false
namespace Go.Proofs.Ytnpkaemlidifgaa
open Go.ChangeShapes Go.WideShapes Go.ChangeAt Go.RowKit
open Go.Abs (CallP Reads Rep Noblk Mu)

theorem stemmaTotals_lifted (os : Os) (started : os.Started) (H : Type) (enc : TypeId × Value → H) :
    ReturnsInHanded {} Try.checked os 11 .any (Rows.stemmaTotalsSpec.pre6 enc Try.prog Try.f11 Rows.stemmaTotalsRow.domain false) (Rows.stemmaTotalsSpec.post enc Try.prog Try.f11 false true false false) := by
  refine returnsInHanded_of_change_sized (C := Try.checked) own started (by kernel_rfl) Try.func11
    (ChangeSpec.witness6 (enc := enc) (C := Try.checked) false ⟨#[], #[.slice none 0 0, .agg #[.slice none 0 0, .slice none 0 0]], []⟩ 8 (by kernel_rfl) (by kernel_rfl) (by kernel_rfl) (by kernel_rfl)) ?_
  intro W base args ds gs before hval0 hW hcnd hsz0 _
  have hval : ∀ (j : Nat) t v, Try.f11.params[j]? = some t → args[j]? = some v → Value.okWide Try.prog W .any base t v := hval0
  have hsz : (DataW.weightsEach Try.prog (Try.f11.params.toList ++ Rows.stemmaTotalsSpec.plain.varTypes Try.prog) (ds ++ gs)).all (· ≤ reachBytes) = true := hsz0
  clear hval0 hsz0
  have hW' := hW
  obtain ⟨p, q, hA0, hV, rfl, hfz, hnd⟩ := hW
  have hA : DataW.TrodAll enc Try.prog W 0 (fun _ => true) true Try.f11.params.toList args.toList ds p := hA0
  clear hA0
  rw [Try.params11] at hA hval hsz
  obtain ⟨v0, vs0, d0, ds0, p0, q0, hargs, rfl, rfl, h0, r0⟩ := trodAll_cons hA
  obtain ⟨v1, vs1, d1, ds1, p1, q1, rfl, rfl, rfl, h1, r1⟩ := trodAll_cons r0
  obtain ⟨rfl, rfl, rfl⟩ := trodAll_nil r1
  obtain rfl : args = #[v0, v1] := by cases args; simp_all
  obtain ⟨rfl, rfl⟩ := trodVars_none hV
  have w0 : ∀ n ∈ d0.weights Try.prog 22, n ≤ reachBytes := fun n hn => of_decide_eq_true (List.all_eq_true.1 hsz n (DataW.weights_mem_each (j := 0) rfl rfl n hn))
  have lt0 : ∀ x ∈ p0, x.block < W.heap.size := by obtain ⟨m, hm⟩ := h0; exact DataW.trod_lt m _ _ _ hm
  have c0 : v0.cells = #[v0] := by obtain ⟨a, len, cap, rfl⟩ := okWide_slice Try.underlying22 (hval 0 22 v0 rfl rfl); rfl
  obtain ⟨a0, k0⟩ := Abs.arg_one (reads_rds enc W) (fun _ => rfl) c0 h0 w0
  have w1 : ∀ n ∈ d1.weights Try.prog 25, n ≤ reachBytes := fun n hn => of_decide_eq_true (List.all_eq_true.1 hsz n (DataW.weights_mem_each (j := 1) rfl rfl n hn))
  have lt1 : ∀ x ∈ p1, x.block < W.heap.size := by obtain ⟨m, hm⟩ := h1; exact DataW.trod_lt m _ _ _ hm
  obtain ⟨a1, k1⟩ := Abs.arg_agg Try.underlying25 (reads_tree enc W) (fun _ => ⟨_, rfl⟩) (hval 1 25 v1 rfl rfl) h1 w1
  have hargsR : ∀ i, i < [rdsV a0, treeP a1].length → Rep W Noblk Mu.none ([rdsV a0, treeP a1].getD i .junk) ((#[v0, v1] : Array Value).getD i undef) := by
    intro i hi
    match i, hi with
    | 0, _ => exact k0
    | 1, _ => exact k1
  refine (Abs.CallP.calls (lawStemmaTotals_c a0 a1.1 a1.2 (len_of_rds k0)) rfl hargsR).mono fun e W' ⟨he, bel⟩ => ?_
  subst he
  exact ⟨_, rfl, _, _, _, [], _, [], hW', trodAll_mk1 (shut_bool Try.underlying4 _), (trodAll_cons_mk (Below.trod laidOut (by kernel_rfl) (of_decide_eq_true (by kernel_rfl)) h0 bel lt0) (trodAll_cons_mk (Below.trod laidOut (by kernel_rfl) (of_decide_eq_true (by kernel_rfl)) h1 bel lt1) trodAll_mk0)), rfl, bel.frame _, fun h => by cases h⟩
theorem stemmaTotals_k0 : (Rows.stemmaTotalsRow.wf (OpenSpec.ofChange Rows.stemmaTotalsSpec)) = true := by kernel_rfl
theorem stemmaTotals_k3 : (Try.f11.params.all (Try.pinned.checked.prog.readableRec ·)) = true := by kernel_rfl
theorem stemmaTotals_k4 : (namedTie Try.pinned.checked.prog Rows.stemmaTotalsRow.named Rows.stemmaTotalsSpec.vars) = true := by kernel_rfl
theorem stemmaTotals_k5 : ((Rows.stemmaTotalsRow.stops == [])) = true := by kernel_rfl
theorem stemmaTotals_k7 : ((Rows.stemmaTotalsRow.knobs == [])) = true := by kernel_rfl
theorem stemmaTotals_k9 : ((Rows.stemmaTotalsRow.inPlace == Try.pinned.checked.prog.inPlace 11)) = true := by kernel_rfl
theorem stemmaTotals_k10 : ((Rows.stemmaTotalsRow.unfollowed == Try.pinned.checked.prog.unfollowed 11)) = true := by kernel_rfl
theorem stemmaTotals_k11 : ((Rows.stemmaTotalsRow.recurses == Try.pinned.checked.prog.recurses 11)) = true := by kernel_rfl
theorem stemmaTotals_k12 : ((Rows.stemmaTotalsRow.named == Try.pinned.checked.prog.varsNamed 11)) = true := by kernel_rfl
theorem stemmaTotals_k13 : ((Rows.stemmaTotalsRow.maps == (Try.f11.params.toList ++ Rows.stemmaTotalsSpec.plain.varTypes Try.pinned.checked.prog).any (Try.pinned.checked.prog.mapsRec ·))) = true := by kernel_rfl
theorem stemmaTotals_k14 : ((Rows.stemmaTotalsRow.ifaces == (Try.f11.params.toList ++ Rows.stemmaTotalsSpec.plain.varTypes Try.pinned.checked.prog).any (Try.pinned.checked.prog.ifacesRec ·))) = true := by kernel_rfl
theorem stemmaTotals_k15 : ((Rows.stemmaTotalsRow.mapsOut == Try.pinned.checked.prog.mapsAmong Try.f11.resultTypes.toList)) = true := by kernel_rfl
theorem stemmaTotals_k16 : ((Rows.stemmaTotalsRow.loops == (Try.f11.params.toList ++ Rows.stemmaTotalsSpec.plain.varTypes Try.pinned.checked.prog).any (Try.pinned.checked.prog.loopsFrom ·))) = true := by kernel_rfl
theorem stemmaTotals_k17 : ((Rows.stemmaTotalsRow.wideKeys == (Try.f11.params.toList ++ Rows.stemmaTotalsSpec.plain.varTypes Try.pinned.checked.prog ++ Try.f11.resultTypes.toList).any (Try.pinned.checked.prog.wideKeysFrom ·))) = true := by kernel_rfl
theorem stemmaTotals_k18 : (Rows.stemmaTotalsSpec.vars.all (Try.pinned.checked.prog.varReadable ·)) = true := by kernel_rfl
theorem stemmaTotals_k19 : (Try.f11.resultTypes.all (fun t => Try.pinned.checked.prog.readableRec t && decide (t < Try.pinned.checked.prog.types.size))) = true := by kernel_rfl
theorem stemmaTotals_k20 : ((Rows.stemmaTotalsRow.ifacesOut == Try.f11.resultTypes.toList.any (Try.pinned.checked.prog.ifacesRec ·))) = true := by kernel_rfl
theorem stemmaTotals_k21 : ((Rows.stemmaTotalsRow.loopsOut == Try.f11.resultTypes.toList.any (Try.pinned.checked.prog.loopsFrom ·))) = true := by kernel_rfl
theorem stemmaTotals_k22 : ((Rows.stemmaTotalsRow.plainKeys == Try.pinned.checked.prog.plainKeys)) = true := by kernel_rfl
theorem stemmaTotals_k23 : (Rows.stemmaTotalsRow.shortTexts.isNone) = true := by kernel_rfl
theorem stemmaTotals_k26 : ((Rows.stemmaTotalsRow.lifted == Try.pinned.checked.prog.liftsFinal)) = true := by rw [liftsFinal_no]; kernel_rfl
theorem stemmaTotals_k27 : ((Try.pinned.checked.prog.make == some Rows.stemmaTotalsRow.make)) = true := by rw [make_cut]; kernel_rfl
theorem stemmaTotals_k28 : ((Rows.stemmaTotalsRow.kinds == (if Rows.stemmaTotalsRow.domain.isEmpty then [] else Try.f11.params.toList.map fun t => match Try.pinned.checked.prog.underlying t with | some (.int k) => some k | _ => none))) = true := by kernel_rfl
theorem stemmaTotals_k29 : ((Rows.stemmaTotalsRow.pinned == Rows.stemmaTotalsRow.pinnedBy)) = true := by kernel_rfl
theorem stemmaTotals_k30 : ((Rows.stemmaTotalsRow.veiled == (Try.f11.params.toList ++ Rows.stemmaTotalsSpec.plain.varTypes Try.pinned.checked.prog ++ Try.f11.resultTypes.toList).any (Try.pinned.checked.prog.veiledRec ·))) = true := by kernel_rfl
theorem stemmaTotals_k31 : (Rows.stemmaTotalsRow.veiledFits Try.pinned.checked.prog Try.f11.params.toList (Try.f11.params.toList ++ Rows.stemmaTotalsSpec.plain.varTypes Try.pinned.checked.prog ++ Try.f11.resultTypes.toList)) = true := by kernel_rfl

theorem stemmaTotals_proved : Rows.StemmaTotalsSaid :=
  OpenClaim.holds_of_wide 11 Try.f11 rfl rfl rfl rfl rfl rfl rfl ⟨rfl, rfl, rfl, rfl, rfl⟩ rfl rfl rfl rfl rfl (by kernel_rfl) Try.func11
    (joined_of stemmaTotals_k0 fact1 fact2 stemmaTotals_k3 stemmaTotals_k4 stemmaTotals_k5 fact6 stemmaTotals_k7 fact8 stemmaTotals_k9 stemmaTotals_k10 stemmaTotals_k11 stemmaTotals_k12 stemmaTotals_k13 stemmaTotals_k14 stemmaTotals_k15 stemmaTotals_k16 stemmaTotals_k17 stemmaTotals_k18 stemmaTotals_k19 stemmaTotals_k20 stemmaTotals_k21 stemmaTotals_k22 stemmaTotals_k23 fact24 mayEnter_yes stemmaTotals_k26 stemmaTotals_k27 stemmaTotals_k28 stemmaTotals_k29 stemmaTotals_k30 stemmaTotals_k31)
    (of_decide_eq_true (by kernel_rfl)) (by unfold Func.isWrapper; first | (rw [if_pos (by decide +kernel)]; kernel_rfl) | (rw [if_neg (by decide +kernel)]; exact ⟨rfl, rfl⟩))
    (fun os started H enc _ => stemmaTotals_lifted os started H enc)
#print axioms stemmaTotals_proved
end Go.Proofs.Ytnpkaemlidifgaa
