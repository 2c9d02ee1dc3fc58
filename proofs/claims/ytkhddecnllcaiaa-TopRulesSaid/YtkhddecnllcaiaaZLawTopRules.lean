/- Statement TopRules: for every input the law answers true, and each argument reads behind the call as it read before. -/
import Derived.Test.YtkhddecnllcaiaaV6
import Derived.Test.YtkhddecnllcaiaaV7
import Derived.OpenShut
set_option maxRecDepth 100000
set_option linter.unusedSimpArgs false
set_option linter.unusedVariables false
namespace Go.Proofs.Ytkhddecnllcaiaa
open Go.ChangeShapes Go.WideShapes Go.ChangeAt Go.RowKit
open Go.Abs (CallP Reads Rep Noblk Mu)

theorem topRules_lifted (os : Os) (started : os.Started) (H : Type) (enc : TypeId × Value → H) :
    ReturnsInHanded {} Try.checked os 3 .any (Rows.topRulesSpec.pre6 enc Try.prog Try.f3 Rows.topRulesRow.domain false) (Rows.topRulesSpec.post enc Try.prog Try.f3 false true false false) := by
  refine returnsInHanded_of_change_sized (C := Try.checked) own started (by kernel_rfl) Try.func3
    (ChangeSpec.witness6 (enc := enc) (C := Try.checked) false ⟨#[], #[.agg #[.int .i64 0, .slice none 0 0, .slice none 0 0, .slice none 0 0, .int .i64 0, .slice none 0 0, .slice none 0 0, .slice none 0 0], .slice none 0 0], []⟩ 8 (by kernel_rfl) (by kernel_rfl) (by kernel_rfl) (by kernel_rfl)) ?_
  intro W base args ds gs before hval0 hW hcnd hsz0 _
  have hval : ∀ (j : Nat) t v, Try.f3.params[j]? = some t → args[j]? = some v → Value.okWide Try.prog W .any base t v := hval0
  have hsz : (DataW.weightsEach Try.prog (Try.f3.params.toList ++ Rows.topRulesSpec.plain.varTypes Try.prog) (ds ++ gs)).all (· ≤ reachBytes) = true := hsz0
  clear hval0 hsz0
  have hW' := hW
  obtain ⟨p, q, hA0, hV, rfl, hfz, hnd⟩ := hW
  have hA : DataW.TrodAll enc Try.prog W 0 (fun _ => true) true Try.f3.params.toList args.toList ds p := hA0
  clear hA0
  rw [Try.params3] at hA hval hsz
  obtain ⟨v0, vs0, d0, ds0, p0, q0, hargs, rfl, rfl, h0, r0⟩ := trodAll_cons hA
  obtain ⟨v1, vs1, d1, ds1, p1, q1, rfl, rfl, rfl, h1, r1⟩ := trodAll_cons r0
  obtain ⟨rfl, rfl, rfl⟩ := trodAll_nil r1
  obtain rfl : args = #[v0, v1] := by cases args; simp_all
  obtain ⟨rfl, rfl⟩ := trodVars_none hV
  have w0 : ∀ n ∈ d0.weights Try.prog 26, n ≤ reachBytes := fun n hn => of_decide_eq_true (List.all_eq_true.1 hsz n (DataW.weights_mem_each (j := 0) rfl rfl n hn))
  have lt0 : ∀ x ∈ p0, x.block < W.heap.size := by obtain ⟨m, hm⟩ := h0; exact DataW.trod_lt m _ _ _ hm
  obtain ⟨a0, k0⟩ := Abs.arg_agg Try.underlying26 (reads_two enc W) (fun _ => ⟨_, rfl⟩) (hval 0 26 v0 rfl rfl) h0 w0
  have w1 : ∀ n ∈ d1.weights Try.prog 22, n ≤ reachBytes := fun n hn => of_decide_eq_true (List.all_eq_true.1 hsz n (DataW.weights_mem_each (j := 1) rfl rfl n hn))
  have lt1 : ∀ x ∈ p1, x.block < W.heap.size := by obtain ⟨m, hm⟩ := h1; exact DataW.trod_lt m _ _ _ hm
  have c1 : v1.cells = #[v1] := by obtain ⟨a, len, cap, rfl⟩ := okWide_slice Try.underlying22 (hval 1 22 v1 rfl rfl); rfl
  obtain ⟨a1, k1⟩ := Abs.arg_one (reads_ints enc W) (fun _ => rfl) c1 h1 w1
  have hargsR : ∀ i, i < [twoV a0, ints a1].length → Rep W Noblk Mu.none ([twoV a0, ints a1].getD i .junk) ((#[v0, v1] : Array Value).getD i undef) := by
    intro i hi
    match i, hi with
    | 0, _ => exact k0
    | 1, _ => exact k1
  refine (Abs.CallP.calls (lawTopRules_c a0.1 a0.2 a1) rfl hargsR).mono fun e W' ⟨he, bel⟩ => ?_
  subst he
  exact ⟨_, rfl, _, _, _, [], _, [], hW', trodAll_mk1 (shut_bool Try.underlying4 _), (trodAll_cons_mk (Below.trod laidOut (by kernel_rfl) (of_decide_eq_true (by kernel_rfl)) h0 bel lt0) (trodAll_cons_mk (Below.trod laidOut (by kernel_rfl) (of_decide_eq_true (by kernel_rfl)) h1 bel lt1) trodAll_mk0)), rfl, bel.frame _, fun h => by cases h⟩
theorem topRules_k0 : (Rows.topRulesRow.wf (OpenSpec.ofChange Rows.topRulesSpec)) = true := by kernel_rfl
theorem topRules_k3 : (Try.f3.params.all (Try.pinned.checked.prog.readableRec ·)) = true := by kernel_rfl
theorem topRules_k4 : (namedTie Try.pinned.checked.prog Rows.topRulesRow.named Rows.topRulesSpec.vars) = true := by kernel_rfl
theorem topRules_k5 : ((Rows.topRulesRow.stops == [])) = true := by kernel_rfl
theorem topRules_k7 : ((Rows.topRulesRow.knobs == [])) = true := by kernel_rfl
theorem topRules_k9 : ((Rows.topRulesRow.inPlace == Try.pinned.checked.prog.inPlace 3)) = true := by kernel_rfl
theorem topRules_k10 : ((Rows.topRulesRow.unfollowed == Try.pinned.checked.prog.unfollowed 3)) = true := by kernel_rfl
theorem topRules_k11 : ((Rows.topRulesRow.recurses == Try.pinned.checked.prog.recurses 3)) = true := by kernel_rfl
theorem topRules_k12 : ((Rows.topRulesRow.named == Try.pinned.checked.prog.varsNamed 3)) = true := by kernel_rfl
theorem topRules_k13 : ((Rows.topRulesRow.maps == (Try.f3.params.toList ++ Rows.topRulesSpec.plain.varTypes Try.pinned.checked.prog).any (Try.pinned.checked.prog.mapsRec ·))) = true := by kernel_rfl
theorem topRules_k14 : ((Rows.topRulesRow.ifaces == (Try.f3.params.toList ++ Rows.topRulesSpec.plain.varTypes Try.pinned.checked.prog).any (Try.pinned.checked.prog.ifacesRec ·))) = true := by kernel_rfl
theorem topRules_k15 : ((Rows.topRulesRow.mapsOut == Try.pinned.checked.prog.mapsAmong Try.f3.resultTypes.toList)) = true := by kernel_rfl
theorem topRules_k16 : ((Rows.topRulesRow.loops == (Try.f3.params.toList ++ Rows.topRulesSpec.plain.varTypes Try.pinned.checked.prog).any (Try.pinned.checked.prog.loopsFrom ·))) = true := by kernel_rfl
theorem topRules_k17 : ((Rows.topRulesRow.wideKeys == (Try.f3.params.toList ++ Rows.topRulesSpec.plain.varTypes Try.pinned.checked.prog ++ Try.f3.resultTypes.toList).any (Try.pinned.checked.prog.wideKeysFrom ·))) = true := by kernel_rfl
theorem topRules_k18 : (Rows.topRulesSpec.vars.all (Try.pinned.checked.prog.varReadable ·)) = true := by kernel_rfl
theorem topRules_k19 : (Try.f3.resultTypes.all (fun t => Try.pinned.checked.prog.readableRec t && decide (t < Try.pinned.checked.prog.types.size))) = true := by kernel_rfl
theorem topRules_k20 : ((Rows.topRulesRow.ifacesOut == Try.f3.resultTypes.toList.any (Try.pinned.checked.prog.ifacesRec ·))) = true := by kernel_rfl
theorem topRules_k21 : ((Rows.topRulesRow.loopsOut == Try.f3.resultTypes.toList.any (Try.pinned.checked.prog.loopsFrom ·))) = true := by kernel_rfl
theorem topRules_k22 : ((Rows.topRulesRow.plainKeys == Try.pinned.checked.prog.plainKeys)) = true := by kernel_rfl
theorem topRules_k23 : (Rows.topRulesRow.shortTexts.isNone) = true := by kernel_rfl
theorem topRules_k26 : ((Rows.topRulesRow.lifted == Try.pinned.checked.prog.liftsFinal)) = true := by rw [liftsFinal_no]; kernel_rfl
theorem topRules_k27 : ((Try.pinned.checked.prog.make == some Rows.topRulesRow.make)) = true := by rw [make_cut]; kernel_rfl
theorem topRules_k28 : ((Rows.topRulesRow.kinds == (if Rows.topRulesRow.domain.isEmpty then [] else Try.f3.params.toList.map fun t => match Try.pinned.checked.prog.underlying t with | some (.int k) => some k | _ => none))) = true := by kernel_rfl
theorem topRules_k29 : ((Rows.topRulesRow.pinned == Rows.topRulesRow.pinnedBy)) = true := by kernel_rfl
theorem topRules_k30 : ((Rows.topRulesRow.veiled == (Try.f3.params.toList ++ Rows.topRulesSpec.plain.varTypes Try.pinned.checked.prog ++ Try.f3.resultTypes.toList).any (Try.pinned.checked.prog.veiledRec ·))) = true := by kernel_rfl
theorem topRules_k31 : (Rows.topRulesRow.veiledFits Try.pinned.checked.prog Try.f3.params.toList (Try.f3.params.toList ++ Rows.topRulesSpec.plain.varTypes Try.pinned.checked.prog ++ Try.f3.resultTypes.toList)) = true := by kernel_rfl

theorem topRules_proved : Rows.TopRulesSaid :=
  OpenClaim.holds_of_wide 3 Try.f3 rfl rfl rfl rfl rfl rfl rfl ⟨rfl, rfl, rfl, rfl, rfl⟩ rfl rfl rfl rfl rfl (by kernel_rfl) Try.func3
    (joined_of topRules_k0 fact1 fact2 topRules_k3 topRules_k4 topRules_k5 fact6 topRules_k7 fact8 topRules_k9 topRules_k10 topRules_k11 topRules_k12 topRules_k13 topRules_k14 topRules_k15 topRules_k16 topRules_k17 topRules_k18 topRules_k19 topRules_k20 topRules_k21 topRules_k22 topRules_k23 fact24 mayEnter_yes topRules_k26 topRules_k27 topRules_k28 topRules_k29 topRules_k30 topRules_k31)
    (of_decide_eq_true (by kernel_rfl)) (by unfold Func.isWrapper; first | (rw [if_pos (by decide +kernel)]; kernel_rfl) | (rw [if_neg (by decide +kernel)]; exact ⟨rfl, rfl⟩))
    (fun os started H enc _ => topRules_lifted os started H enc)
#print axioms topRules_proved
end Go.Proofs.Ytkhddecnllcaiaa
