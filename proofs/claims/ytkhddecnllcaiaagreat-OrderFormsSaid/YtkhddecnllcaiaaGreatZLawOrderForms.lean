/- Statement OrderForms: for every input the law answers true, and each argument reads behind the call as it read before. -/
import Derived.Test.YtkhddecnllcaiaaGreatV6
import Derived.Test.YtkhddecnllcaiaaGreatV5
import Derived.OpenShut
set_option maxRecDepth 100000
set_option linter.unusedSimpArgs false
set_option linter.unusedVariables false
namespace Go.Proofs.YtkhddecnllcaiaaGreat
open Go.ChangeShapes Go.WideShapes Go.ChangeAt Go.RowKit
open Go.Abs (CallP Reads Rep Noblk Mu)

theorem orderForms_lifted (os : Os) (started : os.Started) (H : Type) (enc : TypeId × Value → H) :
    ReturnsInHanded {} Tryz.checked os 5 .any (Rows.orderFormsSpec.pre6 enc Tryz.prog Tryz.f5 Rows.orderFormsRow.domain false) (Rows.orderFormsSpec.post enc Tryz.prog Tryz.f5 false true false false) := by
  refine returnsInHanded_of_change_sized (C := Tryz.checked) own started (by kernel_rfl) Tryz.func5
    (ChangeSpec.witness6 (enc := enc) (C := Tryz.checked) false ⟨#[], #[.agg #[.slice none 0 0, .slice none 0 0, .slice none 0 0]], []⟩ 8 (by kernel_rfl) (by kernel_rfl) (by kernel_rfl) (by kernel_rfl)) ?_
  intro W base args ds gs before hval0 hW hcnd hsz0 _
  have hval : ∀ (j : Nat) t v, Tryz.f5.params[j]? = some t → args[j]? = some v → Value.okWide Tryz.prog W .any base t v := hval0
  have hsz : (DataW.weightsEach Tryz.prog (Tryz.f5.params.toList ++ Rows.orderFormsSpec.plain.varTypes Tryz.prog) (ds ++ gs)).all (· ≤ reachBytes) = true := hsz0
  clear hval0 hsz0
  have hW' := hW
  obtain ⟨p, q, hA0, hV, rfl, hfz, hnd⟩ := hW
  have hA : DataW.TrodAll enc Tryz.prog W 0 (fun _ => true) true Tryz.f5.params.toList args.toList ds p := hA0
  clear hA0
  rw [Tryz.params5] at hA hval hsz
  obtain ⟨v0, vs0, d0, ds0, p0, q0, hargs, rfl, rfl, h0, r0⟩ := trodAll_cons hA
  obtain ⟨rfl, rfl, rfl⟩ := trodAll_nil r0
  obtain rfl : args = #[v0] := by cases args; simp_all
  obtain ⟨rfl, rfl⟩ := trodVars_none hV
  have w0 : ∀ n ∈ d0.weights Tryz.prog 36, n ≤ reachBytes := fun n hn => of_decide_eq_true (List.all_eq_true.1 hsz n (DataW.weights_mem_each (j := 0) rfl rfl n hn))
  have lt0 : ∀ x ∈ p0, x.block < W.heap.size := by obtain ⟨m, hm⟩ := h0; exact DataW.trod_lt m _ _ _ hm
  obtain ⟨a0, k0⟩ := Abs.arg_agg Tryz.underlying36 (reads_case enc W) (fun _ => ⟨_, rfl⟩) (hval 0 36 v0 rfl rfl) h0 w0
  have hargsR : ∀ i, i < [caseV a0].length → Rep W Noblk Mu.none ([caseV a0].getD i .junk) ((#[v0] : Array Value).getD i undef) := by
    intro i hi
    match i, hi with
    | 0, _ => exact k0
  refine (Abs.CallP.calls (lawOrderForms_c a0 (len_of_case k0)) rfl hargsR).mono fun e W' ⟨he, bel⟩ => ?_
  subst he
  exact ⟨_, rfl, _, _, _, [], _, [], hW', trodAll_mk1 (shut_bool Tryz.underlying4 _), (trodAll_cons_mk (Below.trod laidOut (by kernel_rfl) (of_decide_eq_true (by kernel_rfl)) h0 bel lt0) trodAll_mk0), rfl, bel.frame _, fun h => by cases h⟩
theorem orderForms_k0 : (Rows.orderFormsRow.wf (OpenSpec.ofChange Rows.orderFormsSpec)) = true := by kernel_rfl
theorem orderForms_k3 : (Tryz.f5.params.all (Tryz.pinned.checked.prog.readableRec ·)) = true := by kernel_rfl
theorem orderForms_k4 : (namedTie Tryz.pinned.checked.prog Rows.orderFormsRow.named Rows.orderFormsSpec.vars) = true := by kernel_rfl
theorem orderForms_k5 : ((Rows.orderFormsRow.stops == [])) = true := by kernel_rfl
theorem orderForms_k7 : ((Rows.orderFormsRow.knobs == [])) = true := by kernel_rfl
theorem orderForms_k9 : ((Rows.orderFormsRow.inPlace == Tryz.pinned.checked.prog.inPlace 5)) = true := by kernel_rfl
theorem orderForms_k10 : ((Rows.orderFormsRow.unfollowed == Tryz.pinned.checked.prog.unfollowed 5)) = true := by kernel_rfl
theorem orderForms_k11 : ((Rows.orderFormsRow.recurses == Tryz.pinned.checked.prog.recurses 5)) = true := by kernel_rfl
theorem orderForms_k12 : ((Rows.orderFormsRow.named == Tryz.pinned.checked.prog.varsNamed 5)) = true := by kernel_rfl
theorem orderForms_k13 : ((Rows.orderFormsRow.maps == (Tryz.f5.params.toList ++ Rows.orderFormsSpec.plain.varTypes Tryz.pinned.checked.prog).any (Tryz.pinned.checked.prog.mapsRec ·))) = true := by kernel_rfl
theorem orderForms_k14 : ((Rows.orderFormsRow.ifaces == (Tryz.f5.params.toList ++ Rows.orderFormsSpec.plain.varTypes Tryz.pinned.checked.prog).any (Tryz.pinned.checked.prog.ifacesRec ·))) = true := by kernel_rfl
theorem orderForms_k15 : ((Rows.orderFormsRow.mapsOut == Tryz.pinned.checked.prog.mapsAmong Tryz.f5.resultTypes.toList)) = true := by kernel_rfl
theorem orderForms_k16 : ((Rows.orderFormsRow.loops == (Tryz.f5.params.toList ++ Rows.orderFormsSpec.plain.varTypes Tryz.pinned.checked.prog).any (Tryz.pinned.checked.prog.loopsFrom ·))) = true := by kernel_rfl
theorem orderForms_k17 : ((Rows.orderFormsRow.wideKeys == (Tryz.f5.params.toList ++ Rows.orderFormsSpec.plain.varTypes Tryz.pinned.checked.prog ++ Tryz.f5.resultTypes.toList).any (Tryz.pinned.checked.prog.wideKeysFrom ·))) = true := by kernel_rfl
theorem orderForms_k18 : (Rows.orderFormsSpec.vars.all (Tryz.pinned.checked.prog.varReadable ·)) = true := by kernel_rfl
theorem orderForms_k19 : (Tryz.f5.resultTypes.all (fun t => Tryz.pinned.checked.prog.readableRec t && decide (t < Tryz.pinned.checked.prog.types.size))) = true := by kernel_rfl
theorem orderForms_k20 : ((Rows.orderFormsRow.ifacesOut == Tryz.f5.resultTypes.toList.any (Tryz.pinned.checked.prog.ifacesRec ·))) = true := by kernel_rfl
theorem orderForms_k21 : ((Rows.orderFormsRow.loopsOut == Tryz.f5.resultTypes.toList.any (Tryz.pinned.checked.prog.loopsFrom ·))) = true := by kernel_rfl
theorem orderForms_k22 : ((Rows.orderFormsRow.plainKeys == Tryz.pinned.checked.prog.plainKeys)) = true := by kernel_rfl
theorem orderForms_k23 : (Rows.orderFormsRow.shortTexts.isNone) = true := by kernel_rfl
theorem orderForms_k26 : ((Rows.orderFormsRow.lifted == Tryz.pinned.checked.prog.liftsFinal)) = true := by rw [liftsFinal_no]; kernel_rfl
theorem orderForms_k27 : ((Tryz.pinned.checked.prog.make == some Rows.orderFormsRow.make)) = true := by rw [make_cut]; kernel_rfl
theorem orderForms_k28 : ((Rows.orderFormsRow.kinds == (if Rows.orderFormsRow.domain.isEmpty then [] else Tryz.f5.params.toList.map fun t => match Tryz.pinned.checked.prog.underlying t with | some (.int k) => some k | _ => none))) = true := by kernel_rfl
theorem orderForms_k29 : ((Rows.orderFormsRow.pinned == Rows.orderFormsRow.pinnedBy)) = true := by kernel_rfl
theorem orderForms_k30 : ((Rows.orderFormsRow.veiled == (Tryz.f5.params.toList ++ Rows.orderFormsSpec.plain.varTypes Tryz.pinned.checked.prog ++ Tryz.f5.resultTypes.toList).any (Tryz.pinned.checked.prog.veiledRec ·))) = true := by kernel_rfl
theorem orderForms_k31 : (Rows.orderFormsRow.veiledFits Tryz.pinned.checked.prog Tryz.f5.params.toList (Tryz.f5.params.toList ++ Rows.orderFormsSpec.plain.varTypes Tryz.pinned.checked.prog ++ Tryz.f5.resultTypes.toList)) = true := by kernel_rfl

theorem orderForms_proved : Rows.OrderFormsSaid :=
  OpenClaim.holds_of_wide 5 Tryz.f5 rfl rfl rfl rfl rfl rfl rfl ⟨rfl, rfl, rfl, rfl, rfl⟩ rfl rfl rfl rfl rfl (by kernel_rfl) Tryz.func5
    (joined_of orderForms_k0 fact1 fact2 orderForms_k3 orderForms_k4 orderForms_k5 fact6 orderForms_k7 fact8 orderForms_k9 orderForms_k10 orderForms_k11 orderForms_k12 orderForms_k13 orderForms_k14 orderForms_k15 orderForms_k16 orderForms_k17 orderForms_k18 orderForms_k19 orderForms_k20 orderForms_k21 orderForms_k22 orderForms_k23 fact24 mayEnter_yes orderForms_k26 orderForms_k27 orderForms_k28 orderForms_k29 orderForms_k30 orderForms_k31)
    (of_decide_eq_true (by kernel_rfl)) (by unfold Func.isWrapper; first | (rw [if_pos (by decide +kernel)]; kernel_rfl) | (rw [if_neg (by decide +kernel)]; exact ⟨rfl, rfl⟩))
    (fun os started H enc _ => orderForms_lifted os started H enc)
#print axioms orderForms_proved
end Go.Proofs.YtkhddecnllcaiaaGreat
