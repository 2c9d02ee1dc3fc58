/- Statement StemmaLoses: for every input the law answers true, and each argument reads behind the call as it read before. -/
import Derived.Test.YtnpkaemlidifgaaV5
import Derived.Test.YtnpkaemlidifgaaV6
import Derived.OpenShut
set_option maxRecDepth 100000
set_option linter.unusedSimpArgs false
set_option linter.unusedVariables false
namespace Go.Proofs.Ytnpkaemlidifgaa
open Go.ChangeShapes Go.WideShapes Go.ChangeAt Go.RowKit
open Go.Abs (CallP Reads Rep Noblk Mu)

theorem stemmaLoses_lifted (os : Os) (started : os.Started) (H : Type) (enc : TypeId × Value → H) :
    ReturnsInHanded {} Try.checked os 12 .any (Rows.stemmaLosesSpec.pre6 enc Try.prog Try.f12 Rows.stemmaLosesRow.domain false) (Rows.stemmaLosesSpec.post enc Try.prog Try.f12 false true false false) := by
  refine returnsInHanded_of_change_sized (C := Try.checked) own started (by kernel_rfl) Try.func12
    (ChangeSpec.witness6 (enc := enc) (C := Try.checked) false ⟨#[], #[.slice none 0 0, .int .i64 0], []⟩ 8 (by kernel_rfl) (by kernel_rfl) (by kernel_rfl) (by kernel_rfl)) ?_
  intro W base args ds gs before hval0 hW hcnd hsz0 _
  have hval : ∀ (j : Nat) t v, Try.f12.params[j]? = some t → args[j]? = some v → Value.okWide Try.prog W .any base t v := hval0
  have hsz : (DataW.weightsEach Try.prog (Try.f12.params.toList ++ Rows.stemmaLosesSpec.plain.varTypes Try.prog) (ds ++ gs)).all (· ≤ reachBytes) = true := hsz0
  clear hval0 hsz0
  have hW' := hW
  obtain ⟨p, q, hA0, hV, rfl, hfz, hnd⟩ := hW
  have hA : DataW.TrodAll enc Try.prog W 0 (fun _ => true) true Try.f12.params.toList args.toList ds p := hA0
  clear hA0
  rw [Try.params12] at hA hval hsz
  obtain ⟨v0, vs0, d0, ds0, p0, q0, hargs, rfl, rfl, h0, r0⟩ := trodAll_cons hA
  obtain ⟨v1, vs1, d1, ds1, p1, q1, rfl, rfl, rfl, h1, r1⟩ := trodAll_cons r0
  obtain ⟨rfl, rfl, rfl⟩ := trodAll_nil r1
  obtain rfl : args = #[v0, v1] := by cases args; simp_all
  obtain ⟨rfl, rfl⟩ := trodVars_none hV
  have w0 : ∀ n ∈ d0.weights Try.prog 22, n ≤ reachBytes := fun n hn => of_decide_eq_true (List.all_eq_true.1 hsz n (DataW.weights_mem_each (j := 0) rfl rfl n hn))
  have lt0 : ∀ x ∈ p0, x.block < W.heap.size := by obtain ⟨m, hm⟩ := h0; exact DataW.trod_lt m _ _ _ hm
  have c0 : v0.cells = #[v0] := by obtain ⟨a, len, cap, rfl⟩ := okWide_slice Try.underlying22 (hval 0 22 v0 rfl rfl); rfl
  obtain ⟨a0, k0⟩ := Abs.arg_one (reads_rds enc W) (fun _ => rfl) c0 h0 w0
  have w1 : ∀ n ∈ d1.weights Try.prog 3, n ≤ reachBytes := fun n hn => of_decide_eq_true (List.all_eq_true.1 hsz n (DataW.weights_mem_each (j := 1) rfl rfl n hn))
  have lt1 : ∀ x ∈ p1, x.block < W.heap.size := by obtain ⟨m, hm⟩ := h1; exact DataW.trod_lt m _ _ _ hm
  have c1 : v1.cells = #[v1] := by obtain ⟨n, rfl⟩ := okWide_int Try.underlying3 (hval 1 3 v1 rfl rfl); rfl
  obtain ⟨a1, k1⟩ := Abs.arg_one (reads_i enc W) (fun _ => rfl) c1 h1 w1
  have hargsR : ∀ i, i < [rdsV a0, iv a1].length → Rep W Noblk Mu.none ([rdsV a0, iv a1].getD i .junk) ((#[v0, v1] : Array Value).getD i undef) := by
    intro i hi
    match i, hi with
    | 0, _ => exact k0
    | 1, _ => exact k1
  refine (Abs.CallP.calls (lawStemmaLoses_c a0 a1 (len_of_rds k0)) rfl hargsR).mono fun e W' ⟨he, bel⟩ => ?_
  subst he
  exact ⟨_, rfl, _, _, _, [], _, [], hW', trodAll_mk1 (shut_bool Try.underlying4 _), (trodAll_cons_mk (Below.trod laidOut (by kernel_rfl) (of_decide_eq_true (by kernel_rfl)) h0 bel lt0) (trodAll_cons_mk (Below.trod laidOut (by kernel_rfl) (of_decide_eq_true (by kernel_rfl)) h1 bel lt1) trodAll_mk0)), rfl, bel.frame _, fun h => by cases h⟩
theorem stemmaLoses_k0 : (Rows.stemmaLosesRow.wf (OpenSpec.ofChange Rows.stemmaLosesSpec)) = true := by kernel_rfl
theorem stemmaLoses_k3 : (Try.f12.params.all (Try.pinned.checked.prog.readableRec ·)) = true := by kernel_rfl
theorem stemmaLoses_k4 : (namedTie Try.pinned.checked.prog Rows.stemmaLosesRow.named Rows.stemmaLosesSpec.vars) = true := by kernel_rfl
theorem stemmaLoses_k5 : ((Rows.stemmaLosesRow.stops == [])) = true := by kernel_rfl
theorem stemmaLoses_k7 : ((Rows.stemmaLosesRow.knobs == [])) = true := by kernel_rfl
theorem stemmaLoses_k9 : ((Rows.stemmaLosesRow.inPlace == Try.pinned.checked.prog.inPlace 12)) = true := by kernel_rfl
theorem stemmaLoses_k10 : ((Rows.stemmaLosesRow.unfollowed == Try.pinned.checked.prog.unfollowed 12)) = true := by kernel_rfl
theorem stemmaLoses_k11 : ((Rows.stemmaLosesRow.recurses == Try.pinned.checked.prog.recurses 12)) = true := by kernel_rfl
theorem stemmaLoses_k12 : ((Rows.stemmaLosesRow.named == Try.pinned.checked.prog.varsNamed 12)) = true := by kernel_rfl
theorem stemmaLoses_k13 : ((Rows.stemmaLosesRow.maps == (Try.f12.params.toList ++ Rows.stemmaLosesSpec.plain.varTypes Try.pinned.checked.prog).any (Try.pinned.checked.prog.mapsRec ·))) = true := by kernel_rfl
theorem stemmaLoses_k14 : ((Rows.stemmaLosesRow.ifaces == (Try.f12.params.toList ++ Rows.stemmaLosesSpec.plain.varTypes Try.pinned.checked.prog).any (Try.pinned.checked.prog.ifacesRec ·))) = true := by kernel_rfl
theorem stemmaLoses_k15 : ((Rows.stemmaLosesRow.mapsOut == Try.pinned.checked.prog.mapsAmong Try.f12.resultTypes.toList)) = true := by kernel_rfl
theorem stemmaLoses_k16 : ((Rows.stemmaLosesRow.loops == (Try.f12.params.toList ++ Rows.stemmaLosesSpec.plain.varTypes Try.pinned.checked.prog).any (Try.pinned.checked.prog.loopsFrom ·))) = true := by kernel_rfl
theorem stemmaLoses_k17 : ((Rows.stemmaLosesRow.wideKeys == (Try.f12.params.toList ++ Rows.stemmaLosesSpec.plain.varTypes Try.pinned.checked.prog ++ Try.f12.resultTypes.toList).any (Try.pinned.checked.prog.wideKeysFrom ·))) = true := by kernel_rfl
theorem stemmaLoses_k18 : (Rows.stemmaLosesSpec.vars.all (Try.pinned.checked.prog.varReadable ·)) = true := by kernel_rfl
theorem stemmaLoses_k19 : (Try.f12.resultTypes.all (fun t => Try.pinned.checked.prog.readableRec t && decide (t < Try.pinned.checked.prog.types.size))) = true := by kernel_rfl
theorem stemmaLoses_k20 : ((Rows.stemmaLosesRow.ifacesOut == Try.f12.resultTypes.toList.any (Try.pinned.checked.prog.ifacesRec ·))) = true := by kernel_rfl
theorem stemmaLoses_k21 : ((Rows.stemmaLosesRow.loopsOut == Try.f12.resultTypes.toList.any (Try.pinned.checked.prog.loopsFrom ·))) = true := by kernel_rfl
theorem stemmaLoses_k22 : ((Rows.stemmaLosesRow.plainKeys == Try.pinned.checked.prog.plainKeys)) = true := by kernel_rfl
theorem stemmaLoses_k23 : (Rows.stemmaLosesRow.shortTexts.isNone) = true := by kernel_rfl
theorem stemmaLoses_k26 : ((Rows.stemmaLosesRow.lifted == Try.pinned.checked.prog.liftsFinal)) = true := by rw [liftsFinal_no]; kernel_rfl
theorem stemmaLoses_k27 : ((Try.pinned.checked.prog.make == some Rows.stemmaLosesRow.make)) = true := by rw [make_cut]; kernel_rfl
theorem stemmaLoses_k28 : ((Rows.stemmaLosesRow.kinds == (if Rows.stemmaLosesRow.domain.isEmpty then [] else Try.f12.params.toList.map fun t => match Try.pinned.checked.prog.underlying t with | some (.int k) => some k | _ => none))) = true := by kernel_rfl
theorem stemmaLoses_k29 : ((Rows.stemmaLosesRow.pinned == Rows.stemmaLosesRow.pinnedBy)) = true := by kernel_rfl
theorem stemmaLoses_k30 : ((Rows.stemmaLosesRow.veiled == (Try.f12.params.toList ++ Rows.stemmaLosesSpec.plain.varTypes Try.pinned.checked.prog ++ Try.f12.resultTypes.toList).any (Try.pinned.checked.prog.veiledRec ·))) = true := by kernel_rfl
theorem stemmaLoses_k31 : (Rows.stemmaLosesRow.veiledFits Try.pinned.checked.prog Try.f12.params.toList (Try.f12.params.toList ++ Rows.stemmaLosesSpec.plain.varTypes Try.pinned.checked.prog ++ Try.f12.resultTypes.toList)) = true := by kernel_rfl

theorem stemmaLoses_proved : Rows.StemmaLosesSaid :=
  OpenClaim.holds_of_wide 12 Try.f12 rfl rfl rfl rfl rfl rfl rfl ⟨rfl, rfl, rfl, rfl, rfl⟩ rfl rfl rfl rfl rfl (by kernel_rfl) Try.func12
    (joined_of stemmaLoses_k0 fact1 fact2 stemmaLoses_k3 stemmaLoses_k4 stemmaLoses_k5 fact6 stemmaLoses_k7 fact8 stemmaLoses_k9 stemmaLoses_k10 stemmaLoses_k11 stemmaLoses_k12 stemmaLoses_k13 stemmaLoses_k14 stemmaLoses_k15 stemmaLoses_k16 stemmaLoses_k17 stemmaLoses_k18 stemmaLoses_k19 stemmaLoses_k20 stemmaLoses_k21 stemmaLoses_k22 stemmaLoses_k23 fact24 mayEnter_yes stemmaLoses_k26 stemmaLoses_k27 stemmaLoses_k28 stemmaLoses_k29 stemmaLoses_k30 stemmaLoses_k31)
    (of_decide_eq_true (by kernel_rfl)) (by unfold Func.isWrapper; first | (rw [if_pos (by decide +kernel)]; kernel_rfl) | (rw [if_neg (by decide +kernel)]; exact ⟨rfl, rfl⟩))
    (fun os started H enc _ => stemmaLoses_lifted os started H enc)
#print axioms stemmaLoses_proved
end Go.Proofs.Ytnpkaemlidifgaa
