/- Statement StemmaWithout: for every input the law answers true, and each argument reads behind the call as it read before. -/
import Derived.Test.YtnpkaemlidifgaaV5
import Derived.Test.YtnpkaemlidifgaaV6
import Derived.OpenShut
set_option maxRecDepth 100000
set_option linter.unusedSimpArgs false
set_option linter.unusedVariables false
namespace Go.Proofs.Ytnpkaemlidifgaa
open Go.ChangeShapes Go.WideShapes Go.ChangeAt Go.RowKit
open Go.Abs (CallP Reads Rep Noblk Mu)

theorem stemmaWithout_lifted (os : Os) (started : os.Started) (H : Type) (enc : TypeId × Value → H) :
    ReturnsInHanded {} Try.checked os 13 .any (Rows.stemmaWithoutSpec.pre6 enc Try.prog Try.f13 Rows.stemmaWithoutRow.domain false) (Rows.stemmaWithoutSpec.post enc Try.prog Try.f13 false true false false) := by
  refine returnsInHanded_of_change_sized (C := Try.checked) own started (by kernel_rfl) Try.func13
    (ChangeSpec.witness6 (enc := enc) (C := Try.checked) false ⟨#[], #[.slice none 0 0, .int .i64 0], []⟩ 8 (by kernel_rfl) (by kernel_rfl) (by kernel_rfl) (by kernel_rfl)) ?_
  intro W base args ds gs before hval0 hW hcnd hsz0 _
  have hval : ∀ (j : Nat) t v, Try.f13.params[j]? = some t → args[j]? = some v → Value.okWide Try.prog W .any base t v := hval0
  have hsz : (DataW.weightsEach Try.prog (Try.f13.params.toList ++ Rows.stemmaWithoutSpec.plain.varTypes Try.prog) (ds ++ gs)).all (· ≤ reachBytes) = true := hsz0
  clear hval0 hsz0
  have hW' := hW
  obtain ⟨p, q, hA0, hV, rfl, hfz, hnd⟩ := hW
  have hA : DataW.TrodAll enc Try.prog W 0 (fun _ => true) true Try.f13.params.toList args.toList ds p := hA0
  clear hA0
  rw [Try.params13] at hA hval hsz
  obtain ⟨v0, vs0, d0, ds0, p0, q0, hargs, rfl, rfl, h0, r0⟩ := trodAll_cons hA
  obtain ⟨v1, vs1, d1, ds1, p1, q1, rfl, rfl, rfl, h1, r1⟩ := trodAll_cons r0
  obtain ⟨rfl, rfl, rfl⟩ := trodAll_nil r1
  obtain rfl : args = #[v0, v1] := by cases args; simp_all
  obtain ⟨rfl, rfl⟩ := trodVars_none hV
  have w0 : ∀ n ∈ d0.weights Try.prog 22, n ≤ reachBytes := fun n hn => of_decide_eq_true (List.all_eq_true.1 hsz n (DataW.weights_mem_each (j := 0) rfl rfl n hn))
  have lt0 : ∀ x ∈ p0, x.block < W.heap.size := by obtain ⟨m, hm⟩ := h0; exact DataW.trod_lt m _ _ _ hm
  have c0 : v0.cells = #[v0] := by obtain ⟨a, len, cap, rfl⟩ := okWide_slice Try.underlying22 (hval 0 22 v0 rfl rfl); rfl
  obtain ⟨a0, k0⟩ := Abs.arg_one (reads_rds enc W) (fun _ => rfl) c0 h0 w0
  have w1 : ∀ n ∈ d1.weights Try.prog 3, n ≤ reachBytes := fun n hn => of_decide_eq_true (List.all_eq_true.1 hsz n (DataW.weights_mem_each (j := 1) rfl rfl n hn))
  have lt1 : ∀ x ∈ p1, x.block < W.heap.size := by obtain ⟨m, hm⟩ := h1; exact DataW.trod_lt m _ _ _ hm
  have c1 : v1.cells = #[v1] := by obtain ⟨n, rfl⟩ := okWide_int Try.underlying3 (hval 1 3 v1 rfl rfl); rfl
  obtain ⟨a1, k1⟩ := Abs.arg_one (reads_i enc W) (fun _ => rfl) c1 h1 w1
  have hargsR : ∀ i, i < [rdsV a0, iv a1].length → Rep W Noblk Mu.none ([rdsV a0, iv a1].getD i .junk) ((#[v0, v1] : Array Value).getD i undef) := by
    intro i hi
    match i, hi with
    | 0, _ => exact k0
    | 1, _ => exact k1
  refine (Abs.CallP.calls (lawStemmaWithout_c a0 a1 (len_of_rds k0)) rfl hargsR).mono fun e W' ⟨he, bel⟩ => ?_
  subst he
  exact ⟨_, rfl, _, _, _, [], _, [], hW', trodAll_mk1 (shut_bool Try.underlying4 _), (trodAll_cons_mk (Below.trod laidOut (by kernel_rfl) (of_decide_eq_true (by kernel_rfl)) h0 bel lt0) (trodAll_cons_mk (Below.trod laidOut (by kernel_rfl) (of_decide_eq_true (by kernel_rfl)) h1 bel lt1) trodAll_mk0)), rfl, bel.frame _, fun h => by cases h⟩
theorem stemmaWithout_k0 : (Rows.stemmaWithoutRow.wf (OpenSpec.ofChange Rows.stemmaWithoutSpec)) = true := by kernel_rfl
theorem stemmaWithout_k3 : (Try.f13.params.all (Try.pinned.checked.prog.readableRec ·)) = true := by kernel_rfl
theorem stemmaWithout_k4 : (namedTie Try.pinned.checked.prog Rows.stemmaWithoutRow.named Rows.stemmaWithoutSpec.vars) = true := by kernel_rfl
theorem stemmaWithout_k5 : ((Rows.stemmaWithoutRow.stops == [])) = true := by kernel_rfl
theorem stemmaWithout_k7 : ((Rows.stemmaWithoutRow.knobs == [])) = true := by kernel_rfl
theorem stemmaWithout_k9 : ((Rows.stemmaWithoutRow.inPlace == Try.pinned.checked.prog.inPlace 13)) = true := by kernel_rfl
theorem stemmaWithout_k10 : ((Rows.stemmaWithoutRow.unfollowed == Try.pinned.checked.prog.unfollowed 13)) = true := by kernel_rfl
theorem stemmaWithout_k11 : ((Rows.stemmaWithoutRow.recurses == Try.pinned.checked.prog.recurses 13)) = true := by kernel_rfl
theorem stemmaWithout_k12 : ((Rows.stemmaWithoutRow.named == Try.pinned.checked.prog.varsNamed 13)) = true := by kernel_rfl
theorem stemmaWithout_k13 : ((Rows.stemmaWithoutRow.maps == (Try.f13.params.toList ++ Rows.stemmaWithoutSpec.plain.varTypes Try.pinned.checked.prog).any (Try.pinned.checked.prog.mapsRec ·))) = true := by kernel_rfl
theorem stemmaWithout_k14 : ((Rows.stemmaWithoutRow.ifaces == (Try.f13.params.toList ++ Rows.stemmaWithoutSpec.plain.varTypes Try.pinned.checked.prog).any (Try.pinned.checked.prog.ifacesRec ·))) = true := by kernel_rfl
theorem stemmaWithout_k15 : ((Rows.stemmaWithoutRow.mapsOut == Try.pinned.checked.prog.mapsAmong Try.f13.resultTypes.toList)) = true := by kernel_rfl
theorem stemmaWithout_k16 : ((Rows.stemmaWithoutRow.loops == (Try.f13.params.toList ++ Rows.stemmaWithoutSpec.plain.varTypes Try.pinned.checked.prog).any (Try.pinned.checked.prog.loopsFrom ·))) = true := by kernel_rfl
theorem stemmaWithout_k17 : ((Rows.stemmaWithoutRow.wideKeys == (Try.f13.params.toList ++ Rows.stemmaWithoutSpec.plain.varTypes Try.pinned.checked.prog ++ Try.f13.resultTypes.toList).any (Try.pinned.checked.prog.wideKeysFrom ·))) = true := by kernel_rfl
theorem stemmaWithout_k18 : (Rows.stemmaWithoutSpec.vars.all (Try.pinned.checked.prog.varReadable ·)) = true := by kernel_rfl
theorem stemmaWithout_k19 : (Try.f13.resultTypes.all (fun t => Try.pinned.checked.prog.readableRec t && decide (t < Try.pinned.checked.prog.types.size))) = true := by kernel_rfl
theorem stemmaWithout_k20 : ((Rows.stemmaWithoutRow.ifacesOut == Try.f13.resultTypes.toList.any (Try.pinned.checked.prog.ifacesRec ·))) = true := by kernel_rfl
theorem stemmaWithout_k21 : ((Rows.stemmaWithoutRow.loopsOut == Try.f13.resultTypes.toList.any (Try.pinned.checked.prog.loopsFrom ·))) = true := by kernel_rfl
theorem stemmaWithout_k22 : ((Rows.stemmaWithoutRow.plainKeys == Try.pinned.checked.prog.plainKeys)) = true := by kernel_rfl
theorem stemmaWithout_k23 : (Rows.stemmaWithoutRow.shortTexts.isNone) = true := by kernel_rfl
theorem stemmaWithout_k26 : ((Rows.stemmaWithoutRow.lifted == Try.pinned.checked.prog.liftsFinal)) = true := by rw [liftsFinal_no]; kernel_rfl
theorem stemmaWithout_k27 : ((Try.pinned.checked.prog.make == some Rows.stemmaWithoutRow.make)) = true := by rw [make_cut]; kernel_rfl
theorem stemmaWithout_k28 : ((Rows.stemmaWithoutRow.kinds == (if Rows.stemmaWithoutRow.domain.isEmpty then [] else Try.f13.params.toList.map fun t => match Try.pinned.checked.prog.underlying t with | some (.int k) => some k | _ => none))) = true := by kernel_rfl
theorem stemmaWithout_k29 : ((Rows.stemmaWithoutRow.pinned == Rows.stemmaWithoutRow.pinnedBy)) = true := by kernel_rfl
theorem stemmaWithout_k30 : ((Rows.stemmaWithoutRow.veiled == (Try.f13.params.toList ++ Rows.stemmaWithoutSpec.plain.varTypes Try.pinned.checked.prog ++ Try.f13.resultTypes.toList).any (Try.pinned.checked.prog.veiledRec ·))) = true := by kernel_rfl
theorem stemmaWithout_k31 : (Rows.stemmaWithoutRow.veiledFits Try.pinned.checked.prog Try.f13.params.toList (Try.f13.params.toList ++ Rows.stemmaWithoutSpec.plain.varTypes Try.pinned.checked.prog ++ Try.f13.resultTypes.toList)) = true := by kernel_rfl

theorem stemmaWithout_proved : Rows.StemmaWithoutSaid :=
  OpenClaim.holds_of_wide 13 Try.f13 rfl rfl rfl rfl rfl rfl rfl ⟨rfl, rfl, rfl, rfl, rfl⟩ rfl rfl rfl rfl rfl (by kernel_rfl) Try.func13
    (joined_of stemmaWithout_k0 fact1 fact2 stemmaWithout_k3 stemmaWithout_k4 stemmaWithout_k5 fact6 stemmaWithout_k7 fact8 stemmaWithout_k9 stemmaWithout_k10 stemmaWithout_k11 stemmaWithout_k12 stemmaWithout_k13 stemmaWithout_k14 stemmaWithout_k15 stemmaWithout_k16 stemmaWithout_k17 stemmaWithout_k18 stemmaWithout_k19 stemmaWithout_k20 stemmaWithout_k21 stemmaWithout_k22 stemmaWithout_k23 fact24 mayEnter_yes stemmaWithout_k26 stemmaWithout_k27 stemmaWithout_k28 stemmaWithout_k29 stemmaWithout_k30 stemmaWithout_k31)
    (of_decide_eq_true (by kernel_rfl)) (by unfold Func.isWrapper; first | (rw [if_pos (by decide +kernel)]; kernel_rfl) | (rw [if_neg (by decide +kernel)]; exact ⟨rfl, rfl⟩))
    (fun os started H enc _ => stemmaWithout_lifted os started H enc)
#print axioms stemmaWithout_proved
end Go.Proofs.Ytnpkaemlidifgaa
