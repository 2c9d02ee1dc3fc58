/- Statement StemmaConflicts: for every input the law answers true, and each argument reads behind the call as it read before. -/
import Derived.Test.YtnpkaemlidifgaaV6
import Derived.Test.YtnpkaemlidifgaaV7
import Derived.OpenShut
set_option maxRecDepth 100000
set_option linter.unusedSimpArgs false
set_option linter.unusedVariables false
namespace Go.Proofs.Ytnpkaemlidifgaa
open Go.ChangeShapes Go.WideShapes Go.ChangeAt Go.RowKit
open Go.Abs (CallP Reads Rep Noblk Mu)

theorem stemmaConflicts_lifted (os : Os) (started : os.Started) (H : Type) (enc : TypeId × Value → H) :
    ReturnsInHanded {} Try.checked os 9 .any (Rows.stemmaConflictsSpec.pre6 enc Try.prog Try.f9 Rows.stemmaConflictsRow.domain false) (Rows.stemmaConflictsSpec.post enc Try.prog Try.f9 false true false false) := by
  refine returnsInHanded_of_change_sized (C := Try.checked) own started (by kernel_rfl) Try.func9
    (ChangeSpec.witness6 (enc := enc) (C := Try.checked) false ⟨#[], #[.slice none 0 0, .int .i64 0, .int .i64 0], []⟩ 8 (by kernel_rfl) (by kernel_rfl) (by kernel_rfl) (by kernel_rfl)) ?_
  intro W base args ds gs before hval0 hW hcnd hsz0 _
  have hval : ∀ (j : Nat) t v, Try.f9.params[j]? = some t → args[j]? = some v → Value.okWide Try.prog W .any base t v := hval0
  have hsz : (DataW.weightsEach Try.prog (Try.f9.params.toList ++ Rows.stemmaConflictsSpec.plain.varTypes Try.prog) (ds ++ gs)).all (· ≤ reachBytes) = true := hsz0
  clear hval0 hsz0
  have hW' := hW
  obtain ⟨p, q, hA0, hV, rfl, hfz, hnd⟩ := hW
  have hA : DataW.TrodAll enc Try.prog W 0 (fun _ => true) true Try.f9.params.toList args.toList ds p := hA0
  clear hA0
  rw [Try.params9] at hA hval hsz
  obtain ⟨v0, vs0, d0, ds0, p0, q0, hargs, rfl, rfl, h0, r0⟩ := trodAll_cons hA
  obtain ⟨v1, vs1, d1, ds1, p1, q1, rfl, rfl, rfl, h1, r1⟩ := trodAll_cons r0
  obtain ⟨v2, vs2, d2, ds2, p2, q2, rfl, rfl, rfl, h2, r2⟩ := trodAll_cons r1
  obtain ⟨rfl, rfl, rfl⟩ := trodAll_nil r2
  obtain rfl : args = #[v0, v1, v2] := by cases args; simp_all
  obtain ⟨rfl, rfl⟩ := trodVars_none hV
  have w0 : ∀ n ∈ d0.weights Try.prog 22, n ≤ reachBytes := fun n hn => of_decide_eq_true (List.all_eq_true.1 hsz n (DataW.weights_mem_each (j := 0) rfl rfl n hn))
  have lt0 : ∀ x ∈ p0, x.block < W.heap.size := by obtain ⟨m, hm⟩ := h0; exact DataW.trod_lt m _ _ _ hm
  have c0 : v0.cells = #[v0] := by obtain ⟨a, len, cap, rfl⟩ := okWide_slice Try.underlying22 (hval 0 22 v0 rfl rfl); rfl
  obtain ⟨a0, k0⟩ := Abs.arg_one (reads_rds enc W) (fun _ => rfl) c0 h0 w0
  have w1 : ∀ n ∈ d1.weights Try.prog 3, n ≤ reachBytes := fun n hn => of_decide_eq_true (List.all_eq_true.1 hsz n (DataW.weights_mem_each (j := 1) rfl rfl n hn))
  have lt1 : ∀ x ∈ p1, x.block < W.heap.size := by obtain ⟨m, hm⟩ := h1; exact DataW.trod_lt m _ _ _ hm
  have c1 : v1.cells = #[v1] := by obtain ⟨n, rfl⟩ := okWide_int Try.underlying3 (hval 1 3 v1 rfl rfl); rfl
  obtain ⟨a1, k1⟩ := Abs.arg_one (reads_i enc W) (fun _ => rfl) c1 h1 w1
  have w2 : ∀ n ∈ d2.weights Try.prog 3, n ≤ reachBytes := fun n hn => of_decide_eq_true (List.all_eq_true.1 hsz n (DataW.weights_mem_each (j := 2) rfl rfl n hn))
  have lt2 : ∀ x ∈ p2, x.block < W.heap.size := by obtain ⟨m, hm⟩ := h2; exact DataW.trod_lt m _ _ _ hm
  have c2 : v2.cells = #[v2] := by obtain ⟨n, rfl⟩ := okWide_int Try.underlying3 (hval 2 3 v2 rfl rfl); rfl
  obtain ⟨a2, k2⟩ := Abs.arg_one (reads_i enc W) (fun _ => rfl) c2 h2 w2
  have hargsR : ∀ i, i < [rdsV a0, iv a1, iv a2].length → Rep W Noblk Mu.none ([rdsV a0, iv a1, iv a2].getD i .junk) ((#[v0, v1, v2] : Array Value).getD i undef) := by
    intro i hi
    match i, hi with
    | 0, _ => exact k0
    | 1, _ => exact k1
    | 2, _ => exact k2
  refine (Abs.CallP.calls (lawStemmaConflicts_c a0 a1 a2 (len_of_rds k0)) rfl hargsR).mono fun e W' ⟨he, bel⟩ => ?_
  subst he
  exact ⟨_, rfl, _, _, _, [], _, [], hW', trodAll_mk1 (shut_bool Try.underlying4 _), (trodAll_cons_mk (Below.trod laidOut (by kernel_rfl) (of_decide_eq_true (by kernel_rfl)) h0 bel lt0) (trodAll_cons_mk (Below.trod laidOut (by kernel_rfl) (of_decide_eq_true (by kernel_rfl)) h1 bel lt1) (trodAll_cons_mk (Below.trod laidOut (by kernel_rfl) (of_decide_eq_true (by kernel_rfl)) h2 bel lt2) trodAll_mk0))), rfl, bel.frame _, fun h => by cases h⟩
theorem stemmaConflicts_k0 : (Rows.stemmaConflictsRow.wf (OpenSpec.ofChange Rows.stemmaConflictsSpec)) = true := by kernel_rfl
theorem stemmaConflicts_k3 : (Try.f9.params.all (Try.pinned.checked.prog.readableRec ·)) = true := by kernel_rfl
theorem stemmaConflicts_k4 : (namedTie Try.pinned.checked.prog Rows.stemmaConflictsRow.named Rows.stemmaConflictsSpec.vars) = true := by kernel_rfl
theorem stemmaConflicts_k5 : ((Rows.stemmaConflictsRow.stops == [])) = true := by kernel_rfl
theorem stemmaConflicts_k7 : ((Rows.stemmaConflictsRow.knobs == [])) = true := by kernel_rfl
theorem stemmaConflicts_k9 : ((Rows.stemmaConflictsRow.inPlace == Try.pinned.checked.prog.inPlace 9)) = true := by kernel_rfl
theorem stemmaConflicts_k10 : ((Rows.stemmaConflictsRow.unfollowed == Try.pinned.checked.prog.unfollowed 9)) = true := by kernel_rfl
theorem stemmaConflicts_k11 : ((Rows.stemmaConflictsRow.recurses == Try.pinned.checked.prog.recurses 9)) = true := by kernel_rfl
theorem stemmaConflicts_k12 : ((Rows.stemmaConflictsRow.named == Try.pinned.checked.prog.varsNamed 9)) = true := by kernel_rfl
theorem stemmaConflicts_k13 : ((Rows.stemmaConflictsRow.maps == (Try.f9.params.toList ++ Rows.stemmaConflictsSpec.plain.varTypes Try.pinned.checked.prog).any (Try.pinned.checked.prog.mapsRec ·))) = true := by kernel_rfl
theorem stemmaConflicts_k14 : ((Rows.stemmaConflictsRow.ifaces == (Try.f9.params.toList ++ Rows.stemmaConflictsSpec.plain.varTypes Try.pinned.checked.prog).any (Try.pinned.checked.prog.ifacesRec ·))) = true := by kernel_rfl
theorem stemmaConflicts_k15 : ((Rows.stemmaConflictsRow.mapsOut == Try.pinned.checked.prog.mapsAmong Try.f9.resultTypes.toList)) = true := by kernel_rfl
theorem stemmaConflicts_k16 : ((Rows.stemmaConflictsRow.loops == (Try.f9.params.toList ++ Rows.stemmaConflictsSpec.plain.varTypes Try.pinned.checked.prog).any (Try.pinned.checked.prog.loopsFrom ·))) = true := by kernel_rfl
theorem stemmaConflicts_k17 : ((Rows.stemmaConflictsRow.wideKeys == (Try.f9.params.toList ++ Rows.stemmaConflictsSpec.plain.varTypes Try.pinned.checked.prog ++ Try.f9.resultTypes.toList).any (Try.pinned.checked.prog.wideKeysFrom ·))) = true := by kernel_rfl
theorem stemmaConflicts_k18 : (Rows.stemmaConflictsSpec.vars.all (Try.pinned.checked.prog.varReadable ·)) = true := by kernel_rfl
theorem stemmaConflicts_k19 : (Try.f9.resultTypes.all (fun t => Try.pinned.checked.prog.readableRec t && decide (t < Try.pinned.checked.prog.types.size))) = true := by kernel_rfl
theorem stemmaConflicts_k20 : ((Rows.stemmaConflictsRow.ifacesOut == Try.f9.resultTypes.toList.any (Try.pinned.checked.prog.ifacesRec ·))) = true := by kernel_rfl
theorem stemmaConflicts_k21 : ((Rows.stemmaConflictsRow.loopsOut == Try.f9.resultTypes.toList.any (Try.pinned.checked.prog.loopsFrom ·))) = true := by kernel_rfl
theorem stemmaConflicts_k22 : ((Rows.stemmaConflictsRow.plainKeys == Try.pinned.checked.prog.plainKeys)) = true := by kernel_rfl
theorem stemmaConflicts_k23 : (Rows.stemmaConflictsRow.shortTexts.isNone) = true := by kernel_rfl
theorem stemmaConflicts_k26 : ((Rows.stemmaConflictsRow.lifted == Try.pinned.checked.prog.liftsFinal)) = true := by rw [liftsFinal_no]; kernel_rfl
theorem stemmaConflicts_k27 : ((Try.pinned.checked.prog.make == some Rows.stemmaConflictsRow.make)) = true := by rw [make_cut]; kernel_rfl
theorem stemmaConflicts_k28 : ((Rows.stemmaConflictsRow.kinds == (if Rows.stemmaConflictsRow.domain.isEmpty then [] else Try.f9.params.toList.map fun t => match Try.pinned.checked.prog.underlying t with | some (.int k) => some k | _ => none))) = true := by kernel_rfl
theorem stemmaConflicts_k29 : ((Rows.stemmaConflictsRow.pinned == Rows.stemmaConflictsRow.pinnedBy)) = true := by kernel_rfl
theorem stemmaConflicts_k30 : ((Rows.stemmaConflictsRow.veiled == (Try.f9.params.toList ++ Rows.stemmaConflictsSpec.plain.varTypes Try.pinned.checked.prog ++ Try.f9.resultTypes.toList).any (Try.pinned.checked.prog.veiledRec ·))) = true := by kernel_rfl
theorem stemmaConflicts_k31 : (Rows.stemmaConflictsRow.veiledFits Try.pinned.checked.prog Try.f9.params.toList (Try.f9.params.toList ++ Rows.stemmaConflictsSpec.plain.varTypes Try.pinned.checked.prog ++ Try.f9.resultTypes.toList)) = true := by kernel_rfl

theorem stemmaConflicts_proved : Rows.StemmaConflictsSaid :=
  OpenClaim.holds_of_wide 9 Try.f9 rfl rfl rfl rfl rfl rfl rfl ⟨rfl, rfl, rfl, rfl, rfl⟩ rfl rfl rfl rfl rfl (by kernel_rfl) Try.func9
    (joined_of stemmaConflicts_k0 fact1 fact2 stemmaConflicts_k3 stemmaConflicts_k4 stemmaConflicts_k5 fact6 stemmaConflicts_k7 fact8 stemmaConflicts_k9 stemmaConflicts_k10 stemmaConflicts_k11 stemmaConflicts_k12 stemmaConflicts_k13 stemmaConflicts_k14 stemmaConflicts_k15 stemmaConflicts_k16 stemmaConflicts_k17 stemmaConflicts_k18 stemmaConflicts_k19 stemmaConflicts_k20 stemmaConflicts_k21 stemmaConflicts_k22 stemmaConflicts_k23 fact24 mayEnter_yes stemmaConflicts_k26 stemmaConflicts_k27 stemmaConflicts_k28 stemmaConflicts_k29 stemmaConflicts_k30 stemmaConflicts_k31)
    (of_decide_eq_true (by kernel_rfl)) (by unfold Func.isWrapper; first | (rw [if_pos (by decide +kernel)]; kernel_rfl) | (rw [if_neg (by decide +kernel)]; exact ⟨rfl, rfl⟩))
    (fun os started H enc _ => stemmaConflicts_lifted os started H enc)
#print axioms stemmaConflicts_proved
end Go.Proofs.Ytnpkaemlidifgaa
