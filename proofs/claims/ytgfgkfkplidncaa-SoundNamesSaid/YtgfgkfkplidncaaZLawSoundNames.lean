/- Statement SoundNames: for every input the law answers true, and each argument reads behind the call as it read before. -/
import Derived.Test.YtgfgkfkplidncaaV5
import Derived.Test.YtgfgkfkplidncaaV6
import Derived.OpenShut
set_option maxRecDepth 100000
set_option linter.unusedSimpArgs false
set_option linter.unusedVariables false
namespace Go.Proofs.Ytgfgkfkplidncaa
open Go.ChangeShapes Go.WideShapes Go.ChangeAt Go.RowKit
open Go.Abs (CallP Reads Rep Noblk Mu)

theorem soundNames_lifted (os : Os) (started : os.Started) (H : Type) (enc : TypeId × Value → H) :
    ReturnsInHanded {} Try.checked os 3 .any (Rows.soundNamesSpec.pre6 enc Try.prog Try.f3 Rows.soundNamesRow.domain false) (Rows.soundNamesSpec.post enc Try.prog Try.f3 false true false false) := by
  refine returnsInHanded_of_change_sized (C := Try.checked) own started (by kernel_rfl) Try.func3
    (ChangeSpec.witness6 (enc := enc) (C := Try.checked) false ⟨#[], #[.slice none 0 0], []⟩ 8 (by kernel_rfl) (by kernel_rfl) (by kernel_rfl) (by kernel_rfl)) ?_
  intro W base args ds gs before hval0 hW hcnd hsz0 _
  have hval : ∀ (j : Nat) t v, Try.f3.params[j]? = some t → args[j]? = some v → Value.okWide Try.prog W .any base t v := hval0
  have hsz : (DataW.weightsEach Try.prog (Try.f3.params.toList ++ Rows.soundNamesSpec.plain.varTypes Try.prog) (ds ++ gs)).all (· ≤ reachBytes) = true := hsz0
  clear hval0 hsz0
  have hW' := hW
  obtain ⟨p, q, hA0, hV, rfl, hfz, hnd⟩ := hW
  have hA : DataW.TrodAll enc Try.prog W 0 (fun _ => true) true Try.f3.params.toList args.toList ds p := hA0
  clear hA0
  rw [Try.params3] at hA hval hsz
  obtain ⟨v0, vs0, d0, ds0, p0, q0, hargs, rfl, rfl, h0, r0⟩ := trodAll_cons hA
  obtain ⟨rfl, rfl, rfl⟩ := trodAll_nil r0
  obtain rfl : args = #[v0] := by cases args; simp_all
  obtain ⟨rfl, rfl⟩ := trodVars_none hV
  have w0 : ∀ n ∈ d0.weights Try.prog 22, n ≤ reachBytes := fun n hn => of_decide_eq_true (List.all_eq_true.1 hsz n (DataW.weights_mem_each (j := 0) rfl rfl n hn))
  have lt0 : ∀ x ∈ p0, x.block < W.heap.size := by obtain ⟨m, hm⟩ := h0; exact DataW.trod_lt m _ _ _ hm
  have c0 : v0.cells = #[v0] := by obtain ⟨a, len, cap, rfl⟩ := okWide_slice Try.underlying22 (hval 0 22 v0 rfl rfl); rfl
  obtain ⟨a0, k0⟩ := Abs.arg_one (reads_tab enc W) (fun _ => rfl) c0 h0 w0
  have hargsR : ∀ i, i < [tabV a0].length → Rep W Noblk Mu.none ([tabV a0].getD i .junk) ((#[v0] : Array Value).getD i undef) := by
    intro i hi
    match i, hi with
    | 0, _ => exact k0
  refine (Abs.CallP.calls (lawSoundNames_c a0 (len_of_tab k0)) rfl hargsR).mono fun e W' ⟨he, bel⟩ => ?_
  subst he
  exact ⟨_, rfl, _, _, _, [], _, [], hW', trodAll_mk1 (shut_bool Try.underlying4 _), (trodAll_cons_mk (Below.trod laidOut (by kernel_rfl) (of_decide_eq_true (by kernel_rfl)) h0 bel lt0) trodAll_mk0), rfl, bel.frame _, fun h => by cases h⟩
theorem soundNames_k0 : (Rows.soundNamesRow.wf (OpenSpec.ofChange Rows.soundNamesSpec)) = true := by kernel_rfl
theorem soundNames_k3 : (Try.f3.params.all (Try.pinned.checked.prog.readableRec ·)) = true := by kernel_rfl
theorem soundNames_k4 : (namedTie Try.pinned.checked.prog Rows.soundNamesRow.named Rows.soundNamesSpec.vars) = true := by kernel_rfl
theorem soundNames_k5 : ((Rows.soundNamesRow.stops == [])) = true := by kernel_rfl
theorem soundNames_k7 : ((Rows.soundNamesRow.knobs == [])) = true := by kernel_rfl
theorem soundNames_k9 : ((Rows.soundNamesRow.inPlace == Try.pinned.checked.prog.inPlace 3)) = true := by kernel_rfl
theorem soundNames_k10 : ((Rows.soundNamesRow.unfollowed == Try.pinned.checked.prog.unfollowed 3)) = true := by kernel_rfl
theorem soundNames_k11 : ((Rows.soundNamesRow.recurses == Try.pinned.checked.prog.recurses 3)) = true := by kernel_rfl
theorem soundNames_k12 : ((Rows.soundNamesRow.named == Try.pinned.checked.prog.varsNamed 3)) = true := by kernel_rfl
theorem soundNames_k13 : ((Rows.soundNamesRow.maps == (Try.f3.params.toList ++ Rows.soundNamesSpec.plain.varTypes Try.pinned.checked.prog).any (Try.pinned.checked.prog.mapsRec ·))) = true := by kernel_rfl
theorem soundNames_k14 : ((Rows.soundNamesRow.ifaces == (Try.f3.params.toList ++ Rows.soundNamesSpec.plain.varTypes Try.pinned.checked.prog).any (Try.pinned.checked.prog.ifacesRec ·))) = true := by kernel_rfl
theorem soundNames_k15 : ((Rows.soundNamesRow.mapsOut == Try.pinned.checked.prog.mapsAmong Try.f3.resultTypes.toList)) = true := by kernel_rfl
theorem soundNames_k16 : ((Rows.soundNamesRow.loops == (Try.f3.params.toList ++ Rows.soundNamesSpec.plain.varTypes Try.pinned.checked.prog).any (Try.pinned.checked.prog.loopsFrom ·))) = true := by kernel_rfl
theorem soundNames_k17 : ((Rows.soundNamesRow.wideKeys == (Try.f3.params.toList ++ Rows.soundNamesSpec.plain.varTypes Try.pinned.checked.prog ++ Try.f3.resultTypes.toList).any (Try.pinned.checked.prog.wideKeysFrom ·))) = true := by kernel_rfl
theorem soundNames_k18 : (Rows.soundNamesSpec.vars.all (Try.pinned.checked.prog.varReadable ·)) = true := by kernel_rfl
theorem soundNames_k19 : (Try.f3.resultTypes.all (fun t => Try.pinned.checked.prog.readableRec t && decide (t < Try.pinned.checked.prog.types.size))) = true := by kernel_rfl
theorem soundNames_k20 : ((Rows.soundNamesRow.ifacesOut == Try.f3.resultTypes.toList.any (Try.pinned.checked.prog.ifacesRec ·))) = true := by kernel_rfl
theorem soundNames_k21 : ((Rows.soundNamesRow.loopsOut == Try.f3.resultTypes.toList.any (Try.pinned.checked.prog.loopsFrom ·))) = true := by kernel_rfl
theorem soundNames_k22 : ((Rows.soundNamesRow.plainKeys == Try.pinned.checked.prog.plainKeys)) = true := by kernel_rfl
theorem soundNames_k23 : (Rows.soundNamesRow.shortTexts.isNone) = true := by kernel_rfl
theorem soundNames_k26 : ((Rows.soundNamesRow.lifted == Try.pinned.checked.prog.liftsFinal)) = true := by rw [liftsFinal_no]; kernel_rfl
theorem soundNames_k27 : ((Try.pinned.checked.prog.make == some Rows.soundNamesRow.make)) = true := by rw [make_cut]; kernel_rfl
theorem soundNames_k28 : ((Rows.soundNamesRow.kinds == (if Rows.soundNamesRow.domain.isEmpty then [] else Try.f3.params.toList.map fun t => match Try.pinned.checked.prog.underlying t with | some (.int k) => some k | _ => none))) = true := by kernel_rfl
theorem soundNames_k29 : ((Rows.soundNamesRow.pinned == Rows.soundNamesRow.pinnedBy)) = true := by kernel_rfl
theorem soundNames_k30 : ((Rows.soundNamesRow.veiled == (Try.f3.params.toList ++ Rows.soundNamesSpec.plain.varTypes Try.pinned.checked.prog ++ Try.f3.resultTypes.toList).any (Try.pinned.checked.prog.veiledRec ·))) = true := by kernel_rfl
theorem soundNames_k31 : (Rows.soundNamesRow.veiledFits Try.pinned.checked.prog Try.f3.params.toList (Try.f3.params.toList ++ Rows.soundNamesSpec.plain.varTypes Try.pinned.checked.prog ++ Try.f3.resultTypes.toList)) = true := by kernel_rfl

theorem soundNames_proved : Rows.SoundNamesSaid :=
  OpenClaim.holds_of_wide 3 Try.f3 rfl rfl rfl rfl rfl rfl rfl ⟨rfl, rfl, rfl, rfl, rfl⟩ rfl rfl rfl rfl rfl (by kernel_rfl) Try.func3
    (joined_of soundNames_k0 fact1 fact2 soundNames_k3 soundNames_k4 soundNames_k5 fact6 soundNames_k7 fact8 soundNames_k9 soundNames_k10 soundNames_k11 soundNames_k12 soundNames_k13 soundNames_k14 soundNames_k15 soundNames_k16 soundNames_k17 soundNames_k18 soundNames_k19 soundNames_k20 soundNames_k21 soundNames_k22 soundNames_k23 fact24 mayEnter_yes soundNames_k26 soundNames_k27 soundNames_k28 soundNames_k29 soundNames_k30 soundNames_k31)
    (of_decide_eq_true (by kernel_rfl)) (by unfold Func.isWrapper; first | (rw [if_pos (by decide +kernel)]; kernel_rfl) | (rw [if_neg (by decide +kernel)]; exact ⟨rfl, rfl⟩))
    (fun os started H enc _ => soundNames_lifted os started H enc)
#print axioms soundNames_proved
end Go.Proofs.Ytgfgkfkplidncaa
