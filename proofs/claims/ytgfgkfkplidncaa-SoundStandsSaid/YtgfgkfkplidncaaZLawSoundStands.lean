/- Statement SoundStands: for every input the law answers true, and each argument reads behind the call as it read before. -/
import Derived.Test.YtgfgkfkplidncaaV5
import Derived.Test.YtgfgkfkplidncaaV6
import Derived.OpenShut
set_option maxRecDepth 100000
set_option linter.unusedSimpArgs false
set_option linter.unusedVariables false
namespace Go.Proofs.Ytgfgkfkplidncaa
open Go.ChangeShapes Go.WideShapes Go.ChangeAt Go.RowKit
open Go.Abs (CallP Reads Rep Noblk Mu)

theorem soundStands_lifted (os : Os) (started : os.Started) (H : Type) (enc : TypeId × Value → H) :
    ReturnsInHanded {} Try.checked os 8 .any (Rows.soundStandsSpec.pre6 enc Try.prog Try.f8 Rows.soundStandsRow.domain false) (Rows.soundStandsSpec.post enc Try.prog Try.f8 false true false false) := by
  refine returnsInHanded_of_change_sized (C := Try.checked) own started (by kernel_rfl) Try.func8
    (ChangeSpec.witness6 (enc := enc) (C := Try.checked) false ⟨#[], #[.slice none 0 0, .agg #[.int .i64 0, .int .i64 0]], []⟩ 8 (by kernel_rfl) (by kernel_rfl) (by kernel_rfl) (by kernel_rfl)) ?_
  intro W base args ds gs before hval0 hW hcnd hsz0 _
  have hval : ∀ (j : Nat) t v, Try.f8.params[j]? = some t → args[j]? = some v → Value.okWide Try.prog W .any base t v := hval0
  have hsz : (DataW.weightsEach Try.prog (Try.f8.params.toList ++ Rows.soundStandsSpec.plain.varTypes Try.prog) (ds ++ gs)).all (· ≤ reachBytes) = true := hsz0
  clear hval0 hsz0
  have hW' := hW
  obtain ⟨p, q, hA0, hV, rfl, hfz, hnd⟩ := hW
  have hA : DataW.TrodAll enc Try.prog W 0 (fun _ => true) true Try.f8.params.toList args.toList ds p := hA0
  clear hA0
  rw [Try.params8] at hA hval hsz
  obtain ⟨v0, vs0, d0, ds0, p0, q0, hargs, rfl, rfl, h0, r0⟩ := trodAll_cons hA
  obtain ⟨v1, vs1, d1, ds1, p1, q1, rfl, rfl, rfl, h1, r1⟩ := trodAll_cons r0
  obtain ⟨rfl, rfl, rfl⟩ := trodAll_nil r1
  obtain rfl : args = #[v0, v1] := by cases args; simp_all
  obtain ⟨rfl, rfl⟩ := trodVars_none hV
  have w0 : ∀ n ∈ d0.weights Try.prog 22, n ≤ reachBytes := fun n hn => of_decide_eq_true (List.all_eq_true.1 hsz n (DataW.weights_mem_each (j := 0) rfl rfl n hn))
  have lt0 : ∀ x ∈ p0, x.block < W.heap.size := by obtain ⟨m, hm⟩ := h0; exact DataW.trod_lt m _ _ _ hm
  have c0 : v0.cells = #[v0] := by obtain ⟨a, len, cap, rfl⟩ := okWide_slice Try.underlying22 (hval 0 22 v0 rfl rfl); rfl
  obtain ⟨a0, k0⟩ := Abs.arg_one (reads_tab enc W) (fun _ => rfl) c0 h0 w0
  have w1 : ∀ n ∈ d1.weights Try.prog 51, n ≤ reachBytes := fun n hn => of_decide_eq_true (List.all_eq_true.1 hsz n (DataW.weights_mem_each (j := 1) rfl rfl n hn))
  have lt1 : ∀ x ∈ p1, x.block < W.heap.size := by obtain ⟨m, hm⟩ := h1; exact DataW.trod_lt m _ _ _ hm
  obtain ⟨a1, k1⟩ := Abs.arg_agg Try.underlying51 (reads_name enc W) (fun _ => ⟨_, rfl⟩) (hval 1 51 v1 rfl rfl) h1 w1
  have hargsR : ∀ i, i < [tabV a0, pairV a1].length → Rep W Noblk Mu.none ([tabV a0, pairV a1].getD i .junk) ((#[v0, v1] : Array Value).getD i undef) := by
    intro i hi
    match i, hi with
    | 0, _ => exact k0
    | 1, _ => exact k1
  refine (Abs.CallP.calls (lawSoundStands_c a0 a1 (len_of_tab k0)) rfl hargsR).mono fun e W' ⟨he, bel⟩ => ?_
  subst he
  exact ⟨_, rfl, _, _, _, [], _, [], hW', trodAll_mk1 (shut_bool Try.underlying4 _), (trodAll_cons_mk (Below.trod laidOut (by kernel_rfl) (of_decide_eq_true (by kernel_rfl)) h0 bel lt0) (trodAll_cons_mk (Below.trod laidOut (by kernel_rfl) (of_decide_eq_true (by kernel_rfl)) h1 bel lt1) trodAll_mk0)), rfl, bel.frame _, fun h => by cases h⟩
theorem soundStands_k0 : (Rows.soundStandsRow.wf (OpenSpec.ofChange Rows.soundStandsSpec)) = true := by kernel_rfl
theorem soundStands_k3 : (Try.f8.params.all (Try.pinned.checked.prog.readableRec ·)) = true := by kernel_rfl
theorem soundStands_k4 : (namedTie Try.pinned.checked.prog Rows.soundStandsRow.named Rows.soundStandsSpec.vars) = true := by kernel_rfl
theorem soundStands_k5 : ((Rows.soundStandsRow.stops == [])) = true := by kernel_rfl
theorem soundStands_k7 : ((Rows.soundStandsRow.knobs == [])) = true := by kernel_rfl
theorem soundStands_k9 : ((Rows.soundStandsRow.inPlace == Try.pinned.checked.prog.inPlace 8)) = true := by kernel_rfl
theorem soundStands_k10 : ((Rows.soundStandsRow.unfollowed == Try.pinned.checked.prog.unfollowed 8)) = true := by kernel_rfl
theorem soundStands_k11 : ((Rows.soundStandsRow.recurses == Try.pinned.checked.prog.recurses 8)) = true := by kernel_rfl
theorem soundStands_k12 : ((Rows.soundStandsRow.named == Try.pinned.checked.prog.varsNamed 8)) = true := by kernel_rfl
theorem soundStands_k13 : ((Rows.soundStandsRow.maps == (Try.f8.params.toList ++ Rows.soundStandsSpec.plain.varTypes Try.pinned.checked.prog).any (Try.pinned.checked.prog.mapsRec ·))) = true := by kernel_rfl
theorem soundStands_k14 : ((Rows.soundStandsRow.ifaces == (Try.f8.params.toList ++ Rows.soundStandsSpec.plain.varTypes Try.pinned.checked.prog).any (Try.pinned.checked.prog.ifacesRec ·))) = true := by kernel_rfl
theorem soundStands_k15 : ((Rows.soundStandsRow.mapsOut == Try.pinned.checked.prog.mapsAmong Try.f8.resultTypes.toList)) = true := by kernel_rfl
theorem soundStands_k16 : ((Rows.soundStandsRow.loops == (Try.f8.params.toList ++ Rows.soundStandsSpec.plain.varTypes Try.pinned.checked.prog).any (Try.pinned.checked.prog.loopsFrom ·))) = true := by kernel_rfl
theorem soundStands_k17 : ((Rows.soundStandsRow.wideKeys == (Try.f8.params.toList ++ Rows.soundStandsSpec.plain.varTypes Try.pinned.checked.prog ++ Try.f8.resultTypes.toList).any (Try.pinned.checked.prog.wideKeysFrom ·))) = true := by kernel_rfl
theorem soundStands_k18 : (Rows.soundStandsSpec.vars.all (Try.pinned.checked.prog.varReadable ·)) = true := by kernel_rfl
theorem soundStands_k19 : (Try.f8.resultTypes.all (fun t => Try.pinned.checked.prog.readableRec t && decide (t < Try.pinned.checked.prog.types.size))) = true := by kernel_rfl
theorem soundStands_k20 : ((Rows.soundStandsRow.ifacesOut == Try.f8.resultTypes.toList.any (Try.pinned.checked.prog.ifacesRec ·))) = true := by kernel_rfl
theorem soundStands_k21 : ((Rows.soundStandsRow.loopsOut == Try.f8.resultTypes.toList.any (Try.pinned.checked.prog.loopsFrom ·))) = true := by kernel_rfl
theorem soundStands_k22 : ((Rows.soundStandsRow.plainKeys == Try.pinned.checked.prog.plainKeys)) = true := by kernel_rfl
theorem soundStands_k23 : (Rows.soundStandsRow.shortTexts.isNone) = true := by kernel_rfl
theorem soundStands_k26 : ((Rows.soundStandsRow.lifted == Try.pinned.checked.prog.liftsFinal)) = true := by rw [liftsFinal_no]; kernel_rfl
theorem soundStands_k27 : ((Try.pinned.checked.prog.make == some Rows.soundStandsRow.make)) = true := by rw [make_cut]; kernel_rfl
theorem soundStands_k28 : ((Rows.soundStandsRow.kinds == (if Rows.soundStandsRow.domain.isEmpty then [] else Try.f8.params.toList.map fun t => match Try.pinned.checked.prog.underlying t with | some (.int k) => some k | _ => none))) = true := by kernel_rfl
theorem soundStands_k29 : ((Rows.soundStandsRow.pinned == Rows.soundStandsRow.pinnedBy)) = true := by kernel_rfl
theorem soundStands_k30 : ((Rows.soundStandsRow.veiled == (Try.f8.params.toList ++ Rows.soundStandsSpec.plain.varTypes Try.pinned.checked.prog ++ Try.f8.resultTypes.toList).any (Try.pinned.checked.prog.veiledRec ·))) = true := by kernel_rfl
theorem soundStands_k31 : (Rows.soundStandsRow.veiledFits Try.pinned.checked.prog Try.f8.params.toList (Try.f8.params.toList ++ Rows.soundStandsSpec.plain.varTypes Try.pinned.checked.prog ++ Try.f8.resultTypes.toList)) = true := by kernel_rfl

theorem soundStands_proved : Rows.SoundStandsSaid :=
  OpenClaim.holds_of_wide 8 Try.f8 rfl rfl rfl rfl rfl rfl rfl ⟨rfl, rfl, rfl, rfl, rfl⟩ rfl rfl rfl rfl rfl (by kernel_rfl) Try.func8
    (joined_of soundStands_k0 fact1 fact2 soundStands_k3 soundStands_k4 soundStands_k5 fact6 soundStands_k7 fact8 soundStands_k9 soundStands_k10 soundStands_k11 soundStands_k12 soundStands_k13 soundStands_k14 soundStands_k15 soundStands_k16 soundStands_k17 soundStands_k18 soundStands_k19 soundStands_k20 soundStands_k21 soundStands_k22 soundStands_k23 fact24 mayEnter_yes soundStands_k26 soundStands_k27 soundStands_k28 soundStands_k29 soundStands_k30 soundStands_k31)
    (of_decide_eq_true (by kernel_rfl)) (by unfold Func.isWrapper; first | (rw [if_pos (by decide +kernel)]; kernel_rfl) | (rw [if_neg (by decide +kernel)]; exact ⟨rfl, rfl⟩))
    (fun os started H enc _ => soundStands_lifted os started H enc)
#print axioms soundStands_proved
end Go.Proofs.Ytgfgkfkplidncaa
