/- Statement SoundFewest: for every input the law answers true, and each argument reads behind the call as it read before. -/
import Derived.Test.YtgfgkfkplidncaaV5
import Derived.Test.YtgfgkfkplidncaaV6
import Derived.OpenShut
set_option maxRecDepth 100000
set_option linter.unusedSimpArgs false
set_option linter.unusedVariables false
namespace Go.Proofs.Ytgfgkfkplidncaa
open Go.ChangeShapes Go.WideShapes Go.ChangeAt Go.RowKit
open Go.Abs (CallP Reads Rep Noblk Mu)

theorem soundFewest_lifted (os : Os) (started : os.Started) (H : Type) (enc : TypeId × Value → H) :
    ReturnsInHanded {} Try.checked os 5 .any (Rows.soundFewestSpec.pre6 enc Try.prog Try.f5 Rows.soundFewestRow.domain false) (Rows.soundFewestSpec.post enc Try.prog Try.f5 false true false false) := by
  refine returnsInHanded_of_change_sized (C := Try.checked) own started (by kernel_rfl) Try.func5
    (ChangeSpec.witness6 (enc := enc) (C := Try.checked) false ⟨#[], #[.int .i64 0, .slice none 0 0], []⟩ 8 (by kernel_rfl) (by kernel_rfl) (by kernel_rfl) (by kernel_rfl)) ?_
  intro W base args ds gs before hval0 hW hcnd hsz0 _
  have hval : ∀ (j : Nat) t v, Try.f5.params[j]? = some t → args[j]? = some v → Value.okWide Try.prog W .any base t v := hval0
  have hsz : (DataW.weightsEach Try.prog (Try.f5.params.toList ++ Rows.soundFewestSpec.plain.varTypes Try.prog) (ds ++ gs)).all (· ≤ reachBytes) = true := hsz0
  clear hval0 hsz0
  have hW' := hW
  obtain ⟨p, q, hA0, hV, rfl, hfz, hnd⟩ := hW
  have hA : DataW.TrodAll enc Try.prog W 0 (fun _ => true) true Try.f5.params.toList args.toList ds p := hA0
  clear hA0
  rw [Try.params5] at hA hval hsz
  obtain ⟨v0, vs0, d0, ds0, p0, q0, hargs, rfl, rfl, h0, r0⟩ := trodAll_cons hA
  obtain ⟨v1, vs1, d1, ds1, p1, q1, rfl, rfl, rfl, h1, r1⟩ := trodAll_cons r0
  obtain ⟨rfl, rfl, rfl⟩ := trodAll_nil r1
  obtain rfl : args = #[v0, v1] := by cases args; simp_all
  obtain ⟨rfl, rfl⟩ := trodVars_none hV
  have w0 : ∀ n ∈ d0.weights Try.prog 3, n ≤ reachBytes := fun n hn => of_decide_eq_true (List.all_eq_true.1 hsz n (DataW.weights_mem_each (j := 0) rfl rfl n hn))
  have lt0 : ∀ x ∈ p0, x.block < W.heap.size := by obtain ⟨m, hm⟩ := h0; exact DataW.trod_lt m _ _ _ hm
  have c0 : v0.cells = #[v0] := by obtain ⟨n, rfl⟩ := okWide_int Try.underlying3 (hval 0 3 v0 rfl rfl); rfl
  obtain ⟨a0, k0⟩ := Abs.arg_one (reads_i enc W) (fun _ => rfl) c0 h0 w0
  have w1 : ∀ n ∈ d1.weights Try.prog 22, n ≤ reachBytes := fun n hn => of_decide_eq_true (List.all_eq_true.1 hsz n (DataW.weights_mem_each (j := 1) rfl rfl n hn))
  have lt1 : ∀ x ∈ p1, x.block < W.heap.size := by obtain ⟨m, hm⟩ := h1; exact DataW.trod_lt m _ _ _ hm
  have c1 : v1.cells = #[v1] := by obtain ⟨a, len, cap, rfl⟩ := okWide_slice Try.underlying22 (hval 1 22 v1 rfl rfl); rfl
  obtain ⟨a1, k1⟩ := Abs.arg_one (reads_tab enc W) (fun _ => rfl) c1 h1 w1
  have hargsR : ∀ i, i < [iv a0, tabV a1].length → Rep W Noblk Mu.none ([iv a0, tabV a1].getD i .junk) ((#[v0, v1] : Array Value).getD i undef) := by
    intro i hi
    match i, hi with
    | 0, _ => exact k0
    | 1, _ => exact k1
  refine (Abs.CallP.calls (lawSoundFewest_c a0 a1 (len_of_tab k1)) rfl hargsR).mono fun e W' ⟨he, bel⟩ => ?_
  subst he
  exact ⟨_, rfl, _, _, _, [], _, [], hW', trodAll_mk1 (shut_bool Try.underlying4 _), (trodAll_cons_mk (Below.trod laidOut (by kernel_rfl) (of_decide_eq_true (by kernel_rfl)) h0 bel lt0) (trodAll_cons_mk (Below.trod laidOut (by kernel_rfl) (of_decide_eq_true (by kernel_rfl)) h1 bel lt1) trodAll_mk0)), rfl, bel.frame _, fun h => by cases h⟩
theorem soundFewest_k0 : (Rows.soundFewestRow.wf (OpenSpec.ofChange Rows.soundFewestSpec)) = true := by kernel_rfl
theorem soundFewest_k3 : (Try.f5.params.all (Try.pinned.checked.prog.readableRec ·)) = true := by kernel_rfl
theorem soundFewest_k4 : (namedTie Try.pinned.checked.prog Rows.soundFewestRow.named Rows.soundFewestSpec.vars) = true := by kernel_rfl
theorem soundFewest_k5 : ((Rows.soundFewestRow.stops == [])) = true := by kernel_rfl
theorem soundFewest_k7 : ((Rows.soundFewestRow.knobs == [])) = true := by kernel_rfl
theorem soundFewest_k9 : ((Rows.soundFewestRow.inPlace == Try.pinned.checked.prog.inPlace 5)) = true := by kernel_rfl
theorem soundFewest_k10 : ((Rows.soundFewestRow.unfollowed == Try.pinned.checked.prog.unfollowed 5)) = true := by kernel_rfl
theorem soundFewest_k11 : ((Rows.soundFewestRow.recurses == Try.pinned.checked.prog.recurses 5)) = true := by kernel_rfl
theorem soundFewest_k12 : ((Rows.soundFewestRow.named == Try.pinned.checked.prog.varsNamed 5)) = true := by kernel_rfl
theorem soundFewest_k13 : ((Rows.soundFewestRow.maps == (Try.f5.params.toList ++ Rows.soundFewestSpec.plain.varTypes Try.pinned.checked.prog).any (Try.pinned.checked.prog.mapsRec ·))) = true := by kernel_rfl
theorem soundFewest_k14 : ((Rows.soundFewestRow.ifaces == (Try.f5.params.toList ++ Rows.soundFewestSpec.plain.varTypes Try.pinned.checked.prog).any (Try.pinned.checked.prog.ifacesRec ·))) = true := by kernel_rfl
theorem soundFewest_k15 : ((Rows.soundFewestRow.mapsOut == Try.pinned.checked.prog.mapsAmong Try.f5.resultTypes.toList)) = true := by kernel_rfl
theorem soundFewest_k16 : ((Rows.soundFewestRow.loops == (Try.f5.params.toList ++ Rows.soundFewestSpec.plain.varTypes Try.pinned.checked.prog).any (Try.pinned.checked.prog.loopsFrom ·))) = true := by kernel_rfl
theorem soundFewest_k17 : ((Rows.soundFewestRow.wideKeys == (Try.f5.params.toList ++ Rows.soundFewestSpec.plain.varTypes Try.pinned.checked.prog ++ Try.f5.resultTypes.toList).any (Try.pinned.checked.prog.wideKeysFrom ·))) = true := by kernel_rfl
theorem soundFewest_k18 : (Rows.soundFewestSpec.vars.all (Try.pinned.checked.prog.varReadable ·)) = true := by kernel_rfl
theorem soundFewest_k19 : (Try.f5.resultTypes.all (fun t => Try.pinned.checked.prog.readableRec t && decide (t < Try.pinned.checked.prog.types.size))) = true := by kernel_rfl
theorem soundFewest_k20 : ((Rows.soundFewestRow.ifacesOut == Try.f5.resultTypes.toList.any (Try.pinned.checked.prog.ifacesRec ·))) = true := by kernel_rfl
theorem soundFewest_k21 : ((Rows.soundFewestRow.loopsOut == Try.f5.resultTypes.toList.any (Try.pinned.checked.prog.loopsFrom ·))) = true := by kernel_rfl
theorem soundFewest_k22 : ((Rows.soundFewestRow.plainKeys == Try.pinned.checked.prog.plainKeys)) = true := by kernel_rfl
theorem soundFewest_k23 : (Rows.soundFewestRow.shortTexts.isNone) = true := by kernel_rfl
theorem soundFewest_k26 : ((Rows.soundFewestRow.lifted == Try.pinned.checked.prog.liftsFinal)) = true := by rw [liftsFinal_no]; kernel_rfl
theorem soundFewest_k27 : ((Try.pinned.checked.prog.make == some Rows.soundFewestRow.make)) = true := by rw [make_cut]; kernel_rfl
theorem soundFewest_k28 : ((Rows.soundFewestRow.kinds == (if Rows.soundFewestRow.domain.isEmpty then [] else Try.f5.params.toList.map fun t => match Try.pinned.checked.prog.underlying t with | some (.int k) => some k | _ => none))) = true := by kernel_rfl
theorem soundFewest_k29 : ((Rows.soundFewestRow.pinned == Rows.soundFewestRow.pinnedBy)) = true := by kernel_rfl
theorem soundFewest_k30 : ((Rows.soundFewestRow.veiled == (Try.f5.params.toList ++ Rows.soundFewestSpec.plain.varTypes Try.pinned.checked.prog ++ Try.f5.resultTypes.toList).any (Try.pinned.checked.prog.veiledRec ·))) = true := by kernel_rfl
theorem soundFewest_k31 : (Rows.soundFewestRow.veiledFits Try.pinned.checked.prog Try.f5.params.toList (Try.f5.params.toList ++ Rows.soundFewestSpec.plain.varTypes Try.pinned.checked.prog ++ Try.f5.resultTypes.toList)) = true := by kernel_rfl

theorem soundFewest_proved : Rows.SoundFewestSaid :=
  OpenClaim.holds_of_wide 5 Try.f5 rfl rfl rfl rfl rfl rfl rfl ⟨rfl, rfl, rfl, rfl, rfl⟩ rfl rfl rfl rfl rfl (by kernel_rfl) Try.func5
    (joined_of soundFewest_k0 fact1 fact2 soundFewest_k3 soundFewest_k4 soundFewest_k5 fact6 soundFewest_k7 fact8 soundFewest_k9 soundFewest_k10 soundFewest_k11 soundFewest_k12 soundFewest_k13 soundFewest_k14 soundFewest_k15 soundFewest_k16 soundFewest_k17 soundFewest_k18 soundFewest_k19 soundFewest_k20 soundFewest_k21 soundFewest_k22 soundFewest_k23 fact24 mayEnter_yes soundFewest_k26 soundFewest_k27 soundFewest_k28 soundFewest_k29 soundFewest_k30 soundFewest_k31)
    (of_decide_eq_true (by kernel_rfl)) (by unfold Func.isWrapper; first | (rw [if_pos (by decide +kernel)]; kernel_rfl) | (rw [if_neg (by decide +kernel)]; exact ⟨rfl, rfl⟩))
    (fun os started H enc _ => soundFewest_lifted os started H enc)
#print axioms soundFewest_proved
end Go.Proofs.Ytgfgkfkplidncaa
