/- Statement SoundNamed: for every input the law answers true, and each argument reads behind the call as it read before. -/
import Derived.Test.YtgfgkfkplidncaaGreatV5
import Derived.Test.YtgfgkfkplidncaaGreatV6
import Derived.OpenShut
set_option maxRecDepth 100000
set_option linter.unusedSimpArgs false
set_option linter.unusedVariables false
namespace Go.Proofs.YtgfgkfkplidncaaGreat
open Go.ChangeShapes Go.WideShapes Go.ChangeAt Go.RowKit
open Go.Abs (CallP Reads Rep Noblk Mu)

theorem soundNamed_lifted (os : Os) (started : os.Started) (H : Type) (enc : TypeId × Value → H) :
    ReturnsInHanded {} Tryz.checked os 3 .any (Rows.soundNamedSpec.pre6 enc Tryz.prog Tryz.f3 Rows.soundNamedRow.domain false) (Rows.soundNamedSpec.post enc Tryz.prog Tryz.f3 false true false false) := by
  refine returnsInHanded_of_change_sized (C := Tryz.checked) own started (by kernel_rfl) Tryz.func3
    (ChangeSpec.witness6 (enc := enc) (C := Tryz.checked) false ⟨#[], #[.slice none 0 0, .slice none 0 0], []⟩ 8 (by kernel_rfl) (by kernel_rfl) (by kernel_rfl) (by kernel_rfl)) ?_
  intro W base args ds gs before hval0 hW hcnd hsz0 _
  have hval : ∀ (j : Nat) t v, Tryz.f3.params[j]? = some t → args[j]? = some v → Value.okWide Tryz.prog W .any base t v := hval0
  have hsz : (DataW.weightsEach Tryz.prog (Tryz.f3.params.toList ++ Rows.soundNamedSpec.plain.varTypes Tryz.prog) (ds ++ gs)).all (· ≤ reachBytes) = true := hsz0
  clear hval0 hsz0
  have hW' := hW
  obtain ⟨p, q, hA0, hV, rfl, hfz, hnd⟩ := hW
  have hA : DataW.TrodAll enc Tryz.prog W 0 (fun _ => true) true Tryz.f3.params.toList args.toList ds p := hA0
  clear hA0
  rw [Tryz.params3] at hA hval hsz
  obtain ⟨v0, vs0, d0, ds0, p0, q0, hargs, rfl, rfl, h0, r0⟩ := trodAll_cons hA
  obtain ⟨v1, vs1, d1, ds1, p1, q1, rfl, rfl, rfl, h1, r1⟩ := trodAll_cons r0
  obtain ⟨rfl, rfl, rfl⟩ := trodAll_nil r1
  obtain rfl : args = #[v0, v1] := by cases args; simp_all
  obtain ⟨rfl, rfl⟩ := trodVars_none hV
  have w0 : ∀ n ∈ d0.weights Tryz.prog 22, n ≤ reachBytes := fun n hn => of_decide_eq_true (List.all_eq_true.1 hsz n (DataW.weights_mem_each (j := 0) rfl rfl n hn))
  have lt0 : ∀ x ∈ p0, x.block < W.heap.size := by obtain ⟨m, hm⟩ := h0; exact DataW.trod_lt m _ _ _ hm
  have c0 : v0.cells = #[v0] := by obtain ⟨a, len, cap, rfl⟩ := okWide_slice Tryz.underlying22 (hval 0 22 v0 rfl rfl); rfl
  obtain ⟨a0, k0⟩ := Abs.arg_one (reads_tab enc W) (fun _ => rfl) c0 h0 w0
  have w1 : ∀ n ∈ d1.weights Tryz.prog 23, n ≤ reachBytes := fun n hn => of_decide_eq_true (List.all_eq_true.1 hsz n (DataW.weights_mem_each (j := 1) rfl rfl n hn))
  have lt1 : ∀ x ∈ p1, x.block < W.heap.size := by obtain ⟨m, hm⟩ := h1; exact DataW.trod_lt m _ _ _ hm
  have c1 : v1.cells = #[v1] := by obtain ⟨a, len, cap, rfl⟩ := okWide_slice Tryz.underlying23 (hval 1 23 v1 rfl rfl); rfl
  obtain ⟨a1, k1⟩ := Abs.arg_one (reads_ints enc W) (fun _ => rfl) c1 h1 w1
  have hargsR : ∀ i, i < [tabV a0, ints a1].length → Rep W Noblk Mu.none ([tabV a0, ints a1].getD i .junk) ((#[v0, v1] : Array Value).getD i undef) := by
    intro i hi
    match i, hi with
    | 0, _ => exact k0
    | 1, _ => exact k1
  refine (Abs.CallP.calls (lawSoundNamed_c a0 a1 (len_of_tab k0) (len_of_ints k1)) rfl hargsR).mono fun e W' ⟨he, bel⟩ => ?_
  subst he
  exact ⟨_, rfl, _, _, _, [], _, [], hW', trodAll_mk1 (shut_bool Tryz.underlying4 _), (trodAll_cons_mk (Below.trod laidOut (by kernel_rfl) (of_decide_eq_true (by kernel_rfl)) h0 bel lt0) (trodAll_cons_mk (Below.trod laidOut (by kernel_rfl) (of_decide_eq_true (by kernel_rfl)) h1 bel lt1) trodAll_mk0)), rfl, bel.frame _, fun h => by cases h⟩
theorem soundNamed_k0 : (Rows.soundNamedRow.wf (OpenSpec.ofChange Rows.soundNamedSpec)) = true := by kernel_rfl
theorem soundNamed_k3 : (Tryz.f3.params.all (Tryz.pinned.checked.prog.readableRec ·)) = true := by kernel_rfl
theorem soundNamed_k4 : (namedTie Tryz.pinned.checked.prog Rows.soundNamedRow.named Rows.soundNamedSpec.vars) = true := by kernel_rfl
theorem soundNamed_k5 : ((Rows.soundNamedRow.stops == [])) = true := by kernel_rfl
theorem soundNamed_k7 : ((Rows.soundNamedRow.knobs == [])) = true := by kernel_rfl
theorem soundNamed_k9 : ((Rows.soundNamedRow.inPlace == Tryz.pinned.checked.prog.inPlace 3)) = true := by kernel_rfl
theorem soundNamed_k10 : ((Rows.soundNamedRow.unfollowed == Tryz.pinned.checked.prog.unfollowed 3)) = true := by kernel_rfl
theorem soundNamed_k11 : ((Rows.soundNamedRow.recurses == Tryz.pinned.checked.prog.recurses 3)) = true := by kernel_rfl
theorem soundNamed_k12 : ((Rows.soundNamedRow.named == Tryz.pinned.checked.prog.varsNamed 3)) = true := by kernel_rfl
theorem soundNamed_k13 : ((Rows.soundNamedRow.maps == (Tryz.f3.params.toList ++ Rows.soundNamedSpec.plain.varTypes Tryz.pinned.checked.prog).any (Tryz.pinned.checked.prog.mapsRec ·))) = true := by kernel_rfl
theorem soundNamed_k14 : ((Rows.soundNamedRow.ifaces == (Tryz.f3.params.toList ++ Rows.soundNamedSpec.plain.varTypes Tryz.pinned.checked.prog).any (Tryz.pinned.checked.prog.ifacesRec ·))) = true := by kernel_rfl
theorem soundNamed_k15 : ((Rows.soundNamedRow.mapsOut == Tryz.pinned.checked.prog.mapsAmong Tryz.f3.resultTypes.toList)) = true := by kernel_rfl
theorem soundNamed_k16 : ((Rows.soundNamedRow.loops == (Tryz.f3.params.toList ++ Rows.soundNamedSpec.plain.varTypes Tryz.pinned.checked.prog).any (Tryz.pinned.checked.prog.loopsFrom ·))) = true := by kernel_rfl
theorem soundNamed_k17 : ((Rows.soundNamedRow.wideKeys == (Tryz.f3.params.toList ++ Rows.soundNamedSpec.plain.varTypes Tryz.pinned.checked.prog ++ Tryz.f3.resultTypes.toList).any (Tryz.pinned.checked.prog.wideKeysFrom ·))) = true := by kernel_rfl
theorem soundNamed_k18 : (Rows.soundNamedSpec.vars.all (Tryz.pinned.checked.prog.varReadable ·)) = true := by kernel_rfl
theorem soundNamed_k19 : (Tryz.f3.resultTypes.all (fun t => Tryz.pinned.checked.prog.readableRec t && decide (t < Tryz.pinned.checked.prog.types.size))) = true := by kernel_rfl
theorem soundNamed_k20 : ((Rows.soundNamedRow.ifacesOut == Tryz.f3.resultTypes.toList.any (Tryz.pinned.checked.prog.ifacesRec ·))) = true := by kernel_rfl
theorem soundNamed_k21 : ((Rows.soundNamedRow.loopsOut == Tryz.f3.resultTypes.toList.any (Tryz.pinned.checked.prog.loopsFrom ·))) = true := by kernel_rfl
theorem soundNamed_k22 : ((Rows.soundNamedRow.plainKeys == Tryz.pinned.checked.prog.plainKeys)) = true := by kernel_rfl
theorem soundNamed_k23 : (Rows.soundNamedRow.shortTexts.isNone) = true := by kernel_rfl
theorem soundNamed_k26 : ((Rows.soundNamedRow.lifted == Tryz.pinned.checked.prog.liftsFinal)) = true := by rw [liftsFinal_no]; kernel_rfl
theorem soundNamed_k27 : ((Tryz.pinned.checked.prog.make == some Rows.soundNamedRow.make)) = true := by rw [make_cut]; kernel_rfl
theorem soundNamed_k28 : ((Rows.soundNamedRow.kinds == (if Rows.soundNamedRow.domain.isEmpty then [] else Tryz.f3.params.toList.map fun t => match Tryz.pinned.checked.prog.underlying t with | some (.int k) => some k | _ => none))) = true := by kernel_rfl
theorem soundNamed_k29 : ((Rows.soundNamedRow.pinned == Rows.soundNamedRow.pinnedBy)) = true := by kernel_rfl
theorem soundNamed_k30 : ((Rows.soundNamedRow.veiled == (Tryz.f3.params.toList ++ Rows.soundNamedSpec.plain.varTypes Tryz.pinned.checked.prog ++ Tryz.f3.resultTypes.toList).any (Tryz.pinned.checked.prog.veiledRec ·))) = true := by kernel_rfl
theorem soundNamed_k31 : (Rows.soundNamedRow.veiledFits Tryz.pinned.checked.prog Tryz.f3.params.toList (Tryz.f3.params.toList ++ Rows.soundNamedSpec.plain.varTypes Tryz.pinned.checked.prog ++ Tryz.f3.resultTypes.toList)) = true := by kernel_rfl

theorem soundNamed_proved : Rows.SoundNamedSaid :=
  OpenClaim.holds_of_wide 3 Tryz.f3 rfl rfl rfl rfl rfl rfl rfl ⟨rfl, rfl, rfl, rfl, rfl⟩ rfl rfl rfl rfl rfl (by kernel_rfl) Tryz.func3
    (joined_of soundNamed_k0 fact1 fact2 soundNamed_k3 soundNamed_k4 soundNamed_k5 fact6 soundNamed_k7 fact8 soundNamed_k9 soundNamed_k10 soundNamed_k11 soundNamed_k12 soundNamed_k13 soundNamed_k14 soundNamed_k15 soundNamed_k16 soundNamed_k17 soundNamed_k18 soundNamed_k19 soundNamed_k20 soundNamed_k21 soundNamed_k22 soundNamed_k23 fact24 mayEnter_yes soundNamed_k26 soundNamed_k27 soundNamed_k28 soundNamed_k29 soundNamed_k30 soundNamed_k31)
    (of_decide_eq_true (by kernel_rfl)) (by unfold Func.isWrapper; first | (rw [if_pos (by decide +kernel)]; kernel_rfl) | (rw [if_neg (by decide +kernel)]; exact ⟨rfl, rfl⟩))
    (fun os started H enc _ => soundNamed_lifted os started H enc)
#print axioms soundNamed_proved
end Go.Proofs.YtgfgkfkplidncaaGreat
