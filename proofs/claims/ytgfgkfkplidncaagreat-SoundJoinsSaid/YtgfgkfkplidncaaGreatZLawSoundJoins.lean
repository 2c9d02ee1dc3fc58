/- Statement SoundJoins: for every input the law answers true, and each argument reads behind the call as it read before. -/
import Derived.Test.YtgfgkfkplidncaaGreatV8
import Derived.Test.YtgfgkfkplidncaaGreatV9
import Derived.OpenShut
set_option maxRecDepth 100000
set_option linter.unusedSimpArgs false
set_option linter.unusedVariables false
namespace Go.Proofs.YtgfgkfkplidncaaGreat
open Go.ChangeShapes Go.WideShapes Go.ChangeAt Go.RowKit
open Go.Abs (CallP Reads Rep Noblk Mu)

theorem soundJoins_lifted (os : Os) (started : os.Started) (H : Type) (enc : TypeId × Value → H) :
    ReturnsInHanded {} Tryz.checked os 8 .any (Rows.soundJoinsSpec.pre6 enc Tryz.prog Tryz.f8 Rows.soundJoinsRow.domain false) (Rows.soundJoinsSpec.post enc Tryz.prog Tryz.f8 false true false false) := by
  refine returnsInHanded_of_change_sized (C := Tryz.checked) own started (by kernel_rfl) Tryz.func8
    (ChangeSpec.witness6 (enc := enc) (C := Tryz.checked) false ⟨#[], #[.slice none 0 0, .int .i64 0], []⟩ 8 (by kernel_rfl) (by kernel_rfl) (by kernel_rfl) (by kernel_rfl)) ?_
  intro W base args ds gs before hval0 hW hcnd hsz0 _
  have hval : ∀ (j : Nat) t v, Tryz.f8.params[j]? = some t → args[j]? = some v → Value.okWide Tryz.prog W .any base t v := hval0
  have hsz : (DataW.weightsEach Tryz.prog (Tryz.f8.params.toList ++ Rows.soundJoinsSpec.plain.varTypes Tryz.prog) (ds ++ gs)).all (· ≤ reachBytes) = true := hsz0
  clear hval0 hsz0
  have hW' := hW
  obtain ⟨p, q, hA0, hV, rfl, hfz, hnd⟩ := hW
  have hA : DataW.TrodAll enc Tryz.prog W 0 (fun _ => true) true Tryz.f8.params.toList args.toList ds p := hA0
  clear hA0
  rw [Tryz.params8] at hA hval hsz
  obtain ⟨v0, vs0, d0, ds0, p0, q0, hargs, rfl, rfl, h0, r0⟩ := trodAll_cons hA
  obtain ⟨v1, vs1, d1, ds1, p1, q1, rfl, rfl, rfl, h1, r1⟩ := trodAll_cons r0
  obtain ⟨rfl, rfl, rfl⟩ := trodAll_nil r1
  obtain rfl : args = #[v0, v1] := by cases args; simp_all
  obtain ⟨rfl, rfl⟩ := trodVars_none hV
  have w0 : ∀ n ∈ d0.weights Tryz.prog 22, n ≤ reachBytes := fun n hn => of_decide_eq_true (List.all_eq_true.1 hsz n (DataW.weights_mem_each (j := 0) rfl rfl n hn))
  have lt0 : ∀ x ∈ p0, x.block < W.heap.size := by obtain ⟨m, hm⟩ := h0; exact DataW.trod_lt m _ _ _ hm
  have c0 : v0.cells = #[v0] := by obtain ⟨a, len, cap, rfl⟩ := okWide_slice Tryz.underlying22 (hval 0 22 v0 rfl rfl); rfl
  obtain ⟨a0, k0⟩ := Abs.arg_one (reads_tab enc W) (fun _ => rfl) c0 h0 w0
  have w1 : ∀ n ∈ d1.weights Tryz.prog 3, n ≤ reachBytes := fun n hn => of_decide_eq_true (List.all_eq_true.1 hsz n (DataW.weights_mem_each (j := 1) rfl rfl n hn))
  have lt1 : ∀ x ∈ p1, x.block < W.heap.size := by obtain ⟨m, hm⟩ := h1; exact DataW.trod_lt m _ _ _ hm
  have c1 : v1.cells = #[v1] := by obtain ⟨n, rfl⟩ := okWide_int Tryz.underlying3 (hval 1 3 v1 rfl rfl); rfl
  obtain ⟨a1, k1⟩ := Abs.arg_one (reads_i enc W) (fun _ => rfl) c1 h1 w1
  have hargsR : ∀ i, i < [tabV a0, iv a1].length → Rep W Noblk Mu.none ([tabV a0, iv a1].getD i .junk) ((#[v0, v1] : Array Value).getD i undef) := by
    intro i hi
    match i, hi with
    | 0, _ => exact k0
    | 1, _ => exact k1
  refine (Abs.CallP.calls (lawSoundJoins_c a0 a1 (len_of_tab k0)) rfl hargsR).mono fun e W' ⟨he, bel⟩ => ?_
  subst he
  exact ⟨_, rfl, _, _, _, [], _, [], hW', trodAll_mk1 (shut_bool Tryz.underlying4 _), (trodAll_cons_mk (Below.trod laidOut (by kernel_rfl) (of_decide_eq_true (by kernel_rfl)) h0 bel lt0) (trodAll_cons_mk (Below.trod laidOut (by kernel_rfl) (of_decide_eq_true (by kernel_rfl)) h1 bel lt1) trodAll_mk0)), rfl, bel.frame _, fun h => by cases h⟩
theorem soundJoins_k0 : (Rows.soundJoinsRow.wf (OpenSpec.ofChange Rows.soundJoinsSpec)) = true := by kernel_rfl
theorem soundJoins_k3 : (Tryz.f8.params.all (Tryz.pinned.checked.prog.readableRec ·)) = true := by kernel_rfl
theorem soundJoins_k4 : (namedTie Tryz.pinned.checked.prog Rows.soundJoinsRow.named Rows.soundJoinsSpec.vars) = true := by kernel_rfl
theorem soundJoins_k5 : ((Rows.soundJoinsRow.stops == [])) = true := by kernel_rfl
theorem soundJoins_k7 : ((Rows.soundJoinsRow.knobs == [])) = true := by kernel_rfl
theorem soundJoins_k9 : ((Rows.soundJoinsRow.inPlace == Tryz.pinned.checked.prog.inPlace 8)) = true := by kernel_rfl
theorem soundJoins_k10 : ((Rows.soundJoinsRow.unfollowed == Tryz.pinned.checked.prog.unfollowed 8)) = true := by kernel_rfl
theorem soundJoins_k11 : ((Rows.soundJoinsRow.recurses == Tryz.pinned.checked.prog.recurses 8)) = true := by kernel_rfl
theorem soundJoins_k12 : ((Rows.soundJoinsRow.named == Tryz.pinned.checked.prog.varsNamed 8)) = true := by kernel_rfl
theorem soundJoins_k13 : ((Rows.soundJoinsRow.maps == (Tryz.f8.params.toList ++ Rows.soundJoinsSpec.plain.varTypes Tryz.pinned.checked.prog).any (Tryz.pinned.checked.prog.mapsRec ·))) = true := by kernel_rfl
theorem soundJoins_k14 : ((Rows.soundJoinsRow.ifaces == (Tryz.f8.params.toList ++ Rows.soundJoinsSpec.plain.varTypes Tryz.pinned.checked.prog).any (Tryz.pinned.checked.prog.ifacesRec ·))) = true := by kernel_rfl
theorem soundJoins_k15 : ((Rows.soundJoinsRow.mapsOut == Tryz.pinned.checked.prog.mapsAmong Tryz.f8.resultTypes.toList)) = true := by kernel_rfl
theorem soundJoins_k16 : ((Rows.soundJoinsRow.loops == (Tryz.f8.params.toList ++ Rows.soundJoinsSpec.plain.varTypes Tryz.pinned.checked.prog).any (Tryz.pinned.checked.prog.loopsFrom ·))) = true := by kernel_rfl
theorem soundJoins_k17 : ((Rows.soundJoinsRow.wideKeys == (Tryz.f8.params.toList ++ Rows.soundJoinsSpec.plain.varTypes Tryz.pinned.checked.prog ++ Tryz.f8.resultTypes.toList).any (Tryz.pinned.checked.prog.wideKeysFrom ·))) = true := by kernel_rfl
theorem soundJoins_k18 : (Rows.soundJoinsSpec.vars.all (Tryz.pinned.checked.prog.varReadable ·)) = true := by kernel_rfl
theorem soundJoins_k19 : (Tryz.f8.resultTypes.all (fun t => Tryz.pinned.checked.prog.readableRec t && decide (t < Tryz.pinned.checked.prog.types.size))) = true := by kernel_rfl
theorem soundJoins_k20 : ((Rows.soundJoinsRow.ifacesOut == Tryz.f8.resultTypes.toList.any (Tryz.pinned.checked.prog.ifacesRec ·))) = true := by kernel_rfl
theorem soundJoins_k21 : ((Rows.soundJoinsRow.loopsOut == Tryz.f8.resultTypes.toList.any (Tryz.pinned.checked.prog.loopsFrom ·))) = true := by kernel_rfl
theorem soundJoins_k22 : ((Rows.soundJoinsRow.plainKeys == Tryz.pinned.checked.prog.plainKeys)) = true := by kernel_rfl
theorem soundJoins_k23 : (Rows.soundJoinsRow.shortTexts.isNone) = true := by kernel_rfl
theorem soundJoins_k26 : ((Rows.soundJoinsRow.lifted == Tryz.pinned.checked.prog.liftsFinal)) = true := by rw [liftsFinal_no]; kernel_rfl
theorem soundJoins_k27 : ((Tryz.pinned.checked.prog.make == some Rows.soundJoinsRow.make)) = true := by rw [make_cut]; kernel_rfl
theorem soundJoins_k28 : ((Rows.soundJoinsRow.kinds == (if Rows.soundJoinsRow.domain.isEmpty then [] else Tryz.f8.params.toList.map fun t => match Tryz.pinned.checked.prog.underlying t with | some (.int k) => some k | _ => none))) = true := by kernel_rfl
theorem soundJoins_k29 : ((Rows.soundJoinsRow.pinned == Rows.soundJoinsRow.pinnedBy)) = true := by kernel_rfl
theorem soundJoins_k30 : ((Rows.soundJoinsRow.veiled == (Tryz.f8.params.toList ++ Rows.soundJoinsSpec.plain.varTypes Tryz.pinned.checked.prog ++ Tryz.f8.resultTypes.toList).any (Tryz.pinned.checked.prog.veiledRec ·))) = true := by kernel_rfl
theorem soundJoins_k31 : (Rows.soundJoinsRow.veiledFits Tryz.pinned.checked.prog Tryz.f8.params.toList (Tryz.f8.params.toList ++ Rows.soundJoinsSpec.plain.varTypes Tryz.pinned.checked.prog ++ Tryz.f8.resultTypes.toList)) = true := by kernel_rfl

theorem soundJoins_proved : Rows.SoundJoinsSaid :=
  OpenClaim.holds_of_wide 8 Tryz.f8 rfl rfl rfl rfl rfl rfl rfl ⟨rfl, rfl, rfl, rfl, rfl⟩ rfl rfl rfl rfl rfl (by kernel_rfl) Tryz.func8
    (joined_of soundJoins_k0 fact1 fact2 soundJoins_k3 soundJoins_k4 soundJoins_k5 fact6 soundJoins_k7 fact8 soundJoins_k9 soundJoins_k10 soundJoins_k11 soundJoins_k12 soundJoins_k13 soundJoins_k14 soundJoins_k15 soundJoins_k16 soundJoins_k17 soundJoins_k18 soundJoins_k19 soundJoins_k20 soundJoins_k21 soundJoins_k22 soundJoins_k23 fact24 mayEnter_yes soundJoins_k26 soundJoins_k27 soundJoins_k28 soundJoins_k29 soundJoins_k30 soundJoins_k31)
    (of_decide_eq_true (by kernel_rfl)) (by unfold Func.isWrapper; first | (rw [if_pos (by decide +kernel)]; kernel_rfl) | (rw [if_neg (by decide +kernel)]; exact ⟨rfl, rfl⟩))
    (fun os started H enc _ => soundJoins_lifted os started H enc)
#print axioms soundJoins_proved
end Go.Proofs.YtgfgkfkplidncaaGreat
