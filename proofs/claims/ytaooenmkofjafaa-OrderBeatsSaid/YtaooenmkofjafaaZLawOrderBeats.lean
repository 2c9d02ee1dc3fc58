/- Statement OrderBeats: for every input the law answers true, and each argument reads behind the call as it read before. -/
import Derived.Test.YtaooenmkofjafaaV7
import Derived.OpenShut
set_option maxRecDepth 100000
set_option linter.unusedSimpArgs false
set_option linter.unusedVariables false
namespace Go.Proofs.Ytaooenmkofjafaa
open Go.ChangeShapes Go.WideShapes Go.ChangeAt Go.RowKit
open Go.Abs (CallP Reads Rep Noblk Mu)

theorem orderBeats_lifted (os : Os) (started : os.Started) (H : Type) (enc : TypeId × Value → H) :
    ReturnsInHanded {} Try.checked os 7 .any (Rows.orderBeatsSpec.pre6 enc Try.prog Try.f7 Rows.orderBeatsRow.domain false) (Rows.orderBeatsSpec.post enc Try.prog Try.f7 false true false false) := by
  refine returnsInHanded_of_change_sized (C := Try.checked) own started (by kernel_rfl) Try.func7
    (ChangeSpec.witness6 (enc := enc) (C := Try.checked) false ⟨#[], #[.agg #[.slice none 0 0, .slice none 0 0, .slice none 0 0], .agg #[.int .i64 0, .int .i64 0, .int .i64 0, .int .i64 0]], []⟩ 8 (by kernel_rfl) (by kernel_rfl) (by kernel_rfl) (by kernel_rfl)) ?_
  intro W base args ds gs before hval0 hW hcnd hsz0 _
  have hval : ∀ (j : Nat) t v, Try.f7.params[j]? = some t → args[j]? = some v → Value.okWide Try.prog W .any base t v := hval0
  have hsz : (DataW.weightsEach Try.prog (Try.f7.params.toList ++ Rows.orderBeatsSpec.plain.varTypes Try.prog) (ds ++ gs)).all (· ≤ reachBytes) = true := hsz0
  clear hval0 hsz0
  have hW' := hW
  obtain ⟨p, q, hA0, hV, rfl, hfz, hnd⟩ := hW
  have hA : DataW.TrodAll enc Try.prog W 0 (fun _ => true) true Try.f7.params.toList args.toList ds p := hA0
  clear hA0
  rw [Try.params7] at hA hval hsz
  obtain ⟨v0, vs0, d0, ds0, p0, q0, hargs, rfl, rfl, h0, r0⟩ := trodAll_cons hA
  obtain ⟨v1, vs1, d1, ds1, p1, q1, rfl, rfl, rfl, h1, r1⟩ := trodAll_cons r0
  obtain ⟨rfl, rfl, rfl⟩ := trodAll_nil r1
  obtain rfl : args = #[v0, v1] := by cases args; simp_all
  obtain ⟨rfl, rfl⟩ := trodVars_none hV
  have w0 : ∀ n ∈ d0.weights Try.prog 25, n ≤ reachBytes := fun n hn => of_decide_eq_true (List.all_eq_true.1 hsz n (DataW.weights_mem_each (j := 0) rfl rfl n hn))
  have lt0 : ∀ x ∈ p0, x.block < W.heap.size := by obtain ⟨m, hm⟩ := h0; exact DataW.trod_lt m _ _ _ hm
  obtain ⟨a0, k0⟩ := Abs.arg_agg Try.underlying25 (reads_case enc W) (fun _ => ⟨_, rfl⟩) (hval 0 25 v0 rfl rfl) h0 w0
  have w1 : ∀ n ∈ d1.weights Try.prog 48, n ≤ reachBytes := fun n hn => of_decide_eq_true (List.all_eq_true.1 hsz n (DataW.weights_mem_each (j := 1) rfl rfl n hn))
  have lt1 : ∀ x ∈ p1, x.block < W.heap.size := by obtain ⟨m, hm⟩ := h1; exact DataW.trod_lt m _ _ _ hm
  obtain ⟨a1, k1⟩ := Abs.arg_agg Try.underlying48 (reads_two enc W) (fun _ => ⟨_, rfl⟩) (hval 1 48 v1 rfl rfl) h1 w1
  have hargsR : ∀ i, i < [caseV a0, twoV a1].length → Rep W Noblk Mu.none ([caseV a0, twoV a1].getD i .junk) ((#[v0, v1] : Array Value).getD i undef) := by
    intro i hi
    match i, hi with
    | 0, _ => exact k0
    | 1, _ => exact k1
  refine (Abs.CallP.calls (lawOrderBeats_c a0 a1 (len_of_case k0)) rfl hargsR).mono fun e W' ⟨he, bel⟩ => ?_
  subst he
  exact ⟨_, rfl, _, _, _, [], _, [], hW', trodAll_mk1 (shut_bool Try.underlying4 _), (trodAll_cons_mk (Below.trod laidOut (by kernel_rfl) (of_decide_eq_true (by kernel_rfl)) h0 bel lt0) (trodAll_cons_mk (Below.trod laidOut (by kernel_rfl) (of_decide_eq_true (by kernel_rfl)) h1 bel lt1) trodAll_mk0)), rfl, bel.frame _, fun h => by cases h⟩
theorem orderBeats_k0 : (Rows.orderBeatsRow.wf (OpenSpec.ofChange Rows.orderBeatsSpec)) = true := by kernel_rfl
theorem orderBeats_k3 : (Try.f7.params.all (Try.pinned.checked.prog.readableRec ·)) = true := by kernel_rfl
theorem orderBeats_k4 : (namedTie Try.pinned.checked.prog Rows.orderBeatsRow.named Rows.orderBeatsSpec.vars) = true := by kernel_rfl
theorem orderBeats_k5 : ((Rows.orderBeatsRow.stops == [])) = true := by kernel_rfl
theorem orderBeats_k7 : ((Rows.orderBeatsRow.knobs == [])) = true := by kernel_rfl
theorem orderBeats_k9 : ((Rows.orderBeatsRow.inPlace == Try.pinned.checked.prog.inPlace 7)) = true := by kernel_rfl
theorem orderBeats_k10 : ((Rows.orderBeatsRow.unfollowed == Try.pinned.checked.prog.unfollowed 7)) = true := by kernel_rfl
theorem orderBeats_k11 : ((Rows.orderBeatsRow.recurses == Try.pinned.checked.prog.recurses 7)) = true := by kernel_rfl
theorem orderBeats_k12 : ((Rows.orderBeatsRow.named == Try.pinned.checked.prog.varsNamed 7)) = true := by kernel_rfl
theorem orderBeats_k13 : ((Rows.orderBeatsRow.maps == (Try.f7.params.toList ++ Rows.orderBeatsSpec.plain.varTypes Try.pinned.checked.prog).any (Try.pinned.checked.prog.mapsRec ·))) = true := by kernel_rfl
theorem orderBeats_k14 : ((Rows.orderBeatsRow.ifaces == (Try.f7.params.toList ++ Rows.orderBeatsSpec.plain.varTypes Try.pinned.checked.prog).any (Try.pinned.checked.prog.ifacesRec ·))) = true := by kernel_rfl
theorem orderBeats_k15 : ((Rows.orderBeatsRow.mapsOut == Try.pinned.checked.prog.mapsAmong Try.f7.resultTypes.toList)) = true := by kernel_rfl
theorem orderBeats_k16 : ((Rows.orderBeatsRow.loops == (Try.f7.params.toList ++ Rows.orderBeatsSpec.plain.varTypes Try.pinned.checked.prog).any (Try.pinned.checked.prog.loopsFrom ·))) = true := by kernel_rfl
theorem orderBeats_k17 : ((Rows.orderBeatsRow.wideKeys == (Try.f7.params.toList ++ Rows.orderBeatsSpec.plain.varTypes Try.pinned.checked.prog ++ Try.f7.resultTypes.toList).any (Try.pinned.checked.prog.wideKeysFrom ·))) = true := by kernel_rfl
theorem orderBeats_k18 : (Rows.orderBeatsSpec.vars.all (Try.pinned.checked.prog.varReadable ·)) = true := by kernel_rfl
theorem orderBeats_k19 : (Try.f7.resultTypes.all (fun t => Try.pinned.checked.prog.readableRec t && decide (t < Try.pinned.checked.prog.types.size))) = true := by kernel_rfl
theorem orderBeats_k20 : ((Rows.orderBeatsRow.ifacesOut == Try.f7.resultTypes.toList.any (Try.pinned.checked.prog.ifacesRec ·))) = true := by kernel_rfl
theorem orderBeats_k21 : ((Rows.orderBeatsRow.loopsOut == Try.f7.resultTypes.toList.any (Try.pinned.checked.prog.loopsFrom ·))) = true := by kernel_rfl
theorem orderBeats_k22 : ((Rows.orderBeatsRow.plainKeys == Try.pinned.checked.prog.plainKeys)) = true := by kernel_rfl
theorem orderBeats_k23 : (Rows.orderBeatsRow.shortTexts.isNone) = true := by kernel_rfl
theorem orderBeats_k26 : ((Rows.orderBeatsRow.lifted == Try.pinned.checked.prog.liftsFinal)) = true := by rw [liftsFinal_no]; kernel_rfl
theorem orderBeats_k27 : ((Try.pinned.checked.prog.make == some Rows.orderBeatsRow.make)) = true := by rw [make_cut]; kernel_rfl
theorem orderBeats_k28 : ((Rows.orderBeatsRow.kinds == (if Rows.orderBeatsRow.domain.isEmpty then [] else Try.f7.params.toList.map fun t => match Try.pinned.checked.prog.underlying t with | some (.int k) => some k | _ => none))) = true := by kernel_rfl
theorem orderBeats_k29 : ((Rows.orderBeatsRow.pinned == Rows.orderBeatsRow.pinnedBy)) = true := by kernel_rfl
theorem orderBeats_k30 : ((Rows.orderBeatsRow.veiled == (Try.f7.params.toList ++ Rows.orderBeatsSpec.plain.varTypes Try.pinned.checked.prog ++ Try.f7.resultTypes.toList).any (Try.pinned.checked.prog.veiledRec ·))) = true := by kernel_rfl
theorem orderBeats_k31 : (Rows.orderBeatsRow.veiledFits Try.pinned.checked.prog Try.f7.params.toList (Try.f7.params.toList ++ Rows.orderBeatsSpec.plain.varTypes Try.pinned.checked.prog ++ Try.f7.resultTypes.toList)) = true := by kernel_rfl

theorem orderBeats_proved : Rows.OrderBeatsSaid :=
  OpenClaim.holds_of_wide 7 Try.f7 rfl rfl rfl rfl rfl rfl rfl ⟨rfl, rfl, rfl, rfl, rfl⟩ rfl rfl rfl rfl rfl (by kernel_rfl) Try.func7
    (joined_of orderBeats_k0 fact1 fact2 orderBeats_k3 orderBeats_k4 orderBeats_k5 fact6 orderBeats_k7 fact8 orderBeats_k9 orderBeats_k10 orderBeats_k11 orderBeats_k12 orderBeats_k13 orderBeats_k14 orderBeats_k15 orderBeats_k16 orderBeats_k17 orderBeats_k18 orderBeats_k19 orderBeats_k20 orderBeats_k21 orderBeats_k22 orderBeats_k23 fact24 mayEnter_yes orderBeats_k26 orderBeats_k27 orderBeats_k28 orderBeats_k29 orderBeats_k30 orderBeats_k31)
    (of_decide_eq_true (by kernel_rfl)) (by unfold Func.isWrapper; first | (rw [if_pos (by decide +kernel)]; kernel_rfl) | (rw [if_neg (by decide +kernel)]; exact ⟨rfl, rfl⟩))
    (fun os started H enc _ => orderBeats_lifted os started H enc)
#print axioms orderBeats_proved
end Go.Proofs.Ytaooenmkofjafaa
