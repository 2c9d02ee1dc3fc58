/- Statement FeedFinds: for every input the law answers true, and each argument reads behind the call as it read before. -/
import Derived.Test.YtaooenmkofjafaaV7
import Derived.Test.YtaooenmkofjafaaV5
import Derived.OpenShut
set_option maxRecDepth 100000
set_option linter.unusedSimpArgs false
set_option linter.unusedVariables false
namespace Go.Proofs.Ytaooenmkofjafaa
open Go.ChangeShapes Go.WideShapes Go.ChangeAt Go.RowKit
open Go.Abs (CallP Reads Rep Noblk Mu)

theorem feedFinds_lifted (os : Os) (started : os.Started) (H : Type) (enc : TypeId × Value → H) :
    ReturnsInHanded {} Try.checked os 21 .any (Rows.feedFindsSpec.pre6 enc Try.prog Try.f21 Rows.feedFindsRow.domain false) (Rows.feedFindsSpec.post enc Try.prog Try.f21 false true false false) := by
  refine returnsInHanded_of_change_sized (C := Try.checked) own started (by kernel_rfl) Try.func21
    (ChangeSpec.witness6 (enc := enc) (C := Try.checked) false ⟨#[], #[.slice none 0 0, .slice none 0 0, .slice none 0 0], []⟩ 8 (by kernel_rfl) (by kernel_rfl) (by kernel_rfl) (by kernel_rfl)) ?_
  intro W base args ds gs before hval0 hW hcnd hsz0 _
  have hval : ∀ (j : Nat) t v, Try.f21.params[j]? = some t → args[j]? = some v → Value.okWide Try.prog W .any base t v := hval0
  have hsz : (DataW.weightsEach Try.prog (Try.f21.params.toList ++ Rows.feedFindsSpec.plain.varTypes Try.prog) (ds ++ gs)).all (· ≤ reachBytes) = true := hsz0
  clear hval0 hsz0
  have hW' := hW
  obtain ⟨p, q, hA0, hV, rfl, hfz, hnd⟩ := hW
  have hA : DataW.TrodAll enc Try.prog W 0 (fun _ => true) true Try.f21.params.toList args.toList ds p := hA0
  clear hA0
  rw [Try.params21] at hA hval hsz
  obtain ⟨v0, vs0, d0, ds0, p0, q0, hargs, rfl, rfl, h0, r0⟩ := trodAll_cons hA
  obtain ⟨v1, vs1, d1, ds1, p1, q1, rfl, rfl, rfl, h1, r1⟩ := trodAll_cons r0
  obtain ⟨v2, vs2, d2, ds2, p2, q2, rfl, rfl, rfl, h2, r2⟩ := trodAll_cons r1
  obtain ⟨rfl, rfl, rfl⟩ := trodAll_nil r2
  obtain rfl : args = #[v0, v1, v2] := by cases args; simp_all
  obtain ⟨rfl, rfl⟩ := trodVars_none hV
  have w0 : ∀ n ∈ d0.weights Try.prog 22, n ≤ reachBytes := fun n hn => of_decide_eq_true (List.all_eq_true.1 hsz n (DataW.weights_mem_each (j := 0) rfl rfl n hn))
  have lt0 : ∀ x ∈ p0, x.block < W.heap.size := by obtain ⟨m, hm⟩ := h0; exact DataW.trod_lt m _ _ _ hm
  have c0 : v0.cells = #[v0] := by obtain ⟨a, len, cap, rfl⟩ := okWide_slice Try.underlying22 (hval 0 22 v0 rfl rfl); rfl
  obtain ⟨a0, k0⟩ := Abs.arg_one (reads_rules enc W) (fun _ => rfl) c0 h0 w0
  have w1 : ∀ n ∈ d1.weights Try.prog 23, n ≤ reachBytes := fun n hn => of_decide_eq_true (List.all_eq_true.1 hsz n (DataW.weights_mem_each (j := 1) rfl rfl n hn))
  have lt1 : ∀ x ∈ p1, x.block < W.heap.size := by obtain ⟨m, hm⟩ := h1; exact DataW.trod_lt m _ _ _ hm
  have c1 : v1.cells = #[v1] := by obtain ⟨a, len, cap, rfl⟩ := okWide_slice Try.underlying23 (hval 1 23 v1 rfl rfl); rfl
  obtain ⟨a1, k1⟩ := Abs.arg_one (reads_ints enc W) (fun _ => rfl) c1 h1 w1
  have w2 : ∀ n ∈ d2.weights Try.prog 23, n ≤ reachBytes := fun n hn => of_decide_eq_true (List.all_eq_true.1 hsz n (DataW.weights_mem_each (j := 2) rfl rfl n hn))
  have lt2 : ∀ x ∈ p2, x.block < W.heap.size := by obtain ⟨m, hm⟩ := h2; exact DataW.trod_lt m _ _ _ hm
  have c2 : v2.cells = #[v2] := by obtain ⟨a, len, cap, rfl⟩ := okWide_slice Try.underlying23 (hval 2 23 v2 rfl rfl); rfl
  obtain ⟨a2, k2⟩ := Abs.arg_one (reads_ints enc W) (fun _ => rfl) c2 h2 w2
  have hargsR : ∀ i, i < [rulesV a0, ints a1, ints a2].length → Rep W Noblk Mu.none ([rulesV a0, ints a1, ints a2].getD i .junk) ((#[v0, v1, v2] : Array Value).getD i undef) := by
    intro i hi
    match i, hi with
    | 0, _ => exact k0
    | 1, _ => exact k1
    | 2, _ => exact k2
  refine (Abs.CallP.calls (lawFeedFinds_c a0 a1 a2 (len_of_rules k0) (len_of_ints k1) (len_of_ints k2)) rfl hargsR).mono fun e W' ⟨he, bel⟩ => ?_
  subst he
  exact ⟨_, rfl, _, _, _, [], _, [], hW', trodAll_mk1 (shut_bool Try.underlying4 _), (trodAll_cons_mk (Below.trod laidOut (by kernel_rfl) (of_decide_eq_true (by kernel_rfl)) h0 bel lt0) (trodAll_cons_mk (Below.trod laidOut (by kernel_rfl) (of_decide_eq_true (by kernel_rfl)) h1 bel lt1) (trodAll_cons_mk (Below.trod laidOut (by kernel_rfl) (of_decide_eq_true (by kernel_rfl)) h2 bel lt2) trodAll_mk0))), rfl, bel.frame _, fun h => by cases h⟩
theorem feedFinds_k0 : (Rows.feedFindsRow.wf (OpenSpec.ofChange Rows.feedFindsSpec)) = true := by kernel_rfl
theorem feedFinds_k3 : (Try.f21.params.all (Try.pinned.checked.prog.readableRec ·)) = true := by kernel_rfl
theorem feedFinds_k4 : (namedTie Try.pinned.checked.prog Rows.feedFindsRow.named Rows.feedFindsSpec.vars) = true := by kernel_rfl
theorem feedFinds_k5 : ((Rows.feedFindsRow.stops == [])) = true := by kernel_rfl
theorem feedFinds_k7 : ((Rows.feedFindsRow.knobs == [])) = true := by kernel_rfl
theorem feedFinds_k9 : ((Rows.feedFindsRow.inPlace == Try.pinned.checked.prog.inPlace 21)) = true := by kernel_rfl
theorem feedFinds_k10 : ((Rows.feedFindsRow.unfollowed == Try.pinned.checked.prog.unfollowed 21)) = true := by kernel_rfl
theorem feedFinds_k11 : ((Rows.feedFindsRow.recurses == Try.pinned.checked.prog.recurses 21)) = true := by kernel_rfl
theorem feedFinds_k12 : ((Rows.feedFindsRow.named == Try.pinned.checked.prog.varsNamed 21)) = true := by kernel_rfl
theorem feedFinds_k13 : ((Rows.feedFindsRow.maps == (Try.f21.params.toList ++ Rows.feedFindsSpec.plain.varTypes Try.pinned.checked.prog).any (Try.pinned.checked.prog.mapsRec ·))) = true := by kernel_rfl
theorem feedFinds_k14 : ((Rows.feedFindsRow.ifaces == (Try.f21.params.toList ++ Rows.feedFindsSpec.plain.varTypes Try.pinned.checked.prog).any (Try.pinned.checked.prog.ifacesRec ·))) = true := by kernel_rfl
theorem feedFinds_k15 : ((Rows.feedFindsRow.mapsOut == Try.pinned.checked.prog.mapsAmong Try.f21.resultTypes.toList)) = true := by kernel_rfl
theorem feedFinds_k16 : ((Rows.feedFindsRow.loops == (Try.f21.params.toList ++ Rows.feedFindsSpec.plain.varTypes Try.pinned.checked.prog).any (Try.pinned.checked.prog.loopsFrom ·))) = true := by kernel_rfl
theorem feedFinds_k17 : ((Rows.feedFindsRow.wideKeys == (Try.f21.params.toList ++ Rows.feedFindsSpec.plain.varTypes Try.pinned.checked.prog ++ Try.f21.resultTypes.toList).any (Try.pinned.checked.prog.wideKeysFrom ·))) = true := by kernel_rfl
theorem feedFinds_k18 : (Rows.feedFindsSpec.vars.all (Try.pinned.checked.prog.varReadable ·)) = true := by kernel_rfl
theorem feedFinds_k19 : (Try.f21.resultTypes.all (fun t => Try.pinned.checked.prog.readableRec t && decide (t < Try.pinned.checked.prog.types.size))) = true := by kernel_rfl
theorem feedFinds_k20 : ((Rows.feedFindsRow.ifacesOut == Try.f21.resultTypes.toList.any (Try.pinned.checked.prog.ifacesRec ·))) = true := by kernel_rfl
theorem feedFinds_k21 : ((Rows.feedFindsRow.loopsOut == Try.f21.resultTypes.toList.any (Try.pinned.checked.prog.loopsFrom ·))) = true := by kernel_rfl
theorem feedFinds_k22 : ((Rows.feedFindsRow.plainKeys == Try.pinned.checked.prog.plainKeys)) = true := by kernel_rfl
theorem feedFinds_k23 : (Rows.feedFindsRow.shortTexts.isNone) = true := by kernel_rfl
theorem feedFinds_k26 : ((Rows.feedFindsRow.lifted == Try.pinned.checked.prog.liftsFinal)) = true := by rw [liftsFinal_no]; kernel_rfl
theorem feedFinds_k27 : ((Try.pinned.checked.prog.make == some Rows.feedFindsRow.make)) = true := by rw [make_cut]; kernel_rfl
theorem feedFinds_k28 : ((Rows.feedFindsRow.kinds == (if Rows.feedFindsRow.domain.isEmpty then [] else Try.f21.params.toList.map fun t => match Try.pinned.checked.prog.underlying t with | some (.int k) => some k | _ => none))) = true := by kernel_rfl
theorem feedFinds_k29 : ((Rows.feedFindsRow.pinned == Rows.feedFindsRow.pinnedBy)) = true := by kernel_rfl
theorem feedFinds_k30 : ((Rows.feedFindsRow.veiled == (Try.f21.params.toList ++ Rows.feedFindsSpec.plain.varTypes Try.pinned.checked.prog ++ Try.f21.resultTypes.toList).any (Try.pinned.checked.prog.veiledRec ·))) = true := by kernel_rfl
theorem feedFinds_k31 : (Rows.feedFindsRow.veiledFits Try.pinned.checked.prog Try.f21.params.toList (Try.f21.params.toList ++ Rows.feedFindsSpec.plain.varTypes Try.pinned.checked.prog ++ Try.f21.resultTypes.toList)) = true := by kernel_rfl

theorem feedFinds_proved : Rows.FeedFindsSaid :=
  OpenClaim.holds_of_wide 21 Try.f21 rfl rfl rfl rfl rfl rfl rfl ⟨rfl, rfl, rfl, rfl, rfl⟩ rfl rfl rfl rfl rfl (by kernel_rfl) Try.func21
    (joined_of feedFinds_k0 fact1 fact2 feedFinds_k3 feedFinds_k4 feedFinds_k5 fact6 feedFinds_k7 fact8 feedFinds_k9 feedFinds_k10 feedFinds_k11 feedFinds_k12 feedFinds_k13 feedFinds_k14 feedFinds_k15 feedFinds_k16 feedFinds_k17 feedFinds_k18 feedFinds_k19 feedFinds_k20 feedFinds_k21 feedFinds_k22 feedFinds_k23 fact24 mayEnter_yes feedFinds_k26 feedFinds_k27 feedFinds_k28 feedFinds_k29 feedFinds_k30 feedFinds_k31)
    (of_decide_eq_true (by kernel_rfl)) (by unfold Func.isWrapper; first | (rw [if_pos (by decide +kernel)]; kernel_rfl) | (rw [if_neg (by decide +kernel)]; exact ⟨rfl, rfl⟩))
    (fun os started H enc _ => feedFinds_lifted os started H enc)
#print axioms feedFinds_proved
end Go.Proofs.Ytaooenmkofjafaa
