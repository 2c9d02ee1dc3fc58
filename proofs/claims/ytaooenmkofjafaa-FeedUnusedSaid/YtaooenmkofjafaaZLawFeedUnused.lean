/- Statement FeedUnused: for every input the law answers true, and each argument reads behind the call as it read before. -/
import Derived.Test.YtaooenmkofjafaaV7
import Derived.Test.YtaooenmkofjafaaV6
import Derived.OpenShut
set_option maxRecDepth 100000
set_option linter.unusedSimpArgs false
set_option linter.unusedVariables false
namespace Go.Proofs.Ytaooenmkofjafaa
open Go.ChangeShapes Go.WideShapes Go.ChangeAt Go.RowKit
open Go.Abs (CallP Reads Rep Noblk Mu)

theorem feedUnused_lifted (os : Os) (started : os.Started) (H : Type) (enc : TypeId × Value → H) :
    ReturnsInHanded {} Try.checked os 24 .any (Rows.feedUnusedSpec.pre6 enc Try.prog Try.f24 Rows.feedUnusedRow.domain false) (Rows.feedUnusedSpec.post enc Try.prog Try.f24 false true false false) := by
  refine returnsInHanded_of_change_sized (C := Try.checked) own started (by kernel_rfl) Try.func24
    (ChangeSpec.witness6 (enc := enc) (C := Try.checked) false ⟨#[], #[.slice none 0 0, .slice none 0 0, .int .i64 0], []⟩ 8 (by kernel_rfl) (by kernel_rfl) (by kernel_rfl) (by kernel_rfl)) ?_
  intro W base args ds gs before hval0 hW hcnd hsz0 _
  have hval : ∀ (j : Nat) t v, Try.f24.params[j]? = some t → args[j]? = some v → Value.okWide Try.prog W .any base t v := hval0
  have hsz : (DataW.weightsEach Try.prog (Try.f24.params.toList ++ Rows.feedUnusedSpec.plain.varTypes Try.prog) (ds ++ gs)).all (· ≤ reachBytes) = true := hsz0
  clear hval0 hsz0
  have hW' := hW
  obtain ⟨p, q, hA0, hV, rfl, hfz, hnd⟩ := hW
  have hA : DataW.TrodAll enc Try.prog W 0 (fun _ => true) true Try.f24.params.toList args.toList ds p := hA0
  clear hA0
  rw [Try.params24] at hA hval hsz
  obtain ⟨v0, vs0, d0, ds0, p0, q0, hargs, rfl, rfl, h0, r0⟩ := trodAll_cons hA
  obtain ⟨v1, vs1, d1, ds1, p1, q1, rfl, rfl, rfl, h1, r1⟩ := trodAll_cons r0
  obtain ⟨v2, vs2, d2, ds2, p2, q2, rfl, rfl, rfl, h2, r2⟩ := trodAll_cons r1
  obtain ⟨rfl, rfl, rfl⟩ := trodAll_nil r2
  obtain rfl : args = #[v0, v1, v2] := by cases args; simp_all
  obtain ⟨rfl, rfl⟩ := trodVars_none hV
  have w0 : ∀ n ∈ d0.weights Try.prog 22, n ≤ reachBytes := fun n hn => of_decide_eq_true (List.all_eq_true.1 hsz n (DataW.weights_mem_each (j := 0) rfl rfl n hn))
  have lt0 : ∀ x ∈ p0, x.block < W.heap.size := by obtain ⟨m, hm⟩ := h0; exact DataW.trod_lt m _ _ _ hm
  have c0 : v0.cells = #[v0] := by obtain ⟨a, len, cap, rfl⟩ := okWide_slice Try.underlying22 (hval 0 22 v0 rfl rfl); rfl
  obtain ⟨a0, k0⟩ := Abs.arg_one (reads_rules enc W) (fun _ => rfl) c0 h0 w0
  have w1 : ∀ n ∈ d1.weights Try.prog 23, n ≤ reachBytes := fun n hn => of_decide_eq_true (List.all_eq_true.1 hsz n (DataW.weights_mem_each (j := 1) rfl rfl n hn))
  have lt1 : ∀ x ∈ p1, x.block < W.heap.size := by obtain ⟨m, hm⟩ := h1; exact DataW.trod_lt m _ _ _ hm
  have c1 : v1.cells = #[v1] := by obtain ⟨a, len, cap, rfl⟩ := okWide_slice Try.underlying23 (hval 1 23 v1 rfl rfl); rfl
  obtain ⟨a1, k1⟩ := Abs.arg_one (reads_ints enc W) (fun _ => rfl) c1 h1 w1
  have w2 : ∀ n ∈ d2.weights Try.prog 3, n ≤ reachBytes := fun n hn => of_decide_eq_true (List.all_eq_true.1 hsz n (DataW.weights_mem_each (j := 2) rfl rfl n hn))
  have lt2 : ∀ x ∈ p2, x.block < W.heap.size := by obtain ⟨m, hm⟩ := h2; exact DataW.trod_lt m _ _ _ hm
  have c2 : v2.cells = #[v2] := by obtain ⟨n, rfl⟩ := okWide_int Try.underlying3 (hval 2 3 v2 rfl rfl); rfl
  obtain ⟨a2, k2⟩ := Abs.arg_one (reads_i enc W) (fun _ => rfl) c2 h2 w2
  have hargsR : ∀ i, i < [rulesV a0, ints a1, iv a2].length → Rep W Noblk Mu.none ([rulesV a0, ints a1, iv a2].getD i .junk) ((#[v0, v1, v2] : Array Value).getD i undef) := by
    intro i hi
    match i, hi with
    | 0, _ => exact k0
    | 1, _ => exact k1
    | 2, _ => exact k2
  refine (Abs.CallP.calls (lawFeedUnused_c a0 a1 a2 (len_of_rules k0) (len_of_ints k1)) rfl hargsR).mono fun e W' ⟨he, bel⟩ => ?_
  subst he
  exact ⟨_, rfl, _, _, _, [], _, [], hW', trodAll_mk1 (shut_bool Try.underlying4 _), (trodAll_cons_mk (Below.trod laidOut (by kernel_rfl) (of_decide_eq_true (by kernel_rfl)) h0 bel lt0) (trodAll_cons_mk (Below.trod laidOut (by kernel_rfl) (of_decide_eq_true (by kernel_rfl)) h1 bel lt1) (trodAll_cons_mk (Below.trod laidOut (by kernel_rfl) (of_decide_eq_true (by kernel_rfl)) h2 bel lt2) trodAll_mk0))), rfl, bel.frame _, fun h => by cases h⟩
theorem feedUnused_k0 : (Rows.feedUnusedRow.wf (OpenSpec.ofChange Rows.feedUnusedSpec)) = true := by kernel_rfl
theorem feedUnused_k3 : (Try.f24.params.all (Try.pinned.checked.prog.readableRec ·)) = true := by kernel_rfl
theorem feedUnused_k4 : (namedTie Try.pinned.checked.prog Rows.feedUnusedRow.named Rows.feedUnusedSpec.vars) = true := by kernel_rfl
theorem feedUnused_k5 : ((Rows.feedUnusedRow.stops == [])) = true := by kernel_rfl
theorem feedUnused_k7 : ((Rows.feedUnusedRow.knobs == [])) = true := by kernel_rfl
theorem feedUnused_k9 : ((Rows.feedUnusedRow.inPlace == Try.pinned.checked.prog.inPlace 24)) = true := by kernel_rfl
theorem feedUnused_k10 : ((Rows.feedUnusedRow.unfollowed == Try.pinned.checked.prog.unfollowed 24)) = true := by kernel_rfl
theorem feedUnused_k11 : ((Rows.feedUnusedRow.recurses == Try.pinned.checked.prog.recurses 24)) = true := by kernel_rfl
theorem feedUnused_k12 : ((Rows.feedUnusedRow.named == Try.pinned.checked.prog.varsNamed 24)) = true := by kernel_rfl
theorem feedUnused_k13 : ((Rows.feedUnusedRow.maps == (Try.f24.params.toList ++ Rows.feedUnusedSpec.plain.varTypes Try.pinned.checked.prog).any (Try.pinned.checked.prog.mapsRec ·))) = true := by kernel_rfl
theorem feedUnused_k14 : ((Rows.feedUnusedRow.ifaces == (Try.f24.params.toList ++ Rows.feedUnusedSpec.plain.varTypes Try.pinned.checked.prog).any (Try.pinned.checked.prog.ifacesRec ·))) = true := by kernel_rfl
theorem feedUnused_k15 : ((Rows.feedUnusedRow.mapsOut == Try.pinned.checked.prog.mapsAmong Try.f24.resultTypes.toList)) = true := by kernel_rfl
theorem feedUnused_k16 : ((Rows.feedUnusedRow.loops == (Try.f24.params.toList ++ Rows.feedUnusedSpec.plain.varTypes Try.pinned.checked.prog).any (Try.pinned.checked.prog.loopsFrom ·))) = true := by kernel_rfl
theorem feedUnused_k17 : ((Rows.feedUnusedRow.wideKeys == (Try.f24.params.toList ++ Rows.feedUnusedSpec.plain.varTypes Try.pinned.checked.prog ++ Try.f24.resultTypes.toList).any (Try.pinned.checked.prog.wideKeysFrom ·))) = true := by kernel_rfl
theorem feedUnused_k18 : (Rows.feedUnusedSpec.vars.all (Try.pinned.checked.prog.varReadable ·)) = true := by kernel_rfl
theorem feedUnused_k19 : (Try.f24.resultTypes.all (fun t => Try.pinned.checked.prog.readableRec t && decide (t < Try.pinned.checked.prog.types.size))) = true := by kernel_rfl
theorem feedUnused_k20 : ((Rows.feedUnusedRow.ifacesOut == Try.f24.resultTypes.toList.any (Try.pinned.checked.prog.ifacesRec ·))) = true := by kernel_rfl
theorem feedUnused_k21 : ((Rows.feedUnusedRow.loopsOut == Try.f24.resultTypes.toList.any (Try.pinned.checked.prog.loopsFrom ·))) = true := by kernel_rfl
theorem feedUnused_k22 : ((Rows.feedUnusedRow.plainKeys == Try.pinned.checked.prog.plainKeys)) = true := by kernel_rfl
theorem feedUnused_k23 : (Rows.feedUnusedRow.shortTexts.isNone) = true := by kernel_rfl
theorem feedUnused_k26 : ((Rows.feedUnusedRow.lifted == Try.pinned.checked.prog.liftsFinal)) = true := by rw [liftsFinal_no]; kernel_rfl
theorem feedUnused_k27 : ((Try.pinned.checked.prog.make == some Rows.feedUnusedRow.make)) = true := by rw [make_cut]; kernel_rfl
theorem feedUnused_k28 : ((Rows.feedUnusedRow.kinds == (if Rows.feedUnusedRow.domain.isEmpty then [] else Try.f24.params.toList.map fun t => match Try.pinned.checked.prog.underlying t with | some (.int k) => some k | _ => none))) = true := by kernel_rfl
theorem feedUnused_k29 : ((Rows.feedUnusedRow.pinned == Rows.feedUnusedRow.pinnedBy)) = true := by kernel_rfl
theorem feedUnused_k30 : ((Rows.feedUnusedRow.veiled == (Try.f24.params.toList ++ Rows.feedUnusedSpec.plain.varTypes Try.pinned.checked.prog ++ Try.f24.resultTypes.toList).any (Try.pinned.checked.prog.veiledRec ·))) = true := by kernel_rfl
theorem feedUnused_k31 : (Rows.feedUnusedRow.veiledFits Try.pinned.checked.prog Try.f24.params.toList (Try.f24.params.toList ++ Rows.feedUnusedSpec.plain.varTypes Try.pinned.checked.prog ++ Try.f24.resultTypes.toList)) = true := by kernel_rfl

theorem feedUnused_proved : Rows.FeedUnusedSaid :=
  OpenClaim.holds_of_wide 24 Try.f24 rfl rfl rfl rfl rfl rfl rfl ⟨rfl, rfl, rfl, rfl, rfl⟩ rfl rfl rfl rfl rfl (by kernel_rfl) Try.func24
    (joined_of feedUnused_k0 fact1 fact2 feedUnused_k3 feedUnused_k4 feedUnused_k5 fact6 feedUnused_k7 fact8 feedUnused_k9 feedUnused_k10 feedUnused_k11 feedUnused_k12 feedUnused_k13 feedUnused_k14 feedUnused_k15 feedUnused_k16 feedUnused_k17 feedUnused_k18 feedUnused_k19 feedUnused_k20 feedUnused_k21 feedUnused_k22 feedUnused_k23 fact24 mayEnter_yes feedUnused_k26 feedUnused_k27 feedUnused_k28 feedUnused_k29 feedUnused_k30 feedUnused_k31)
    (of_decide_eq_true (by kernel_rfl)) (by unfold Func.isWrapper; first | (rw [if_pos (by decide +kernel)]; kernel_rfl) | (rw [if_neg (by decide +kernel)]; exact ⟨rfl, rfl⟩))
    (fun os started H enc _ => feedUnused_lifted os started H enc)
#print axioms feedUnused_proved
end Go.Proofs.Ytaooenmkofjafaa
