/- Statement TopFeeds: for every input the law answers true, and each argument reads behind the call as it read before. -/
import Derived.Test.YtkhddecnllcaiaaV11
import Derived.Test.YtkhddecnllcaiaaV10
import Derived.OpenShut
set_option maxRecDepth 100000
set_option linter.unusedSimpArgs false
set_option linter.unusedVariables false
namespace Go.Proofs.Ytkhddecnllcaiaa
open Go.ChangeShapes Go.WideShapes Go.ChangeAt Go.RowKit
open Go.Abs (CallP Reads Rep Noblk Mu)

theorem topFeeds_lifted (os : Os) (started : os.Started) (H : Type) (enc : TypeId × Value → H) :
    ReturnsInHanded {} Try.checked os 4 .any (Rows.topFeedsSpec.pre6 enc Try.prog Try.f4 Rows.topFeedsRow.domain false) (Rows.topFeedsSpec.post enc Try.prog Try.f4 false true false false) := by
  refine returnsInHanded_of_change_sized (C := Try.checked) own started (by kernel_rfl) Try.func4
    (ChangeSpec.witness6 (enc := enc) (C := Try.checked) false ⟨#[], #[.slice none 0 0, .slice none 0 0, .int .i64 0], []⟩ 8 (by kernel_rfl) (by kernel_rfl) (by kernel_rfl) (by kernel_rfl)) ?_
  intro W base args ds gs before hval0 hW hcnd hsz0 _
  have hval : ∀ (j : Nat) t v, Try.f4.params[j]? = some t → args[j]? = some v → Value.okWide Try.prog W .any base t v := hval0
  have hsz : (DataW.weightsEach Try.prog (Try.f4.params.toList ++ Rows.topFeedsSpec.plain.varTypes Try.prog) (ds ++ gs)).all (· ≤ reachBytes) = true := hsz0
  clear hval0 hsz0
  have hW' := hW
  obtain ⟨p, q, hA0, hV, rfl, hfz, hnd⟩ := hW
  have hA : DataW.TrodAll enc Try.prog W 0 (fun _ => true) true Try.f4.params.toList args.toList ds p := hA0
  clear hA0
  rw [Try.params4] at hA hval hsz
  obtain ⟨v0, vs0, d0, ds0, p0, q0, hargs, rfl, rfl, h0, r0⟩ := trodAll_cons hA
  obtain ⟨v1, vs1, d1, ds1, p1, q1, rfl, rfl, rfl, h1, r1⟩ := trodAll_cons r0
  obtain ⟨v2, vs2, d2, ds2, p2, q2, rfl, rfl, rfl, h2, r2⟩ := trodAll_cons r1
  obtain ⟨rfl, rfl, rfl⟩ := trodAll_nil r2
  obtain rfl : args = #[v0, v1, v2] := by cases args; simp_all
  obtain ⟨rfl, rfl⟩ := trodVars_none hV
  have w0 : ∀ n ∈ d0.weights Try.prog 41, n ≤ reachBytes := fun n hn => of_decide_eq_true (List.all_eq_true.1 hsz n (DataW.weights_mem_each (j := 0) rfl rfl n hn))
  have lt0 : ∀ x ∈ p0, x.block < W.heap.size := by obtain ⟨m, hm⟩ := h0; exact DataW.trod_lt m _ _ _ hm
  have c0 : v0.cells = #[v0] := by obtain ⟨a, len, cap, rfl⟩ := okWide_slice Try.underlying41 (hval 0 41 v0 rfl rfl); rfl
  obtain ⟨a0, k0⟩ := Abs.arg_one (reads_rules enc W) (fun _ => rfl) c0 h0 w0
  have w1 : ∀ n ∈ d1.weights Try.prog 22, n ≤ reachBytes := fun n hn => of_decide_eq_true (List.all_eq_true.1 hsz n (DataW.weights_mem_each (j := 1) rfl rfl n hn))
  have lt1 : ∀ x ∈ p1, x.block < W.heap.size := by obtain ⟨m, hm⟩ := h1; exact DataW.trod_lt m _ _ _ hm
  have c1 : v1.cells = #[v1] := by obtain ⟨a, len, cap, rfl⟩ := okWide_slice Try.underlying22 (hval 1 22 v1 rfl rfl); rfl
  obtain ⟨a1, k1⟩ := Abs.arg_one (reads_ints enc W) (fun _ => rfl) c1 h1 w1
  have w2 : ∀ n ∈ d2.weights Try.prog 3, n ≤ reachBytes := fun n hn => of_decide_eq_true (List.all_eq_true.1 hsz n (DataW.weights_mem_each (j := 2) rfl rfl n hn))
  have lt2 : ∀ x ∈ p2, x.block < W.heap.size := by obtain ⟨m, hm⟩ := h2; exact DataW.trod_lt m _ _ _ hm
  have c2 : v2.cells = #[v2] := by obtain ⟨n, rfl⟩ := okWide_int Try.underlying3 (hval 2 3 v2 rfl rfl); rfl
  obtain ⟨a2, k2⟩ := Abs.arg_one (reads_i enc W) (fun _ => rfl) c2 h2 w2
  have hargsR : ∀ i, i < [rulesV a0, ints a1, iv a2].length → Rep W Noblk Mu.none ([rulesV a0, ints a1, iv a2].getD i .junk) ((#[v0, v1, v2] : Array Value).getD i undef) := by
    intro i hi
    match i, hi with
    | 0, _ => exact k0
    | 1, _ => exact k1
    | 2, _ => exact k2
  refine (Abs.CallP.calls (topFeeds_c a0 a1 a2 (len_of_rules k0) (len_of_ints k1)) rfl hargsR).mono fun e W' ⟨he, bel⟩ => ?_
  subst he
  exact ⟨_, rfl, _, _, _, [], _, [], hW', trodAll_mk1 (shut_bool Try.underlying4 _), (trodAll_cons_mk (Below.trod laidOut (by kernel_rfl) (of_decide_eq_true (by kernel_rfl)) h0 bel lt0) (trodAll_cons_mk (Below.trod laidOut (by kernel_rfl) (of_decide_eq_true (by kernel_rfl)) h1 bel lt1) (trodAll_cons_mk (Below.trod laidOut (by kernel_rfl) (of_decide_eq_true (by kernel_rfl)) h2 bel lt2) trodAll_mk0))), rfl, bel.frame _, fun h => by cases h⟩
theorem topFeeds_k0 : (Rows.topFeedsRow.wf (OpenSpec.ofChange Rows.topFeedsSpec)) = true := by kernel_rfl
theorem topFeeds_k3 : (Try.f4.params.all (Try.pinned.checked.prog.readableRec ·)) = true := by kernel_rfl
theorem topFeeds_k4 : (namedTie Try.pinned.checked.prog Rows.topFeedsRow.named Rows.topFeedsSpec.vars) = true := by kernel_rfl
theorem topFeeds_k5 : ((Rows.topFeedsRow.stops == [])) = true := by kernel_rfl
theorem topFeeds_k7 : ((Rows.topFeedsRow.knobs == [])) = true := by kernel_rfl
theorem topFeeds_k9 : ((Rows.topFeedsRow.inPlace == Try.pinned.checked.prog.inPlace 4)) = true := by kernel_rfl
theorem topFeeds_k10 : ((Rows.topFeedsRow.unfollowed == Try.pinned.checked.prog.unfollowed 4)) = true := by kernel_rfl
theorem topFeeds_k11 : ((Rows.topFeedsRow.recurses == Try.pinned.checked.prog.recurses 4)) = true := by kernel_rfl
theorem topFeeds_k12 : ((Rows.topFeedsRow.named == Try.pinned.checked.prog.varsNamed 4)) = true := by kernel_rfl
theorem topFeeds_k13 : ((Rows.topFeedsRow.maps == (Try.f4.params.toList ++ Rows.topFeedsSpec.plain.varTypes Try.pinned.checked.prog).any (Try.pinned.checked.prog.mapsRec ·))) = true := by kernel_rfl
theorem topFeeds_k14 : ((Rows.topFeedsRow.ifaces == (Try.f4.params.toList ++ Rows.topFeedsSpec.plain.varTypes Try.pinned.checked.prog).any (Try.pinned.checked.prog.ifacesRec ·))) = true := by kernel_rfl
theorem topFeeds_k15 : ((Rows.topFeedsRow.mapsOut == Try.pinned.checked.prog.mapsAmong Try.f4.resultTypes.toList)) = true := by kernel_rfl
theorem topFeeds_k16 : ((Rows.topFeedsRow.loops == (Try.f4.params.toList ++ Rows.topFeedsSpec.plain.varTypes Try.pinned.checked.prog).any (Try.pinned.checked.prog.loopsFrom ·))) = true := by kernel_rfl
theorem topFeeds_k17 : ((Rows.topFeedsRow.wideKeys == (Try.f4.params.toList ++ Rows.topFeedsSpec.plain.varTypes Try.pinned.checked.prog ++ Try.f4.resultTypes.toList).any (Try.pinned.checked.prog.wideKeysFrom ·))) = true := by kernel_rfl
theorem topFeeds_k18 : (Rows.topFeedsSpec.vars.all (Try.pinned.checked.prog.varReadable ·)) = true := by kernel_rfl
theorem topFeeds_k19 : (Try.f4.resultTypes.all (fun t => Try.pinned.checked.prog.readableRec t && decide (t < Try.pinned.checked.prog.types.size))) = true := by kernel_rfl
theorem topFeeds_k20 : ((Rows.topFeedsRow.ifacesOut == Try.f4.resultTypes.toList.any (Try.pinned.checked.prog.ifacesRec ·))) = true := by kernel_rfl
theorem topFeeds_k21 : ((Rows.topFeedsRow.loopsOut == Try.f4.resultTypes.toList.any (Try.pinned.checked.prog.loopsFrom ·))) = true := by kernel_rfl
theorem topFeeds_k22 : ((Rows.topFeedsRow.plainKeys == Try.pinned.checked.prog.plainKeys)) = true := by kernel_rfl
theorem topFeeds_k23 : (Rows.topFeedsRow.shortTexts.isNone) = true := by kernel_rfl
theorem topFeeds_k26 : ((Rows.topFeedsRow.lifted == Try.pinned.checked.prog.liftsFinal)) = true := by rw [liftsFinal_no]; kernel_rfl
theorem topFeeds_k27 : ((Try.pinned.checked.prog.make == some Rows.topFeedsRow.make)) = true := by rw [make_cut]; kernel_rfl
theorem topFeeds_k28 : ((Rows.topFeedsRow.kinds == (if Rows.topFeedsRow.domain.isEmpty then [] else Try.f4.params.toList.map fun t => match Try.pinned.checked.prog.underlying t with | some (.int k) => some k | _ => none))) = true := by kernel_rfl
theorem topFeeds_k29 : ((Rows.topFeedsRow.pinned == Rows.topFeedsRow.pinnedBy)) = true := by kernel_rfl
theorem topFeeds_k30 : ((Rows.topFeedsRow.veiled == (Try.f4.params.toList ++ Rows.topFeedsSpec.plain.varTypes Try.pinned.checked.prog ++ Try.f4.resultTypes.toList).any (Try.pinned.checked.prog.veiledRec ·))) = true := by kernel_rfl
theorem topFeeds_k31 : (Rows.topFeedsRow.veiledFits Try.pinned.checked.prog Try.f4.params.toList (Try.f4.params.toList ++ Rows.topFeedsSpec.plain.varTypes Try.pinned.checked.prog ++ Try.f4.resultTypes.toList)) = true := by kernel_rfl

theorem topFeeds_proved : Rows.TopFeedsSaid :=
  OpenClaim.holds_of_wide 4 Try.f4 rfl rfl rfl rfl rfl rfl rfl ⟨rfl, rfl, rfl, rfl, rfl⟩ rfl rfl rfl rfl rfl (by kernel_rfl) Try.func4
    (joined_of topFeeds_k0 fact1 fact2 topFeeds_k3 topFeeds_k4 topFeeds_k5 fact6 topFeeds_k7 fact8 topFeeds_k9 topFeeds_k10 topFeeds_k11 topFeeds_k12 topFeeds_k13 topFeeds_k14 topFeeds_k15 topFeeds_k16 topFeeds_k17 topFeeds_k18 topFeeds_k19 topFeeds_k20 topFeeds_k21 topFeeds_k22 topFeeds_k23 fact24 mayEnter_yes topFeeds_k26 topFeeds_k27 topFeeds_k28 topFeeds_k29 topFeeds_k30 topFeeds_k31)
    (of_decide_eq_true (by kernel_rfl)) (by unfold Func.isWrapper; first | (rw [if_pos (by decide +kernel)]; kernel_rfl) | (rw [if_neg (by decide +kernel)]; exact ⟨rfl, rfl⟩))
    (fun os started H enc _ => topFeeds_lifted os started H enc)
#print axioms topFeeds_proved
end Go.Proofs.Ytkhddecnllcaiaa
