/- Statement StemmaSides: for every input the law answers true, and each argument reads behind the call as it read before. -/
import Derived.Test.YtnpkaemlidifgaaV6
import Derived.Test.YtnpkaemlidifgaaV7
import Derived.OpenShut
set_option maxRecDepth 100000
set_option linter.unusedSimpArgs false
set_option linter.unusedVariables false
namespace Go.Proofs.Ytnpkaemlidifgaa
open Go.ChangeShapes Go.WideShapes Go.ChangeAt Go.RowKit
open Go.Abs (CallP Reads Rep Noblk Mu)

theorem stemmaSides_lifted (os : Os) (started : os.Started) (H : Type) (enc : TypeId × Value → H) :
    ReturnsInHanded {} Try.checked os 8 .any (Rows.stemmaSidesSpec.pre6 enc Try.prog Try.f8 Rows.stemmaSidesRow.domain false) (Rows.stemmaSidesSpec.post enc Try.prog Try.f8 false true false false) := by
  refine returnsInHanded_of_change_sized (C := Try.checked) own started (by kernel_rfl) Try.func8
    (ChangeSpec.witness6 (enc := enc) (C := Try.checked) false ⟨#[], #[.slice none 0 0, .int .i64 0, .int .i64 0], []⟩ 8 (by kernel_rfl) (by kernel_rfl) (by kernel_rfl) (by kernel_rfl)) ?_
  intro W base args ds gs before hval0 hW hcnd hsz0 _
  have hval : ∀ (j : Nat) t v, Try.f8.params[j]? = some t → args[j]? = some v → Value.okWide Try.prog W .any base t v := hval0
  have hsz : (DataW.weightsEach Try.prog (Try.f8.params.toList ++ Rows.stemmaSidesSpec.plain.varTypes Try.prog) (ds ++ gs)).all (· ≤ reachBytes) = true := hsz0
  clear hval0 hsz0
  have hW' := hW
  obtain ⟨p, q, hA0, hV, rfl, hfz, hnd⟩ := hW
  have hA : DataW.TrodAll enc Try.prog W 0 (fun _ => true) true Try.f8.params.toList args.toList ds p := hA0
  clear hA0
  rw [Try.params8] at hA hval hsz
  obtain ⟨v0, vs0, d0, ds0, p0, q0, hargs, rfl, rfl, h0, r0⟩ := trodAll_cons hA
  obtain ⟨v1, vs1, d1, ds1, p1, q1, rfl, rfl, rfl, h1, r1⟩ := trodAll_cons r0
  obtain ⟨v2, vs2, d2, ds2, p2, q2, rfl, rfl, rfl, h2, r2⟩ := trodAll_cons r1
  obtain ⟨rfl, rfl, rfl⟩ := trodAll_nil r2
  obtain rfl : args = #[v0, v1, v2] := by cases args; simp_all
  obtain ⟨rfl, rfl⟩ := trodVars_none hV
  have w0 : ∀ n ∈ d0.weights Try.prog 22, n ≤ reachBytes := fun n hn => of_decide_eq_true (List.all_eq_true.1 hsz n (DataW.weights_mem_each (j := 0) rfl rfl n hn))
  have lt0 : ∀ x ∈ p0, x.block < W.heap.size := by obtain ⟨m, hm⟩ := h0; exact DataW.trod_lt m _ _ _ hm
  have c0 : v0.cells = #[v0] := by obtain ⟨a, len, cap, rfl⟩ := okWide_slice Try.underlying22 (hval 0 22 v0 rfl rfl); rfl
  obtain ⟨a0, k0⟩ := Abs.arg_one (reads_rds enc W) (fun _ => rfl) c0 h0 w0
  have w1 : ∀ n ∈ d1.weights Try.prog 3, n ≤ reachBytes := fun n hn => of_decide_eq_true (List.all_eq_true.1 hsz n (DataW.weights_mem_each (j := 1) rfl rfl n hn))
  have lt1 : ∀ x ∈ p1, x.block < W.heap.size := by obtain ⟨m, hm⟩ := h1; exact DataW.trod_lt m _ _ _ hm
  have c1 : v1.cells = #[v1] := by obtain ⟨n, rfl⟩ := okWide_int Try.underlying3 (hval 1 3 v1 rfl rfl); rfl
  obtain ⟨a1, k1⟩ := Abs.arg_one (reads_i enc W) (fun _ => rfl) c1 h1 w1
  have w2 : ∀ n ∈ d2.weights Try.prog 3, n ≤ reachBytes := fun n hn => of_decide_eq_true (List.all_eq_true.1 hsz n (DataW.weights_mem_each (j := 2) rfl rfl n hn))
  have lt2 : ∀ x ∈ p2, x.block < W.heap.size := by obtain ⟨m, hm⟩ := h2; exact DataW.trod_lt m _ _ _ hm
  have c2 : v2.cells = #[v2] := by obtain ⟨n, rfl⟩ := okWide_int Try.underlying3 (hval 2 3 v2 rfl rfl); rfl
  obtain ⟨a2, k2⟩ := Abs.arg_one (reads_i enc W) (fun _ => rfl) c2 h2 w2
  have hargsR : ∀ i, i < [rdsV a0, iv a1, iv a2].length → Rep W Noblk Mu.none ([rdsV a0, iv a1, iv a2].getD i .junk) ((#[v0, v1, v2] : Array Value).getD i undef) := by
    intro i hi
    match i, hi with
    | 0, _ => exact k0
    | 1, _ => exact k1
    | 2, _ => exact k2
  refine (Abs.CallP.calls (lawStemmaSides_c a0 a1 a2 (len_of_rds k0)) rfl hargsR).mono fun e W' ⟨he, bel⟩ => ?_
  subst he
  exact ⟨_, rfl, _, _, _, [], _, [], hW', trodAll_mk1 (shut_bool Try.underlying4 _), (trodAll_cons_mk (Below.trod laidOut (by kernel_rfl) (of_decide_eq_true (by kernel_rfl)) h0 bel lt0) (trodAll_cons_mk (Below.trod laidOut (by kernel_rfl) (of_decide_eq_true (by kernel_rfl)) h1 bel lt1) (trodAll_cons_mk (Below.trod laidOut (by kernel_rfl) (of_decide_eq_true (by kernel_rfl)) h2 bel lt2) trodAll_mk0))), rfl, bel.frame _, fun h => by cases h⟩
theorem stemmaSides_k0 : (Rows.stemmaSidesRow.wf (OpenSpec.ofChange Rows.stemmaSidesSpec)) = true := by kernel_rfl
theorem stemmaSides_k3 : (Try.f8.params.all (Try.pinned.checked.prog.readableRec ·)) = true := by kernel_rfl
theorem stemmaSides_k4 : (namedTie Try.pinned.checked.prog Rows.stemmaSidesRow.named Rows.stemmaSidesSpec.vars) = true := by kernel_rfl
theorem stemmaSides_k5 : ((Rows.stemmaSidesRow.stops == [])) = true := by kernel_rfl
theorem stemmaSides_k7 : ((Rows.stemmaSidesRow.knobs == [])) = true := by kernel_rfl
theorem stemmaSides_k9 : ((Rows.stemmaSidesRow.inPlace == Try.pinned.checked.prog.inPlace 8)) = true := by kernel_rfl
theorem stemmaSides_k10 : ((Rows.stemmaSidesRow.unfollowed == Try.pinned.checked.prog.unfollowed 8)) = true := by kernel_rfl
theorem stemmaSides_k11 : ((Rows.stemmaSidesRow.recurses == Try.pinned.checked.prog.recurses 8)) = true := by kernel_rfl
theorem stemmaSides_k12 : ((Rows.stemmaSidesRow.named == Try.pinned.checked.prog.varsNamed 8)) = true := by kernel_rfl
theorem stemmaSides_k13 : ((Rows.stemmaSidesRow.maps == (Try.f8.params.toList ++ Rows.stemmaSidesSpec.plain.varTypes Try.pinned.checked.prog).any (Try.pinned.checked.prog.mapsRec ·))) = true := by kernel_rfl
theorem stemmaSides_k14 : ((Rows.stemmaSidesRow.ifaces == (Try.f8.params.toList ++ Rows.stemmaSidesSpec.plain.varTypes Try.pinned.checked.prog).any (Try.pinned.checked.prog.ifacesRec ·))) = true := by kernel_rfl
theorem stemmaSides_k15 : ((Rows.stemmaSidesRow.mapsOut == Try.pinned.checked.prog.mapsAmong Try.f8.resultTypes.toList)) = true := by kernel_rfl
theorem stemmaSides_k16 : ((Rows.stemmaSidesRow.loops == (Try.f8.params.toList ++ Rows.stemmaSidesSpec.plain.varTypes Try.pinned.checked.prog).any (Try.pinned.checked.prog.loopsFrom ·))) = true := by kernel_rfl
theorem stemmaSides_k17 : ((Rows.stemmaSidesRow.wideKeys == (Try.f8.params.toList ++ Rows.stemmaSidesSpec.plain.varTypes Try.pinned.checked.prog ++ Try.f8.resultTypes.toList).any (Try.pinned.checked.prog.wideKeysFrom ·))) = true := by kernel_rfl
theorem stemmaSides_k18 : (Rows.stemmaSidesSpec.vars.all (Try.pinned.checked.prog.varReadable ·)) = true := by kernel_rfl
theorem stemmaSides_k19 : (Try.f8.resultTypes.all (fun t => Try.pinned.checked.prog.readableRec t && decide (t < Try.pinned.checked.prog.types.size))) = true := by kernel_rfl
theorem stemmaSides_k20 : ((Rows.stemmaSidesRow.ifacesOut == Try.f8.resultTypes.toList.any (Try.pinned.checked.prog.ifacesRec ·))) = true := by kernel_rfl
theorem stemmaSides_k21 : ((Rows.stemmaSidesRow.loopsOut == Try.f8.resultTypes.toList.any (Try.pinned.checked.prog.loopsFrom ·))) = true := by kernel_rfl
theorem stemmaSides_k22 : ((Rows.stemmaSidesRow.plainKeys == Try.pinned.checked.prog.plainKeys)) = true := by kernel_rfl
theorem stemmaSides_k23 : (Rows.stemmaSidesRow.shortTexts.isNone) = true := by kernel_rfl
theorem stemmaSides_k26 : ((Rows.stemmaSidesRow.lifted == Try.pinned.checked.prog.liftsFinal)) = true := by rw [liftsFinal_no]; kernel_rfl
theorem stemmaSides_k27 : ((Try.pinned.checked.prog.make == some Rows.stemmaSidesRow.make)) = true := by rw [make_cut]; kernel_rfl
theorem stemmaSides_k28 : ((Rows.stemmaSidesRow.kinds == (if Rows.stemmaSidesRow.domain.isEmpty then [] else Try.f8.params.toList.map fun t => match Try.pinned.checked.prog.underlying t with | some (.int k) => some k | _ => none))) = true := by kernel_rfl
theorem stemmaSides_k29 : ((Rows.stemmaSidesRow.pinned == Rows.stemmaSidesRow.pinnedBy)) = true := by kernel_rfl
theorem stemmaSides_k30 : ((Rows.stemmaSidesRow.veiled == (Try.f8.params.toList ++ Rows.stemmaSidesSpec.plain.varTypes Try.pinned.checked.prog ++ Try.f8.resultTypes.toList).any (Try.pinned.checked.prog.veiledRec ·))) = true := by kernel_rfl
theorem stemmaSides_k31 : (Rows.stemmaSidesRow.veiledFits Try.pinned.checked.prog Try.f8.params.toList (Try.f8.params.toList ++ Rows.stemmaSidesSpec.plain.varTypes Try.pinned.checked.prog ++ Try.f8.resultTypes.toList)) = true := by kernel_rfl

theorem stemmaSides_proved : Rows.StemmaSidesSaid :=
  OpenClaim.holds_of_wide 8 Try.f8 rfl rfl rfl rfl rfl rfl rfl ⟨rfl, rfl, rfl, rfl, rfl⟩ rfl rfl rfl rfl rfl (by kernel_rfl) Try.func8
    (joined_of stemmaSides_k0 fact1 fact2 stemmaSides_k3 stemmaSides_k4 stemmaSides_k5 fact6 stemmaSides_k7 fact8 stemmaSides_k9 stemmaSides_k10 stemmaSides_k11 stemmaSides_k12 stemmaSides_k13 stemmaSides_k14 stemmaSides_k15 stemmaSides_k16 stemmaSides_k17 stemmaSides_k18 stemmaSides_k19 stemmaSides_k20 stemmaSides_k21 stemmaSides_k22 stemmaSides_k23 fact24 mayEnter_yes stemmaSides_k26 stemmaSides_k27 stemmaSides_k28 stemmaSides_k29 stemmaSides_k30 stemmaSides_k31)
    (of_decide_eq_true (by kernel_rfl)) (by unfold Func.isWrapper; first | (rw [if_pos (by decide +kernel)]; kernel_rfl) | (rw [if_neg (by decide +kernel)]; exact ⟨rfl, rfl⟩))
    (fun os started H enc _ => stemmaSides_lifted os started H enc)
#print axioms stemmaSides_proved
end Go.Proofs.Ytnpkaemlidifgaa
