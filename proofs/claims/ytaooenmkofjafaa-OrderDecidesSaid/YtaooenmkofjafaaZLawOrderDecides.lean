/- Statement OrderDecides: for every input the law answers true, and each argument reads behind the call as it read before. -/
import Derived.Test.YtaooenmkofjafaaV7
import Derived.OpenShut
set_option maxRecDepth 100000
set_option linter.unusedSimpArgs false
set_option linter.unusedVariables false
namespace Go.Proofs.Ytaooenmkofjafaa
open Go.ChangeShapes Go.WideShapes Go.ChangeAt Go.RowKit
open Go.Abs (CallP Reads Rep Noblk Mu)

theorem orderDecides_lifted (os : Os) (started : os.Started) (H : Type) (enc : TypeId × Value → H) :
    ReturnsInHanded {} Try.checked os 8 .any (Rows.orderDecidesSpec.pre6 enc Try.prog Try.f8 Rows.orderDecidesRow.domain false) (Rows.orderDecidesSpec.post enc Try.prog Try.f8 false true false false) := by
  refine returnsInHanded_of_change_sized (C := Try.checked) own started (by kernel_rfl) Try.func8
    (ChangeSpec.witness6 (enc := enc) (C := Try.checked) false ⟨#[], #[.agg #[.slice none 0 0, .slice none 0 0, .slice none 0 0], .agg #[.int .i64 0, .int .i64 0, .int .i64 0, .int .i64 0], .int .i64 0], []⟩ 8 (by kernel_rfl) (by kernel_rfl) (by kernel_rfl) (by kernel_rfl)) ?_
  intro W base args ds gs before hval0 hW hcnd hsz0 _
  have hval : ∀ (j : Nat) t v, Try.f8.params[j]? = some t → args[j]? = some v → Value.okWide Try.prog W .any base t v := hval0
  have hsz : (DataW.weightsEach Try.prog (Try.f8.params.toList ++ Rows.orderDecidesSpec.plain.varTypes Try.prog) (ds ++ gs)).all (· ≤ reachBytes) = true := hsz0
  clear hval0 hsz0
  have hW' := hW
  obtain ⟨p, q, hA0, hV, rfl, hfz, hnd⟩ := hW
  have hA : DataW.TrodAll enc Try.prog W 0 (fun _ => true) true Try.f8.params.toList args.toList ds p := hA0
  clear hA0
  rw [Try.params8] at hA hval hsz
  obtain ⟨v0, vs0, d0, ds0, p0, q0, hargs, rfl, rfl, h0, r0⟩ := trodAll_cons hA
  obtain ⟨v1, vs1, d1, ds1, p1, q1, rfl, rfl, rfl, h1, r1⟩ := trodAll_cons r0
  obtain ⟨v2, vs2, d2, ds2, p2, q2, rfl, rfl, rfl, h2, r2⟩ := trodAll_cons r1
  obtain ⟨rfl, rfl, rfl⟩ := trodAll_nil r2
  obtain rfl : args = #[v0, v1, v2] := by cases args; simp_all
  obtain ⟨rfl, rfl⟩ := trodVars_none hV
  have w0 : ∀ n ∈ d0.weights Try.prog 25, n ≤ reachBytes := fun n hn => of_decide_eq_true (List.all_eq_true.1 hsz n (DataW.weights_mem_each (j := 0) rfl rfl n hn))
  have lt0 : ∀ x ∈ p0, x.block < W.heap.size := by obtain ⟨m, hm⟩ := h0; exact DataW.trod_lt m _ _ _ hm
  obtain ⟨a0, k0⟩ := Abs.arg_agg Try.underlying25 (reads_case enc W) (fun _ => ⟨_, rfl⟩) (hval 0 25 v0 rfl rfl) h0 w0
  have w1 : ∀ n ∈ d1.weights Try.prog 48, n ≤ reachBytes := fun n hn => of_decide_eq_true (List.all_eq_true.1 hsz n (DataW.weights_mem_each (j := 1) rfl rfl n hn))
  have lt1 : ∀ x ∈ p1, x.block < W.heap.size := by obtain ⟨m, hm⟩ := h1; exact DataW.trod_lt m _ _ _ hm
  obtain ⟨a1, k1⟩ := Abs.arg_agg Try.underlying48 (reads_two enc W) (fun _ => ⟨_, rfl⟩) (hval 1 48 v1 rfl rfl) h1 w1
  have w2 : ∀ n ∈ d2.weights Try.prog 3, n ≤ reachBytes := fun n hn => of_decide_eq_true (List.all_eq_true.1 hsz n (DataW.weights_mem_each (j := 2) rfl rfl n hn))
  have lt2 : ∀ x ∈ p2, x.block < W.heap.size := by obtain ⟨m, hm⟩ := h2; exact DataW.trod_lt m _ _ _ hm
  have c2 : v2.cells = #[v2] := by obtain ⟨n, rfl⟩ := okWide_int Try.underlying3 (hval 2 3 v2 rfl rfl); rfl
  obtain ⟨a2, k2⟩ := Abs.arg_one (reads_i enc W) (fun _ => rfl) c2 h2 w2
  have hargsR : ∀ i, i < [caseV a0, twoV a1, iv a2].length → Rep W Noblk Mu.none ([caseV a0, twoV a1, iv a2].getD i .junk) ((#[v0, v1, v2] : Array Value).getD i undef) := by
    intro i hi
    match i, hi with
    | 0, _ => exact k0
    | 1, _ => exact k1
    | 2, _ => exact k2
  refine (Abs.CallP.calls (lawOrderDecides_c a0 a1 a2 (len_of_case k0)) rfl hargsR).mono fun e W' ⟨he, bel⟩ => ?_
  subst he
  exact ⟨_, rfl, _, _, _, [], _, [], hW', trodAll_mk1 (shut_bool Try.underlying4 _), (trodAll_cons_mk (Below.trod laidOut (by kernel_rfl) (of_decide_eq_true (by kernel_rfl)) h0 bel lt0) (trodAll_cons_mk (Below.trod laidOut (by kernel_rfl) (of_decide_eq_true (by kernel_rfl)) h1 bel lt1) (trodAll_cons_mk (Below.trod laidOut (by kernel_rfl) (of_decide_eq_true (by kernel_rfl)) h2 bel lt2) trodAll_mk0))), rfl, bel.frame _, fun h => by cases h⟩
theorem orderDecides_k0 : (Rows.orderDecidesRow.wf (OpenSpec.ofChange Rows.orderDecidesSpec)) = true := by kernel_rfl
theorem orderDecides_k3 : (Try.f8.params.all (Try.pinned.checked.prog.readableRec ·)) = true := by kernel_rfl
theorem orderDecides_k4 : (namedTie Try.pinned.checked.prog Rows.orderDecidesRow.named Rows.orderDecidesSpec.vars) = true := by kernel_rfl
theorem orderDecides_k5 : ((Rows.orderDecidesRow.stops == [])) = true := by kernel_rfl
theorem orderDecides_k7 : ((Rows.orderDecidesRow.knobs == [])) = true := by kernel_rfl
theorem orderDecides_k9 : ((Rows.orderDecidesRow.inPlace == Try.pinned.checked.prog.inPlace 8)) = true := by kernel_rfl
theorem orderDecides_k10 : ((Rows.orderDecidesRow.unfollowed == Try.pinned.checked.prog.unfollowed 8)) = true := by kernel_rfl
theorem orderDecides_k11 : ((Rows.orderDecidesRow.recurses == Try.pinned.checked.prog.recurses 8)) = true := by kernel_rfl
theorem orderDecides_k12 : ((Rows.orderDecidesRow.named == Try.pinned.checked.prog.varsNamed 8)) = true := by kernel_rfl
theorem orderDecides_k13 : ((Rows.orderDecidesRow.maps == (Try.f8.params.toList ++ Rows.orderDecidesSpec.plain.varTypes Try.pinned.checked.prog).any (Try.pinned.checked.prog.mapsRec ·))) = true := by kernel_rfl
theorem orderDecides_k14 : ((Rows.orderDecidesRow.ifaces == (Try.f8.params.toList ++ Rows.orderDecidesSpec.plain.varTypes Try.pinned.checked.prog).any (Try.pinned.checked.prog.ifacesRec ·))) = true := by kernel_rfl
theorem orderDecides_k15 : ((Rows.orderDecidesRow.mapsOut == Try.pinned.checked.prog.mapsAmong Try.f8.resultTypes.toList)) = true := by kernel_rfl
theorem orderDecides_k16 : ((Rows.orderDecidesRow.loops == (Try.f8.params.toList ++ Rows.orderDecidesSpec.plain.varTypes Try.pinned.checked.prog).any (Try.pinned.checked.prog.loopsFrom ·))) = true := by kernel_rfl
theorem orderDecides_k17 : ((Rows.orderDecidesRow.wideKeys == (Try.f8.params.toList ++ Rows.orderDecidesSpec.plain.varTypes Try.pinned.checked.prog ++ Try.f8.resultTypes.toList).any (Try.pinned.checked.prog.wideKeysFrom ·))) = true := by kernel_rfl
theorem orderDecides_k18 : (Rows.orderDecidesSpec.vars.all (Try.pinned.checked.prog.varReadable ·)) = true := by kernel_rfl
theorem orderDecides_k19 : (Try.f8.resultTypes.all (fun t => Try.pinned.checked.prog.readableRec t && decide (t < Try.pinned.checked.prog.types.size))) = true := by kernel_rfl
theorem orderDecides_k20 : ((Rows.orderDecidesRow.ifacesOut == Try.f8.resultTypes.toList.any (Try.pinned.checked.prog.ifacesRec ·))) = true := by kernel_rfl
theorem orderDecides_k21 : ((Rows.orderDecidesRow.loopsOut == Try.f8.resultTypes.toList.any (Try.pinned.checked.prog.loopsFrom ·))) = true := by kernel_rfl
theorem orderDecides_k22 : ((Rows.orderDecidesRow.plainKeys == Try.pinned.checked.prog.plainKeys)) = true := by kernel_rfl
theorem orderDecides_k23 : (Rows.orderDecidesRow.shortTexts.isNone) = true := by kernel_rfl
theorem orderDecides_k26 : ((Rows.orderDecidesRow.lifted == Try.pinned.checked.prog.liftsFinal)) = true := by rw [liftsFinal_no]; kernel_rfl
theorem orderDecides_k27 : ((Try.pinned.checked.prog.make == some Rows.orderDecidesRow.make)) = true := by rw [make_cut]; kernel_rfl
theorem orderDecides_k28 : ((Rows.orderDecidesRow.kinds == (if Rows.orderDecidesRow.domain.isEmpty then [] else Try.f8.params.toList.map fun t => match Try.pinned.checked.prog.underlying t with | some (.int k) => some k | _ => none))) = true := by kernel_rfl
theorem orderDecides_k29 : ((Rows.orderDecidesRow.pinned == Rows.orderDecidesRow.pinnedBy)) = true := by kernel_rfl
theorem orderDecides_k30 : ((Rows.orderDecidesRow.veiled == (Try.f8.params.toList ++ Rows.orderDecidesSpec.plain.varTypes Try.pinned.checked.prog ++ Try.f8.resultTypes.toList).any (Try.pinned.checked.prog.veiledRec ·))) = true := by kernel_rfl
theorem orderDecides_k31 : (Rows.orderDecidesRow.veiledFits Try.pinned.checked.prog Try.f8.params.toList (Try.f8.params.toList ++ Rows.orderDecidesSpec.plain.varTypes Try.pinned.checked.prog ++ Try.f8.resultTypes.toList)) = true := by kernel_rfl

theorem orderDecides_proved : Rows.OrderDecidesSaid :=
  OpenClaim.holds_of_wide 8 Try.f8 rfl rfl rfl rfl rfl rfl rfl ⟨rfl, rfl, rfl, rfl, rfl⟩ rfl rfl rfl rfl rfl (by kernel_rfl) Try.func8
    (joined_of orderDecides_k0 fact1 fact2 orderDecides_k3 orderDecides_k4 orderDecides_k5 fact6 orderDecides_k7 fact8 orderDecides_k9 orderDecides_k10 orderDecides_k11 orderDecides_k12 orderDecides_k13 orderDecides_k14 orderDecides_k15 orderDecides_k16 orderDecides_k17 orderDecides_k18 orderDecides_k19 orderDecides_k20 orderDecides_k21 orderDecides_k22 orderDecides_k23 fact24 mayEnter_yes orderDecides_k26 orderDecides_k27 orderDecides_k28 orderDecides_k29 orderDecides_k30 orderDecides_k31)
    (of_decide_eq_true (by kernel_rfl)) (by unfold Func.isWrapper; first | (rw [if_pos (by decide +kernel)]; kernel_rfl) | (rw [if_neg (by decide +kernel)]; exact ⟨rfl, rfl⟩))
    (fun os started H enc _ => orderDecides_lifted os started H enc)
#print axioms orderDecides_proved
end Go.Proofs.Ytaooenmkofjafaa
