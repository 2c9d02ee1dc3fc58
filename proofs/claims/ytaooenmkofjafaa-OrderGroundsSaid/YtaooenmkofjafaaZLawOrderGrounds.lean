/- Statement OrderGrounds: for every input the law answers true, and each argument reads behind the call as it read before. -/
import Derived.Test.YtaooenmkofjafaaV5
import Derived.Test.YtaooenmkofjafaaV6
import Derived.OpenShut
set_option maxRecDepth 100000
set_option linter.unusedSimpArgs false
set_option linter.unusedVariables false
namespace Go.Proofs.Ytaooenmkofjafaa
open Go.ChangeShapes Go.WideShapes Go.ChangeAt Go.RowKit
open Go.Abs (CallP Reads Rep Noblk Mu)

theorem orderGrounds_lifted (os : Os) (started : os.Started) (H : Type) (enc : TypeId × Value → H) :
    ReturnsInHanded {} Try.checked os 10 .any (Rows.orderGroundsSpec.pre6 enc Try.prog Try.f10 Rows.orderGroundsRow.domain false) (Rows.orderGroundsSpec.post enc Try.prog Try.f10 false true false false) := by
  refine returnsInHanded_of_change_sized (C := Try.checked) own started (by kernel_rfl) Try.func10
    (ChangeSpec.witness6 (enc := enc) (C := Try.checked) false ⟨#[], #[.slice none 0 0, .int .i64 0], []⟩ 8 (by kernel_rfl) (by kernel_rfl) (by kernel_rfl) (by kernel_rfl)) ?_
  intro W base args ds gs before hval0 hW hcnd hsz0 _
  have hval : ∀ (j : Nat) t v, Try.f10.params[j]? = some t → args[j]? = some v → Value.okWide Try.prog W .any base t v := hval0
  have hsz : (DataW.weightsEach Try.prog (Try.f10.params.toList ++ Rows.orderGroundsSpec.plain.varTypes Try.prog) (ds ++ gs)).all (· ≤ reachBytes) = true := hsz0
  clear hval0 hsz0
  have hW' := hW
  obtain ⟨p, q, hA0, hV, rfl, hfz, hnd⟩ := hW
  have hA : DataW.TrodAll enc Try.prog W 0 (fun _ => true) true Try.f10.params.toList args.toList ds p := hA0
  clear hA0
  rw [Try.params10] at hA hval hsz
  obtain ⟨v0, vs0, d0, ds0, p0, q0, hargs, rfl, rfl, h0, r0⟩ := trodAll_cons hA
  obtain ⟨v1, vs1, d1, ds1, p1, q1, rfl, rfl, rfl, h1, r1⟩ := trodAll_cons r0
  obtain ⟨rfl, rfl, rfl⟩ := trodAll_nil r1
  obtain rfl : args = #[v0, v1] := by cases args; simp_all
  obtain ⟨rfl, rfl⟩ := trodVars_none hV
  have w0 : ∀ n ∈ d0.weights Try.prog 23, n ≤ reachBytes := fun n hn => of_decide_eq_true (List.all_eq_true.1 hsz n (DataW.weights_mem_each (j := 0) rfl rfl n hn))
  have lt0 : ∀ x ∈ p0, x.block < W.heap.size := by obtain ⟨m, hm⟩ := h0; exact DataW.trod_lt m _ _ _ hm
  have c0 : v0.cells = #[v0] := by obtain ⟨a, len, cap, rfl⟩ := okWide_slice Try.underlying23 (hval 0 23 v0 rfl rfl); rfl
  obtain ⟨a0, k0⟩ := Abs.arg_one (reads_ints enc W) (fun _ => rfl) c0 h0 w0
  have w1 : ∀ n ∈ d1.weights Try.prog 3, n ≤ reachBytes := fun n hn => of_decide_eq_true (List.all_eq_true.1 hsz n (DataW.weights_mem_each (j := 1) rfl rfl n hn))
  have lt1 : ∀ x ∈ p1, x.block < W.heap.size := by obtain ⟨m, hm⟩ := h1; exact DataW.trod_lt m _ _ _ hm
  have c1 : v1.cells = #[v1] := by obtain ⟨n, rfl⟩ := okWide_int Try.underlying3 (hval 1 3 v1 rfl rfl); rfl
  obtain ⟨a1, k1⟩ := Abs.arg_one (reads_i enc W) (fun _ => rfl) c1 h1 w1
  have hargsR : ∀ i, i < [ints a0, iv a1].length → Rep W Noblk Mu.none ([ints a0, iv a1].getD i .junk) ((#[v0, v1] : Array Value).getD i undef) := by
    intro i hi
    match i, hi with
    | 0, _ => exact k0
    | 1, _ => exact k1
  refine (Abs.CallP.calls (lawOrderGrounds_c a0 a1 (len_of_ints k0)) rfl hargsR).mono fun e W' ⟨he, bel⟩ => ?_
  subst he
  exact ⟨_, rfl, _, _, _, [], _, [], hW', trodAll_mk1 (shut_bool Try.underlying4 _), (trodAll_cons_mk (Below.trod laidOut (by kernel_rfl) (of_decide_eq_true (by kernel_rfl)) h0 bel lt0) (trodAll_cons_mk (Below.trod laidOut (by kernel_rfl) (of_decide_eq_true (by kernel_rfl)) h1 bel lt1) trodAll_mk0)), rfl, bel.frame _, fun h => by cases h⟩
theorem orderGrounds_k0 : (Rows.orderGroundsRow.wf (OpenSpec.ofChange Rows.orderGroundsSpec)) = true := by kernel_rfl
theorem orderGrounds_k3 : (Try.f10.params.all (Try.pinned.checked.prog.readableRec ·)) = true := by kernel_rfl
theorem orderGrounds_k4 : (namedTie Try.pinned.checked.prog Rows.orderGroundsRow.named Rows.orderGroundsSpec.vars) = true := by kernel_rfl
theorem orderGrounds_k5 : ((Rows.orderGroundsRow.stops == [])) = true := by kernel_rfl
theorem orderGrounds_k7 : ((Rows.orderGroundsRow.knobs == [])) = true := by kernel_rfl
theorem orderGrounds_k9 : ((Rows.orderGroundsRow.inPlace == Try.pinned.checked.prog.inPlace 10)) = true := by kernel_rfl
theorem orderGrounds_k10 : ((Rows.orderGroundsRow.unfollowed == Try.pinned.checked.prog.unfollowed 10)) = true := by kernel_rfl
theorem orderGrounds_k11 : ((Rows.orderGroundsRow.recurses == Try.pinned.checked.prog.recurses 10)) = true := by kernel_rfl
theorem orderGrounds_k12 : ((Rows.orderGroundsRow.named == Try.pinned.checked.prog.varsNamed 10)) = true := by kernel_rfl
theorem orderGrounds_k13 : ((Rows.orderGroundsRow.maps == (Try.f10.params.toList ++ Rows.orderGroundsSpec.plain.varTypes Try.pinned.checked.prog).any (Try.pinned.checked.prog.mapsRec ·))) = true := by kernel_rfl
theorem orderGrounds_k14 : ((Rows.orderGroundsRow.ifaces == (Try.f10.params.toList ++ Rows.orderGroundsSpec.plain.varTypes Try.pinned.checked.prog).any (Try.pinned.checked.prog.ifacesRec ·))) = true := by kernel_rfl
theorem orderGrounds_k15 : ((Rows.orderGroundsRow.mapsOut == Try.pinned.checked.prog.mapsAmong Try.f10.resultTypes.toList)) = true := by kernel_rfl
theorem orderGrounds_k16 : ((Rows.orderGroundsRow.loops == (Try.f10.params.toList ++ Rows.orderGroundsSpec.plain.varTypes Try.pinned.checked.prog).any (Try.pinned.checked.prog.loopsFrom ·))) = true := by kernel_rfl
theorem orderGrounds_k17 : ((Rows.orderGroundsRow.wideKeys == (Try.f10.params.toList ++ Rows.orderGroundsSpec.plain.varTypes Try.pinned.checked.prog ++ Try.f10.resultTypes.toList).any (Try.pinned.checked.prog.wideKeysFrom ·))) = true := by kernel_rfl
theorem orderGrounds_k18 : (Rows.orderGroundsSpec.vars.all (Try.pinned.checked.prog.varReadable ·)) = true := by kernel_rfl
theorem orderGrounds_k19 : (Try.f10.resultTypes.all (fun t => Try.pinned.checked.prog.readableRec t && decide (t < Try.pinned.checked.prog.types.size))) = true := by kernel_rfl
theorem orderGrounds_k20 : ((Rows.orderGroundsRow.ifacesOut == Try.f10.resultTypes.toList.any (Try.pinned.checked.prog.ifacesRec ·))) = true := by kernel_rfl
theorem orderGrounds_k21 : ((Rows.orderGroundsRow.loopsOut == Try.f10.resultTypes.toList.any (Try.pinned.checked.prog.loopsFrom ·))) = true := by kernel_rfl
theorem orderGrounds_k22 : ((Rows.orderGroundsRow.plainKeys == Try.pinned.checked.prog.plainKeys)) = true := by kernel_rfl
theorem orderGrounds_k23 : (Rows.orderGroundsRow.shortTexts.isNone) = true := by kernel_rfl
theorem orderGrounds_k26 : ((Rows.orderGroundsRow.lifted == Try.pinned.checked.prog.liftsFinal)) = true := by rw [liftsFinal_no]; kernel_rfl
theorem orderGrounds_k27 : ((Try.pinned.checked.prog.make == some Rows.orderGroundsRow.make)) = true := by rw [make_cut]; kernel_rfl
theorem orderGrounds_k28 : ((Rows.orderGroundsRow.kinds == (if Rows.orderGroundsRow.domain.isEmpty then [] else Try.f10.params.toList.map fun t => match Try.pinned.checked.prog.underlying t with | some (.int k) => some k | _ => none))) = true := by kernel_rfl
theorem orderGrounds_k29 : ((Rows.orderGroundsRow.pinned == Rows.orderGroundsRow.pinnedBy)) = true := by kernel_rfl
theorem orderGrounds_k30 : ((Rows.orderGroundsRow.veiled == (Try.f10.params.toList ++ Rows.orderGroundsSpec.plain.varTypes Try.pinned.checked.prog ++ Try.f10.resultTypes.toList).any (Try.pinned.checked.prog.veiledRec ·))) = true := by kernel_rfl
theorem orderGrounds_k31 : (Rows.orderGroundsRow.veiledFits Try.pinned.checked.prog Try.f10.params.toList (Try.f10.params.toList ++ Rows.orderGroundsSpec.plain.varTypes Try.pinned.checked.prog ++ Try.f10.resultTypes.toList)) = true := by kernel_rfl

theorem orderGrounds_proved : Rows.OrderGroundsSaid :=
  OpenClaim.holds_of_wide 10 Try.f10 rfl rfl rfl rfl rfl rfl rfl ⟨rfl, rfl, rfl, rfl, rfl⟩ rfl rfl rfl rfl rfl (by kernel_rfl) Try.func10
    (joined_of orderGrounds_k0 fact1 fact2 orderGrounds_k3 orderGrounds_k4 orderGrounds_k5 fact6 orderGrounds_k7 fact8 orderGrounds_k9 orderGrounds_k10 orderGrounds_k11 orderGrounds_k12 orderGrounds_k13 orderGrounds_k14 orderGrounds_k15 orderGrounds_k16 orderGrounds_k17 orderGrounds_k18 orderGrounds_k19 orderGrounds_k20 orderGrounds_k21 orderGrounds_k22 orderGrounds_k23 fact24 mayEnter_yes orderGrounds_k26 orderGrounds_k27 orderGrounds_k28 orderGrounds_k29 orderGrounds_k30 orderGrounds_k31)
    (of_decide_eq_true (by kernel_rfl)) (by unfold Func.isWrapper; first | (rw [if_pos (by decide +kernel)]; kernel_rfl) | (rw [if_neg (by decide +kernel)]; exact ⟨rfl, rfl⟩))
    (fun os started H enc _ => orderGrounds_lifted os started H enc)
#print axioms orderGrounds_proved
end Go.Proofs.Ytaooenmkofjafaa
