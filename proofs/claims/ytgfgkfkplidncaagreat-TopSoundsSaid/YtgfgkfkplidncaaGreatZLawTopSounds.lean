/- Statement TopSounds: for every input the law answers true, and each argument reads behind the call as it read before. -/
import Derived.Test.YtgfgkfkplidncaaGreatV4
import Derived.Test.YtgfgkfkplidncaaGreatV5
import Derived.OpenShut
set_option maxRecDepth 100000
set_option linter.unusedSimpArgs false
set_option linter.unusedVariables false
namespace Go.Proofs.YtgfgkfkplidncaaGreat
open Go.ChangeShapes Go.WideShapes Go.ChangeAt Go.RowKit
open Go.Abs (CallP Reads Rep Noblk Mu)

theorem topSounds_lifted (os : Os) (started : os.Started) (H : Type) (enc : TypeId × Value → H) :
    ReturnsInHanded {} Tryz.checked os 10 .any (Rows.topSoundsSpec.pre6 enc Tryz.prog Tryz.f10 Rows.topSoundsRow.domain false) (Rows.topSoundsSpec.post enc Tryz.prog Tryz.f10 false true false false) := by
  refine returnsInHanded_of_change_sized (C := Tryz.checked) own started (by kernel_rfl) Tryz.func10
    (ChangeSpec.witness6 (enc := enc) (C := Tryz.checked) false ⟨#[], #[.int .i64 0, .slice none 0 0, .slice none 0 0], []⟩ 8 (by kernel_rfl) (by kernel_rfl) (by kernel_rfl) (by kernel_rfl)) ?_
  intro W base args ds gs before hval0 hW hcnd hsz0 _
  have hval : ∀ (j : Nat) t v, Tryz.f10.params[j]? = some t → args[j]? = some v → Value.okWide Tryz.prog W .any base t v := hval0
  have hsz : (DataW.weightsEach Tryz.prog (Tryz.f10.params.toList ++ Rows.topSoundsSpec.plain.varTypes Tryz.prog) (ds ++ gs)).all (· ≤ reachBytes) = true := hsz0
  clear hval0 hsz0
  have hW' := hW
  obtain ⟨p, q, hA0, hV, rfl, hfz, hnd⟩ := hW
  have hA : DataW.TrodAll enc Tryz.prog W 0 (fun _ => true) true Tryz.f10.params.toList args.toList ds p := hA0
  clear hA0
  rw [Tryz.params10] at hA hval hsz
  obtain ⟨v0, vs0, d0, ds0, p0, q0, hargs, rfl, rfl, h0, r0⟩ := trodAll_cons hA
  obtain ⟨v1, vs1, d1, ds1, p1, q1, rfl, rfl, rfl, h1, r1⟩ := trodAll_cons r0
  obtain ⟨v2, vs2, d2, ds2, p2, q2, rfl, rfl, rfl, h2, r2⟩ := trodAll_cons r1
  obtain ⟨rfl, rfl, rfl⟩ := trodAll_nil r2
  obtain rfl : args = #[v0, v1, v2] := by cases args; simp_all
  obtain ⟨rfl, rfl⟩ := trodVars_none hV
  have w0 : ∀ n ∈ d0.weights Tryz.prog 3, n ≤ reachBytes := fun n hn => of_decide_eq_true (List.all_eq_true.1 hsz n (DataW.weights_mem_each (j := 0) rfl rfl n hn))
  have lt0 : ∀ x ∈ p0, x.block < W.heap.size := by obtain ⟨m, hm⟩ := h0; exact DataW.trod_lt m _ _ _ hm
  have c0 : v0.cells = #[v0] := by obtain ⟨n, rfl⟩ := okWide_int Tryz.underlying3 (hval 0 3 v0 rfl rfl); rfl
  obtain ⟨a0, k0⟩ := Abs.arg_one (reads_i enc W) (fun _ => rfl) c0 h0 w0
  have w1 : ∀ n ∈ d1.weights Tryz.prog 22, n ≤ reachBytes := fun n hn => of_decide_eq_true (List.all_eq_true.1 hsz n (DataW.weights_mem_each (j := 1) rfl rfl n hn))
  have lt1 : ∀ x ∈ p1, x.block < W.heap.size := by obtain ⟨m, hm⟩ := h1; exact DataW.trod_lt m _ _ _ hm
  have c1 : v1.cells = #[v1] := by obtain ⟨a, len, cap, rfl⟩ := okWide_slice Tryz.underlying22 (hval 1 22 v1 rfl rfl); rfl
  obtain ⟨a1, k1⟩ := Abs.arg_one (reads_tab enc W) (fun _ => rfl) c1 h1 w1
  have w2 : ∀ n ∈ d2.weights Tryz.prog 23, n ≤ reachBytes := fun n hn => of_decide_eq_true (List.all_eq_true.1 hsz n (DataW.weights_mem_each (j := 2) rfl rfl n hn))
  have lt2 : ∀ x ∈ p2, x.block < W.heap.size := by obtain ⟨m, hm⟩ := h2; exact DataW.trod_lt m _ _ _ hm
  have c2 : v2.cells = #[v2] := by obtain ⟨a, len, cap, rfl⟩ := okWide_slice Tryz.underlying23 (hval 2 23 v2 rfl rfl); rfl
  obtain ⟨a2, k2⟩ := Abs.arg_one (reads_ints enc W) (fun _ => rfl) c2 h2 w2
  have hargsR : ∀ i, i < [iv a0, tabV a1, ints a2].length → Rep W Noblk Mu.none ([iv a0, tabV a1, ints a2].getD i .junk) ((#[v0, v1, v2] : Array Value).getD i undef) := by
    intro i hi
    match i, hi with
    | 0, _ => exact k0
    | 1, _ => exact k1
    | 2, _ => exact k2
  refine (Abs.CallP.calls (lawTopSounds_c a0 a1 a2 (len_of_tab k1) (len_of_ints k2)) rfl hargsR).mono fun e W' ⟨he, bel⟩ => ?_
  subst he
  exact ⟨_, rfl, _, _, _, [], _, [], hW', trodAll_mk1 (shut_bool Tryz.underlying4 _), (trodAll_cons_mk (Below.trod laidOut (by kernel_rfl) (of_decide_eq_true (by kernel_rfl)) h0 bel lt0) (trodAll_cons_mk (Below.trod laidOut (by kernel_rfl) (of_decide_eq_true (by kernel_rfl)) h1 bel lt1) (trodAll_cons_mk (Below.trod laidOut (by kernel_rfl) (of_decide_eq_true (by kernel_rfl)) h2 bel lt2) trodAll_mk0))), rfl, bel.frame _, fun h => by cases h⟩
theorem topSounds_k0 : (Rows.topSoundsRow.wf (OpenSpec.ofChange Rows.topSoundsSpec)) = true := by kernel_rfl
theorem topSounds_k3 : (Tryz.f10.params.all (Tryz.pinned.checked.prog.readableRec ·)) = true := by kernel_rfl
theorem topSounds_k4 : (namedTie Tryz.pinned.checked.prog Rows.topSoundsRow.named Rows.topSoundsSpec.vars) = true := by kernel_rfl
theorem topSounds_k5 : ((Rows.topSoundsRow.stops == [])) = true := by kernel_rfl
theorem topSounds_k7 : ((Rows.topSoundsRow.knobs == [])) = true := by kernel_rfl
theorem topSounds_k9 : ((Rows.topSoundsRow.inPlace == Tryz.pinned.checked.prog.inPlace 10)) = true := by kernel_rfl
theorem topSounds_k10 : ((Rows.topSoundsRow.unfollowed == Tryz.pinned.checked.prog.unfollowed 10)) = true := by kernel_rfl
theorem topSounds_k11 : ((Rows.topSoundsRow.recurses == Tryz.pinned.checked.prog.recurses 10)) = true := by kernel_rfl
theorem topSounds_k12 : ((Rows.topSoundsRow.named == Tryz.pinned.checked.prog.varsNamed 10)) = true := by kernel_rfl
theorem topSounds_k13 : ((Rows.topSoundsRow.maps == (Tryz.f10.params.toList ++ Rows.topSoundsSpec.plain.varTypes Tryz.pinned.checked.prog).any (Tryz.pinned.checked.prog.mapsRec ·))) = true := by kernel_rfl
theorem topSounds_k14 : ((Rows.topSoundsRow.ifaces == (Tryz.f10.params.toList ++ Rows.topSoundsSpec.plain.varTypes Tryz.pinned.checked.prog).any (Tryz.pinned.checked.prog.ifacesRec ·))) = true := by kernel_rfl
theorem topSounds_k15 : ((Rows.topSoundsRow.mapsOut == Tryz.pinned.checked.prog.mapsAmong Tryz.f10.resultTypes.toList)) = true := by kernel_rfl
theorem topSounds_k16 : ((Rows.topSoundsRow.loops == (Tryz.f10.params.toList ++ Rows.topSoundsSpec.plain.varTypes Tryz.pinned.checked.prog).any (Tryz.pinned.checked.prog.loopsFrom ·))) = true := by kernel_rfl
theorem topSounds_k17 : ((Rows.topSoundsRow.wideKeys == (Tryz.f10.params.toList ++ Rows.topSoundsSpec.plain.varTypes Tryz.pinned.checked.prog ++ Tryz.f10.resultTypes.toList).any (Tryz.pinned.checked.prog.wideKeysFrom ·))) = true := by kernel_rfl
theorem topSounds_k18 : (Rows.topSoundsSpec.vars.all (Tryz.pinned.checked.prog.varReadable ·)) = true := by kernel_rfl
theorem topSounds_k19 : (Tryz.f10.resultTypes.all (fun t => Tryz.pinned.checked.prog.readableRec t && decide (t < Tryz.pinned.checked.prog.types.size))) = true := by kernel_rfl
theorem topSounds_k20 : ((Rows.topSoundsRow.ifacesOut == Tryz.f10.resultTypes.toList.any (Tryz.pinned.checked.prog.ifacesRec ·))) = true := by kernel_rfl
theorem topSounds_k21 : ((Rows.topSoundsRow.loopsOut == Tryz.f10.resultTypes.toList.any (Tryz.pinned.checked.prog.loopsFrom ·))) = true := by kernel_rfl
theorem topSounds_k22 : ((Rows.topSoundsRow.plainKeys == Tryz.pinned.checked.prog.plainKeys)) = true := by kernel_rfl
theorem topSounds_k23 : (Rows.topSoundsRow.shortTexts.isNone) = true := by kernel_rfl
theorem topSounds_k26 : ((Rows.topSoundsRow.lifted == Tryz.pinned.checked.prog.liftsFinal)) = true := by rw [liftsFinal_no]; kernel_rfl
theorem topSounds_k27 : ((Tryz.pinned.checked.prog.make == some Rows.topSoundsRow.make)) = true := by rw [make_cut]; kernel_rfl
theorem topSounds_k28 : ((Rows.topSoundsRow.kinds == (if Rows.topSoundsRow.domain.isEmpty then [] else Tryz.f10.params.toList.map fun t => match Tryz.pinned.checked.prog.underlying t with | some (.int k) => some k | _ => none))) = true := by kernel_rfl
theorem topSounds_k29 : ((Rows.topSoundsRow.pinned == Rows.topSoundsRow.pinnedBy)) = true := by kernel_rfl
theorem topSounds_k30 : ((Rows.topSoundsRow.veiled == (Tryz.f10.params.toList ++ Rows.topSoundsSpec.plain.varTypes Tryz.pinned.checked.prog ++ Tryz.f10.resultTypes.toList).any (Tryz.pinned.checked.prog.veiledRec ·))) = true := by kernel_rfl
theorem topSounds_k31 : (Rows.topSoundsRow.veiledFits Tryz.pinned.checked.prog Tryz.f10.params.toList (Tryz.f10.params.toList ++ Rows.topSoundsSpec.plain.varTypes Tryz.pinned.checked.prog ++ Tryz.f10.resultTypes.toList)) = true := by kernel_rfl

theorem topSounds_proved : Rows.TopSoundsSaid :=
  OpenClaim.holds_of_wide 10 Tryz.f10 rfl rfl rfl rfl rfl rfl rfl ⟨rfl, rfl, rfl, rfl, rfl⟩ rfl rfl rfl rfl rfl (by kernel_rfl) Tryz.func10
    (joined_of topSounds_k0 fact1 fact2 topSounds_k3 topSounds_k4 topSounds_k5 fact6 topSounds_k7 fact8 topSounds_k9 topSounds_k10 topSounds_k11 topSounds_k12 topSounds_k13 topSounds_k14 topSounds_k15 topSounds_k16 topSounds_k17 topSounds_k18 topSounds_k19 topSounds_k20 topSounds_k21 topSounds_k22 topSounds_k23 fact24 mayEnter_yes topSounds_k26 topSounds_k27 topSounds_k28 topSounds_k29 topSounds_k30 topSounds_k31)
    (of_decide_eq_true (by kernel_rfl)) (by unfold Func.isWrapper; first | (rw [if_pos (by decide +kernel)]; kernel_rfl) | (rw [if_neg (by decide +kernel)]; exact ⟨rfl, rfl⟩))
    (fun os started H enc _ => topSounds_lifted os started H enc)
#print axioms topSounds_proved
end Go.Proofs.YtgfgkfkplidncaaGreat
