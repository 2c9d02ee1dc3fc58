/- Part 4 of the proof: the value layer and the contracts of the functions that the statement reaches; proved without conditions beyond those each theorem states. -/
import Derived.OrdersIn
import Derived.OwnWalkIn
import Derived.RangeFuncLeaves
import Derived.RangeFuncRecord
import Derived.RangeFuncSeq
import Derived.Test.YtkhddecnllcaiaaV3
set_option linter.unusedSimpArgs false
set_option linter.unusedVariables false

section
/- The value layer, part 25: how a proof steps through code (rules for simp). -/
namespace Go.Abs

section
variable {P : Program} {T : TT} {O : List Nat} {Q : AExit → St → Prop} {s : St}
@[simp] theorem PreK_true {K : Prop} : PreK True K = K := by simp [PreK]
@[simp] theorem vc_skip : vc P T O .skip Q s = Q .normal s := Eq.trans rfl rfl
@[simp] theorem vc_reg {gs : List Nat} {ops : List AOper} : vc P T O (.reg gs ops) Q s = frzs gs (vcOps P T O ops (Q .normal)) s := Eq.trans rfl rfl
@[simp] theorem vc_draw {gs : List Nat} {ops : List AOper} {pairs : List (Nat × Nat)} : vc P T O (.draw gs ops pairs) Q s = frzs gs (vcDraw P T O ops (fun acc s' => PreK (apartAll acc pairs = true) (Q .normal s')) []) s := Eq.trans rfl rfl
@[simp] theorem vc_seq {a b : ACode} : vc P T O (.seq a b) Q s = vc P T O a (thenQ (vc P T O b Q) Q) s := Eq.trans rfl rfl
@[simp] theorem vc_cond {c : Operand} {a b : ACode} : vc P T O (.cond c a b) Q s = CondK (ev s.env c) (vc P T O a Q s) (vc P T O b Q s) := Eq.trans rfl rfl
@[simp] theorem vc_block {i : Nat} {b : ACode} : vc P T O (.block i b) Q s = vc P T O b (blockQ i Q) s := Eq.trans rfl rfl
@[simp] theorem vc_loop {b : ACode} : vc P T O (.loop b) Q s = LoopK (vc P T O b) Q s := Eq.trans rfl rfl
@[simp] theorem vc_exit {i : Nat} : vc P T O (.exit i) Q s = Q (.exit i) s := Eq.trans rfl rfl
@[simp] theorem vc_ret : vc P T O .ret Q s = Q .ret s := Eq.trans rfl rfl
@[simp] theorem thenQ_normal {K : St → Prop} : thenQ K Q .normal s = K s := Eq.trans rfl rfl
@[simp] theorem thenQ_exit {K : St → Prop} {i : Nat} : thenQ K Q (.exit i) s = Q (.exit i) s := Eq.trans rfl rfl
@[simp] theorem thenQ_ret {K : St → Prop} : thenQ K Q .ret s = Q .ret s := Eq.trans rfl rfl
@[simp] theorem blockQ_normal {i : Nat} : blockQ i Q .normal s = Q .normal s := Eq.trans rfl rfl
@[simp] theorem blockQ_exit {i j : Nat} : blockQ i Q (.exit j) s = if j = i then Q .normal s else Q (.exit j) s := Eq.trans rfl rfl
@[simp] theorem blockQ_ret {i : Nat} : blockQ i Q .ret s = Q .ret s := Eq.trans rfl rfl
@[simp] theorem vcOps_nil {K : St → Prop} : vcOps P T O [] K s = K s := Eq.trans rfl rfl
@[simp] theorem isCall_move (x : Operand) : isCall (.move x) = none := Eq.trans rfl rfl
@[simp] theorem isNilCmp_move (x : Operand) : isNilCmp (.move x) = none := Eq.trans rfl rfl
@[simp] theorem isCall_assign (x : Operand) : isCall (.assign x) = none := Eq.trans rfl rfl
@[simp] theorem isNilCmp_assign (x : Operand) : isNilCmp (.assign x) = none := Eq.trans rfl rfl
@[simp] theorem isCall_pick (c a b : Operand) : isCall (.pick c a b) = none := Eq.trans rfl rfl
@[simp] theorem isNilCmp_pick (c a b : Operand) : isNilCmp (.pick c a b) = none := Eq.trans rfl rfl
@[simp] theorem isCall_alloc (t : Nat) : isCall (.alloc t) = none := Eq.trans rfl rfl
@[simp] theorem isNilCmp_alloc (t : Nat) : isNilCmp (.alloc t) = none := Eq.trans rfl rfl
@[simp] theorem isCall_box (t : Nat) (x : Operand) : isCall (.box t x) = none := Eq.trans rfl rfl
@[simp] theorem isNilCmp_box (t : Nat) (x : Operand) : isNilCmp (.box t x) = none := Eq.trans rfl rfl
@[simp] theorem isCall_build (t : Nat) (p : Array (Nat × Operand)) : isCall (.build t p) = none := Eq.trans rfl rfl
@[simp] theorem isNilCmp_build (t : Nat) (p : Array (Nat × Operand)) : isNilCmp (.build t p) = none := Eq.trans rfl rfl
@[simp] theorem isCall_buildSlice (t n : Nat) (p : Array (Nat × Operand)) : isCall (.buildSlice t n p) = none := Eq.trans rfl rfl
@[simp] theorem isNilCmp_buildSlice (t n : Nat) (p : Array (Nat × Operand)) : isNilCmp (.buildSlice t n p) = none := Eq.trans rfl rfl
@[simp] theorem isCall_load (t : Nat) (x : Operand) : isCall (.load t x) = none := Eq.trans rfl rfl
@[simp] theorem isNilCmp_load (t : Nat) (x : Operand) : isNilCmp (.load t x) = none := Eq.trans rfl rfl
@[simp] theorem isCall_store (t : Nat) (x y : Operand) : isCall (.store t x y) = none := Eq.trans rfl rfl
@[simp] theorem isNilCmp_store (t : Nat) (x y : Operand) : isNilCmp (.store t x y) = none := Eq.trans rfl rfl
@[simp] theorem isCall_nilCheck (x : Operand) : isCall (.nilCheck x) = none := Eq.trans rfl rfl
@[simp] theorem isNilCmp_nilCheck (x : Operand) : isNilCmp (.nilCheck x) = none := Eq.trans rfl rfl
@[simp] theorem isCall_unOp (o : UnOp) (t : Nat) (x : Operand) : isCall (.unOp o t x) = none := Eq.trans rfl rfl
@[simp] theorem isNilCmp_unOp (o : UnOp) (t : Nat) (x : Operand) : isNilCmp (.unOp o t x) = none := Eq.trans rfl rfl
@[simp] theorem isCall_convert (t u : Nat) (x : Operand) : isCall (.convert t u x) = none := Eq.trans rfl rfl
@[simp] theorem isNilCmp_convert (t u : Nat) (x : Operand) : isNilCmp (.convert t u x) = none := Eq.trans rfl rfl
@[simp] theorem isCall_makeFunc (fn : Fn) (a b : Array Operand) : isCall (.makeFunc fn a b) = none := Eq.trans rfl rfl
@[simp] theorem isNilCmp_makeFunc (fn : Fn) (a b : Array Operand) : isNilCmp (.makeFunc fn a b) = none := Eq.trans rfl rfl
@[simp] theorem isCall_makeSlice (t : Nat) (x y : Operand) : isCall (.makeSlice t x y) = none := Eq.trans rfl rfl
@[simp] theorem isNilCmp_makeSlice (t : Nat) (x y : Operand) : isNilCmp (.makeSlice t x y) = none := Eq.trans rfl rfl
@[simp] theorem isCall_slice (t : Nat) (x : Operand) (a b c : Option Operand) : isCall (.slice t x a b c) = none := Eq.trans rfl rfl
@[simp] theorem isNilCmp_slice (t : Nat) (x : Operand) (a b c : Option Operand) : isNilCmp (.slice t x a b c) = none := Eq.trans rfl rfl
@[simp] theorem isCall_fieldAddr (t : Nat) (x : Operand) (k : Nat) : isCall (.fieldAddr t x k) = none := Eq.trans rfl rfl
@[simp] theorem isNilCmp_fieldAddr (t : Nat) (x : Operand) (k : Nat) : isNilCmp (.fieldAddr t x k) = none := Eq.trans rfl rfl
@[simp] theorem isCall_field (t : Nat) (x : Operand) (k : Nat) : isCall (.field t x k) = none := Eq.trans rfl rfl
@[simp] theorem isNilCmp_field (t : Nat) (x : Operand) (k : Nat) : isNilCmp (.field t x k) = none := Eq.trans rfl rfl
@[simp] theorem isCall_indexAddr (t : Nat) (x y : Operand) : isCall (.indexAddr t x y) = none := Eq.trans rfl rfl
@[simp] theorem isNilCmp_indexAddr (t : Nat) (x y : Operand) : isNilCmp (.indexAddr t x y) = none := Eq.trans rfl rfl
@[simp] theorem isCall_index (t : Nat) (x y : Operand) : isCall (.index t x y) = none := Eq.trans rfl rfl
@[simp] theorem isNilCmp_index (t : Nat) (x y : Operand) : isNilCmp (.index t x y) = none := Eq.trans rfl rfl
@[simp] theorem isCall_extract (x : Operand) (k : Nat) : isCall (.extract x k) = none := Eq.trans rfl rfl
@[simp] theorem isNilCmp_extract (x : Operand) (k : Nat) : isNilCmp (.extract x k) = none := Eq.trans rfl rfl
@[simp] theorem isCall_call {f : Operand} {a : Array Operand} {t : Array Nat} : isCall (.call ⟨.value f, a, t⟩) = some (f, t.toList, a.toList) := Eq.trans rfl rfl
@[simp] theorem isCall_builtin {b : Builtin} {a : Array Operand} {t : Array Nat} : isCall (.call ⟨.builtin b, a, t⟩) = none := Eq.trans rfl rfl
@[simp] theorem isNilCmp_call {c : Call} : isNilCmp (.call c) = none := Eq.trans rfl rfl
@[simp] theorem isCall_binOp {o : BinOp} {t u : Nat} {x y : Operand} : isCall (.binOp o t x y u) = none := Eq.trans rfl rfl
@[simp] theorem isNilCmp_tmp {o : BinOp} {t u k : Nat} {x : Operand} : isNilCmp (.binOp o t x (.tmp k) u) = none := by cases o <;> rfl
@[simp] theorem isNilCmp_int {o : BinOp} {t u : Nat} {k : IntKind} {n : Int} {x : Operand} : isNilCmp (.binOp o t x (.const (.int k n)) u) = none := by cases o <;> rfl
@[simp] theorem isNilCmp_bool {o : BinOp} {t u : Nat} {b : Bool} {x : Operand} : isNilCmp (.binOp o t x (.const (.bool b)) u) = none := by cases o <;> rfl
@[simp] theorem isNilCmp_agg {o : BinOp} {t u : Nat} {c : Array Value} {x : Operand} : isNilCmp (.binOp o t x (.const (.agg c)) u) = none := by cases o <;> rfl
@[simp] theorem isMv_move (x : Operand) : isMv (.move x) = true := Eq.trans rfl rfl
@[simp] theorem isMv_assign (x : Operand) : isMv (.assign x) = true := Eq.trans rfl rfl
@[simp] theorem isMv_pick (c a b : Operand) : isMv (.pick c a b) = false := Eq.trans rfl rfl
@[simp] theorem isMv_alloc (t : Nat) : isMv (.alloc t) = false := Eq.trans rfl rfl
@[simp] theorem isMv_box (t : Nat) (x : Operand) : isMv (.box t x) = false := Eq.trans rfl rfl
@[simp] theorem isMv_build (t : Nat) (p : Array (Nat × Operand)) : isMv (.build t p) = false := Eq.trans rfl rfl
@[simp] theorem isMv_load (t : Nat) (x : Operand) : isMv (.load t x) = false := Eq.trans rfl rfl
@[simp] theorem isMv_store (t : Nat) (x y : Operand) : isMv (.store t x y) = false := Eq.trans rfl rfl
@[simp] theorem isMv_nilCheck (x : Operand) : isMv (.nilCheck x) = false := Eq.trans rfl rfl
@[simp] theorem isMv_unOp (o : UnOp) (t : Nat) (x : Operand) : isMv (.unOp o t x) = false := Eq.trans rfl rfl
@[simp] theorem isMv_convert (t u : Nat) (x : Operand) : isMv (.convert t u x) = false := Eq.trans rfl rfl
@[simp] theorem isMv_makeFunc (fn : Fn) (a b : Array Operand) : isMv (.makeFunc fn a b) = false := Eq.trans rfl rfl
@[simp] theorem isMv_makeSlice (t : Nat) (x y : Operand) : isMv (.makeSlice t x y) = false := Eq.trans rfl rfl
@[simp] theorem isMv_slice (t : Nat) (x : Operand) (a b c : Option Operand) : isMv (.slice t x a b c) = false := Eq.trans rfl rfl
@[simp] theorem isMv_fieldAddr (t : Nat) (x : Operand) (k : Nat) : isMv (.fieldAddr t x k) = false := Eq.trans rfl rfl
@[simp] theorem isMv_field (t : Nat) (x : Operand) (k : Nat) : isMv (.field t x k) = false := Eq.trans rfl rfl
@[simp] theorem isMv_indexAddr (t : Nat) (x y : Operand) : isMv (.indexAddr t x y) = false := Eq.trans rfl rfl
@[simp] theorem isMv_index (t : Nat) (x y : Operand) : isMv (.index t x y) = false := Eq.trans rfl rfl
@[simp] theorem isMv_extract (x : Operand) (k : Nat) : isMv (.extract x k) = false := Eq.trans rfl rfl
@[simp] theorem isMv_builtin {b : Builtin} {a : Array Operand} {t : Array Nat} : isMv (.call ⟨.builtin b, a, t⟩) = false := Eq.trans rfl rfl
@[simp] theorem isMv_binOp {o : BinOp} {t u : Nat} {x y : Operand} : isMv (.binOp o t x y u) = false := Eq.trans rfl rfl
@[simp] theorem isMv_call {c : Call} : isMv (.call c) = false := Eq.trans rfl rfl
@[simp] theorem isMv_buildSlice (t n : Nat) (p : Array (Nat × Operand)) : isMv (.buildSlice t n p) = false := Eq.trans rfl rfl
@[simp] theorem isBS_move (x : Operand) : isBS (.move x) = false := Eq.trans rfl rfl
@[simp] theorem isBS_assign (x : Operand) : isBS (.assign x) = false := Eq.trans rfl rfl
@[simp] theorem isBS_pick (c a b : Operand) : isBS (.pick c a b) = false := Eq.trans rfl rfl
@[simp] theorem isBS_alloc (t : Nat) : isBS (.alloc t) = false := Eq.trans rfl rfl
@[simp] theorem isBS_box (t : Nat) (x : Operand) : isBS (.box t x) = false := Eq.trans rfl rfl
@[simp] theorem isBS_build (t : Nat) (p : Array (Nat × Operand)) : isBS (.build t p) = false := Eq.trans rfl rfl
@[simp] theorem isBS_load (t : Nat) (x : Operand) : isBS (.load t x) = false := Eq.trans rfl rfl
@[simp] theorem isBS_store (t : Nat) (x y : Operand) : isBS (.store t x y) = false := Eq.trans rfl rfl
@[simp] theorem isBS_nilCheck (x : Operand) : isBS (.nilCheck x) = false := Eq.trans rfl rfl
@[simp] theorem isBS_unOp (o : UnOp) (t : Nat) (x : Operand) : isBS (.unOp o t x) = false := Eq.trans rfl rfl
@[simp] theorem isBS_convert (t u : Nat) (x : Operand) : isBS (.convert t u x) = false := Eq.trans rfl rfl
@[simp] theorem isBS_makeFunc (fn : Fn) (a b : Array Operand) : isBS (.makeFunc fn a b) = false := Eq.trans rfl rfl
@[simp] theorem isBS_makeSlice (t : Nat) (x y : Operand) : isBS (.makeSlice t x y) = false := Eq.trans rfl rfl
@[simp] theorem isBS_slice (t : Nat) (x : Operand) (a b c : Option Operand) : isBS (.slice t x a b c) = false := Eq.trans rfl rfl
@[simp] theorem isBS_fieldAddr (t : Nat) (x : Operand) (k : Nat) : isBS (.fieldAddr t x k) = false := Eq.trans rfl rfl
@[simp] theorem isBS_field (t : Nat) (x : Operand) (k : Nat) : isBS (.field t x k) = false := Eq.trans rfl rfl
@[simp] theorem isBS_indexAddr (t : Nat) (x y : Operand) : isBS (.indexAddr t x y) = false := Eq.trans rfl rfl
@[simp] theorem isBS_index (t : Nat) (x y : Operand) : isBS (.index t x y) = false := Eq.trans rfl rfl
@[simp] theorem isBS_extract (x : Operand) (k : Nat) : isBS (.extract x k) = false := Eq.trans rfl rfl
@[simp] theorem isBS_b_append {a : Array Operand} {t : Array Nat} : isBS (.call ⟨.builtin .append, a, t⟩) = false := Eq.trans rfl rfl
@[simp] theorem isBS_b_clear {a : Array Operand} {t : Array Nat} : isBS (.call ⟨.builtin .clear, a, t⟩) = false := Eq.trans rfl rfl
@[simp] theorem isBS_b_close {a : Array Operand} {t : Array Nat} : isBS (.call ⟨.builtin .close, a, t⟩) = false := Eq.trans rfl rfl
@[simp] theorem isBS_b_complex {a : Array Operand} {t : Array Nat} : isBS (.call ⟨.builtin .complex, a, t⟩) = false := Eq.trans rfl rfl
@[simp] theorem isBS_b_copy {a : Array Operand} {t : Array Nat} : isBS (.call ⟨.builtin .copy, a, t⟩) = false := Eq.trans rfl rfl
@[simp] theorem isBS_b_delete {a : Array Operand} {t : Array Nat} : isBS (.call ⟨.builtin .delete, a, t⟩) = false := Eq.trans rfl rfl
@[simp] theorem isBS_b_imag {a : Array Operand} {t : Array Nat} : isBS (.call ⟨.builtin .imag, a, t⟩) = false := Eq.trans rfl rfl
@[simp] theorem isBS_b_len {a : Array Operand} {t : Array Nat} : isBS (.call ⟨.builtin .len, a, t⟩) = false := Eq.trans rfl rfl
@[simp] theorem isBS_b_make {a : Array Operand} {t : Array Nat} : isBS (.call ⟨.builtin .make, a, t⟩) = false := Eq.trans rfl rfl
@[simp] theorem isBS_b_max {a : Array Operand} {t : Array Nat} : isBS (.call ⟨.builtin .max, a, t⟩) = false := Eq.trans rfl rfl
@[simp] theorem isBS_b_min {a : Array Operand} {t : Array Nat} : isBS (.call ⟨.builtin .min, a, t⟩) = false := Eq.trans rfl rfl
@[simp] theorem isBS_b_new {a : Array Operand} {t : Array Nat} : isBS (.call ⟨.builtin .new, a, t⟩) = false := Eq.trans rfl rfl
@[simp] theorem isBS_b_panic {a : Array Operand} {t : Array Nat} : isBS (.call ⟨.builtin .panic, a, t⟩) = false := Eq.trans rfl rfl
@[simp] theorem isBS_b_print {a : Array Operand} {t : Array Nat} : isBS (.call ⟨.builtin .print, a, t⟩) = false := Eq.trans rfl rfl
@[simp] theorem isBS_b_println {a : Array Operand} {t : Array Nat} : isBS (.call ⟨.builtin .println, a, t⟩) = false := Eq.trans rfl rfl
@[simp] theorem isBS_b_real {a : Array Operand} {t : Array Nat} : isBS (.call ⟨.builtin .real, a, t⟩) = false := Eq.trans rfl rfl
@[simp] theorem isBS_b_recover {a : Array Operand} {t : Array Nat} : isBS (.call ⟨.builtin .recover, a, t⟩) = false := Eq.trans rfl rfl
@[simp] theorem isBS_b_unsafeAdd {a : Array Operand} {t : Array Nat} : isBS (.call ⟨.builtin .unsafeAdd, a, t⟩) = false := Eq.trans rfl rfl
@[simp] theorem isBS_b_unsafeSlice {a : Array Operand} {t : Array Nat} : isBS (.call ⟨.builtin .unsafeSlice, a, t⟩) = false := Eq.trans rfl rfl
@[simp] theorem isBS_b_unsafeSliceData {a : Array Operand} {t : Array Nat} : isBS (.call ⟨.builtin .unsafeSliceData, a, t⟩) = false := Eq.trans rfl rfl
@[simp] theorem isBS_b_unsafeString {a : Array Operand} {t : Array Nat} : isBS (.call ⟨.builtin .unsafeString, a, t⟩) = false := Eq.trans rfl rfl
@[simp] theorem isBS_b_unsafeStringData {a : Array Operand} {t : Array Nat} : isBS (.call ⟨.builtin .unsafeStringData, a, t⟩) = false := Eq.trans rfl rfl
@[simp] theorem isBS_binOp {o : BinOp} {t u : Nat} {x y : Operand} : isBS (.binOp o t x y u) = false := Eq.trans rfl rfl
@[simp] theorem isBS_value {f : Operand} {a : Array Operand} {t : Array Nat} : isBS (.call ⟨.value f, a, t⟩) = false := Eq.trans rfl rfl
@[simp] theorem vcOps_cons {d : Option Nat} {op : Op} {ty : Nat} {g : Option (Nat × Bool)} {l : List AOper} {K : St → Prop} (h : isNilCmp op = none) (h2 : isCall op = none) (h3 : isBS op = false) : vcOps P T O (⟨d, op, ty, g⟩ :: l) K s = vcOp P T O ⟨d, op, ty, g⟩ s (vcOps P T O l K) := by
  simp only [vcOps, h, h2, capArg_none h3, preFrz_none (o := ⟨d, op, ty, g⟩) h3, frzs]
@[simp] theorem CapG_sl {m : List (Nat × Option Box)} {t : Nat} {g : Prop} {id ver off len : Nat} {K : Nat → Prop} {G : Prop} : CapG T m t g (.sl id ver off len) K G = PreK ((tknown T t ∧ isSlT (tkind T t) = true) ∧ g ∧ (match find m id with | some b => b.ver = ver | none => False)) (CapK len K) := Eq.trans rfl rfl
@[simp] theorem CapG_seq {m : List (Nat × Option Box)} {t : Nat} {g : Prop} {sz : Nat} {l : List AV} {f : Bool} {K : Nat → Prop} {G : Prop} : CapG T m t g (.seq sz l f) K G = G := Eq.trans rfl rfl
theorem capArg_bs {t n : Nat} {p : Array (Nat × Operand)} : capArg (.buildSlice t n p) = none := rfl
theorem CapK.intro {len : Nat} {K : Nat → Prop} (h : ∀ c, len ≤ c → K c) : CapK len K := h
@[simp] theorem isSlT_slice {k : Nat} : isSlT (.slice k) = true := Eq.trans rfl rfl
@[simp] theorem vcOps_cap {d : Option Nat} {x : Operand} {t ty : Nat} {l : List AOper} {K : St → Prop} : vcOps P T O (⟨d, .call ⟨.builtin .cap, #[x], #[t]⟩, ty, none⟩ :: l) K s = CapG T s.mem t (sg (ev s.env x)) (st (ev s.env x)) (fun c => vcOps P T O l K (s.app d (.raw (.int .i64 (c : Int))) [])) (vcOp P T O ⟨d, .call ⟨.builtin .cap, #[x], #[t]⟩, ty, none⟩ s (vcOps P T O l K)) := Eq.trans rfl rfl
/-- Boxes become immutable ahead of an operation. -/
def FrzO (ids : List Nat) (F : St → Prop) (s : St) (_t : Tag F := ()) : Prop := frzs ids F s
def FindO (x : Option Box) (F : Box → Prop) (_t : Tag F := ()) : Prop := match x with | some b => F b | none => False
@[simp] theorem FindO_some {b : Box} {F : Box → Prop} : FindO (some b) F = F b := Eq.trans rfl rfl
@[simp] theorem FrzO_nil {F : St → Prop} : FrzO [] F s = F s := Eq.trans rfl rfl
@[simp] theorem FrzO_cons {id : Nat} {l : List Nat} {F : St → Prop} : FrzO (id :: l) F s = FindO (find s.mem id) (fun b => PreK (b.var = true → AV.refsL b.els = []) (FrzO l F (frzSt s id b))) := by
  simp only [FrzO, frzs, FindO]
  all_goals (cases find s.mem id <;> rfl)
@[simp] theorem vcOps_bs {d : Option Nat} {t n : Nat} {p : Array (Nat × Operand)} {ty : Nat} {l : List AOper} {K : St → Prop} : vcOps P T O (⟨d, .buildSlice t n p, ty, none⟩ :: l) K s = FrzO (if O.contains (d.getD 0) then [] else ownIds s.mem (AV.refsL (p.toList.map fun q => st (ev s.env q.2)))) (fun s' => vcOp P T O ⟨d, .buildSlice t n p, ty, none⟩ s' (vcOps P T O l K)) s := by
  simp only [vcOps, isNilCmp_buildSlice, isCall_buildSlice, preFrz, FrzO, capArg_bs]
@[simp] theorem vcOps_bsg {d : Option Nat} {t n : Nat} {p : Array (Nat × Operand)} {ty : Nat} {g : Nat × Bool} {l : List AOper} {K : St → Prop} : vcOps P T O (⟨d, .buildSlice t n p, ty, some g⟩ :: l) K s = vcOp P T O ⟨d, .buildSlice t n p, ty, some g⟩ s (vcOps P T O l K) := by
  simp only [vcOps, isNilCmp_buildSlice, isCall_buildSlice, preFrz_guard (o := ⟨d, .buildSlice t n p, ty, some g⟩) rfl, frzs, capArg_bs]
@[simp] theorem vcOps_guardedB {d : Option Nat} {b : Builtin} {ts : Array Nat} {args : Array Operand} {ty : Nat} {g : Nat × Bool} {l : List AOper} {K : St → Prop} : vcOps P T O (⟨d, .call ⟨.builtin b, args, ts⟩, ty, some g⟩ :: l) K s = vcOp P T O ⟨d, .call ⟨.builtin b, args, ts⟩, ty, some g⟩ s (vcOps P T O l K) := by
  simp only [vcOps, isNilCmp_call, isCall_builtin, preFrz_guard (o := ⟨d, .call ⟨.builtin b, args, ts⟩, ty, some g⟩) rfl, frzs]
  cases capArg (.call ⟨.builtin b, args, ts⟩) <;> rfl
@[simp] theorem vcOps_nilEq {d : Option Nat} {t t' ty : Nat} {x : Operand} {l : List AOper} {K : St → Prop} :
    vcOps P T O (⟨d, .binOp .eql t x (.const (.slice none 0 0)) t', ty, none⟩ :: l) K s = PreK (nilOK T t = true ∧ nilArg s.mem (st (ev s.env x)) ∧ sg (ev s.env x)) (NilK (nilOf (st (ev s.env x))) fun b => vcOps P T O l K (s.app d (.raw (.bool (b == true))) [])) := Eq.trans rfl rfl
@[simp] theorem vcOps_nilNe {d : Option Nat} {t t' ty : Nat} {x : Operand} {l : List AOper} {K : St → Prop} :
    vcOps P T O (⟨d, .binOp .neq t x (.const (.slice none 0 0)) t', ty, none⟩ :: l) K s = PreK (nilOK T t = true ∧ nilArg s.mem (st (ev s.env x)) ∧ sg (ev s.env x)) (NilK (nilOf (st (ev s.env x))) fun b => vcOps P T O l K (s.app d (.raw (.bool (b == false))) [])) := Eq.trans rfl rfl
/-- A condition that is known. -/
def GuardK (x : Option Bool) (F : Bool → Prop) (_t : Tag F := ()) : Prop := match x with | some c => F c | none => False
@[simp] theorem GuardK_some {c : Bool} {F : Bool → Prop} : GuardK (some c) F = F c := Eq.trans rfl rfl
def TgtK (x : Option (FuncId × List AV)) (F : FuncId → List AV → Prop) (_t : Tag F := ()) : Prop := match x with | some (g, as) => F g as | none => False
@[simp] theorem TgtK_some {g : FuncId} {as : List AV} {F : FuncId → List AV → Prop} : TgtK (some (g, as)) F = F g as := Eq.trans rfl rfl
@[simp] theorem vcOps_call {d : Option Nat} {f : Operand} {args : Array Operand} {ts : Array Nat} {ty : Nat} {l : List AOper} {K : St → Prop} :
    vcOps P T O (⟨d, .call ⟨.value f, args, ts⟩, ty, none⟩ :: l) K s = TgtK (tgt (st (ev s.env f)) (nrmL T ts.toList (args.toList.map fun x => st (ev s.env x)))) (fun g as =>
      PreK (firms s.env (firm (.call ⟨.value f, args, ts⟩))) (CallX P s d g as fun s' r up => vcOps P T O l K (s'.app d r up))) := by
  simp only [vcOps, isNilCmp_call, isCall_call, TgtK]
  all_goals (cases tgt (st (ev s.env f)) (nrmL T ts.toList (args.toList.map fun x => st (ev s.env x))) <;> rfl)
@[simp] theorem vcOps_guarded {d : Option Nat} {f : Operand} {args : Array Operand} {ts : Array Nat} {ty g0 : Nat} {want : Bool} {l : List AOper} {K : St → Prop} :
    vcOps P T O (⟨d, .call ⟨.value f, args, ts⟩, ty, some (g0, want)⟩ :: l) K s = GuardK (guardOf (get s.env g0) want) (fun c => TgtK (tgt (st (ev s.env f)) (nrmL T ts.toList (args.toList.map fun x => st (ev s.env x)))) (fun g as =>
      PreK (c = true → firms s.env (firm (.call ⟨.value f, args, ts⟩))) (CallG P c g (snapL s.mem as) (snapOKL s.mem as) (AV.refsL as).isEmpty (fun r => vcOps P T O l K (s.app d (.maybe c r) [])) (c = true ∧ CallX P s d g as fun s' r up => vcOps P T O l K (s'.app d r up))))) := by
  simp only [vcOps, isNilCmp_call, isCall_call, TgtK, GuardK]
  all_goals (cases guardOf (get s.env g0) want with
    | none => rfl
    | some c => cases tgt (st (ev s.env f)) (nrmL T ts.toList (args.toList.map fun x => st (ev s.env x))) <;> rfl)
def FindK (x : Option Box) (F : Box → Prop) (_t : Tag F := ()) : Prop := match x with | some b => F b | none => False
@[simp] theorem FindK_some {b : Box} {F : Box → Prop} : FindK (some b) F = F b := Eq.trans rfl rfl
@[simp] theorem vcOp_plain {d : Option Nat} {op : Op} {ty : Nat} {K : St → Prop} : vcOp P T O ⟨d, op, ty, none⟩ s K = vcStep P T O ⟨d, op, ty, none⟩ s K := Eq.trans rfl rfl
@[simp] theorem vcOp_guard {d : Option Nat} {op : Op} {ty g : Nat} {want : Bool} {K : St → Prop} :
    vcOp P T O ⟨d, op, ty, some (g, want)⟩ s K = GuardK (guardOf (get s.env g) want) (fun c => vcGuard P T O ⟨d, op, ty, some (g, want)⟩ c s K) := by
  simp only [vcOp, GuardK]
  all_goals (cases guardOf (get s.env g) want <;> rfl)
@[simp] theorem vcStep_call {d : Option Nat} {f : Operand} {args : Array Operand} {ts : Array Nat} {ty : Nat} {gu : Option (Nat × Bool)} {K : St → Prop} :
    vcStep P T O ⟨d, .call ⟨.value f, args, ts⟩, ty, gu⟩ s K = TgtK (tgt (st (ev s.env f)) (nrmL T ts.toList (args.toList.map fun x => st (ev s.env x)))) (fun g as =>
      PreK (firms s.env (firm (.call ⟨.value f, args, ts⟩))) (CallS P g (snapL s.mem as) (snapOKL s.mem as) (AV.refsL as).isEmpty fun r => K (s.app d r []))) := by
  simp only [vcStep, isCall, TgtK]
  all_goals (cases tgt (st (ev s.env f)) (nrmL T ts.toList (args.toList.map fun x => st (ev s.env x))) <;> rfl)
@[simp] theorem vcStep_op {d : Option Nat} {op : Op} {ty : Nat} {gu : Option (Nat × Bool)} {K : St → Prop} (h : isCall op = none) :
    vcStep P T O ⟨d, op, ty, gu⟩ s K = PreK ((opE T O s.mem (d.getD 0) ty s.env op).pre ∧ firms s.env (firm op)) (K (s.app d (opE T O s.mem (d.getD 0) ty s.env op).val (opE T O s.mem (d.getD 0) ty s.env op).up)) := by
  simp only [vcStep, h]
@[simp] theorem vcGuard_call {d : Option Nat} {f : Operand} {args : Array Operand} {ts : Array Nat} {ty : Nat} {gu : Option (Nat × Bool)} {c : Bool} {K : St → Prop} :
    vcGuard P T O ⟨d, .call ⟨.value f, args, ts⟩, ty, gu⟩ c s K = TgtK (tgt (st (ev s.env f)) (nrmL T ts.toList (args.toList.map fun x => st (ev s.env x)))) (fun g as =>
      PreK (c = true → firms s.env (firm (.call ⟨.value f, args, ts⟩))) (CallG P c g (snapL s.mem as) (snapOKL s.mem as) (AV.refsL as).isEmpty (fun r => K (s.app d (.maybe c r) [])) False)) := by
  simp only [vcGuard, isCall, TgtK]
  all_goals (cases tgt (st (ev s.env f)) (nrmL T ts.toList (args.toList.map fun x => st (ev s.env x))) <;> rfl)
@[simp] theorem vcGuard_op {d : Option Nat} {op : Op} {ty : Nat} {gu : Option (Nat × Bool)} {c : Bool} {K : St → Prop} (h : isCall op = none) :
    vcGuard P T O ⟨d, op, ty, gu⟩ c s K = PreK (c = true → (opE T O s.mem (d.getD 0) ty s.env op).pre ∧ firms s.env (firm op))
      (K (s.app d (.maybe c (opE T O s.mem (d.getD 0) ty s.env op).val) (if c = false then [] else (opE T O s.mem (d.getD 0) ty s.env op).up))) := by
  simp only [vcGuard, h]
@[simp] theorem FinO_normal {rs : List ResultVar} {sz : Nat} {els : List AV} : FinO rs sz els .normal s = FinO rs sz els .ret s := Eq.trans rfl rfl
@[simp] theorem FinO_ret {t : Nat} {sz : Nat} {els : List AV} : FinO [.tmp t] sz els .ret s = OwnK s.mem sz els (get s.env t) := Eq.trans rfl rfl
@[simp] theorem FinT_normal {rs : List ResultVar} {sz : Nat} {els : List AV} {u : Value} : FinT rs sz els u .normal s = FinT rs sz els u .ret s := Eq.trans rfl rfl
@[simp] theorem FinT_ret {t t' : Nat} {sz : Nat} {els : List AV} {u : Value} : FinT [.tmp t, .tmp t'] sz els u .ret s = (OwnK s.mem sz els (get s.env t) ∧ get s.env t' = .raw u) := Eq.trans rfl rfl
@[simp] theorem FinL_normal {rs : List ResultVar} {sz : Nat} {r : LRet} {els' : List AV} : FinL T rs sz r els' .normal s = (LentK s.mem sz els' ∧ LRetK T s rs r) := Eq.trans rfl rfl
@[simp] theorem FinL_ret {rs : List ResultVar} {sz : Nat} {r : LRet} {els' : List AV} : FinL T rs sz r els' .ret s = (LentK s.mem sz els' ∧ LRetK T s rs r) := Eq.trans rfl rfl
@[simp] theorem FinB_normal {rs : List ResultVar} {m : List (Nat × Option Box)} {r : AV} {m' : List (Nat × Option Box)} : FinB T rs m r m' .normal s = (LentB s.mem m' ∧ (m.map (·.1) = m'.map (·.1) ∧ inKeysM (m.map (·.1)) m' = true ∧ inKeys (m.map (·.1)) r.refs = true) ∧ resL T s rs ∧ resA (resV T s rs) = r) := Eq.trans rfl rfl
@[simp] theorem FinB_ret {rs : List ResultVar} {m : List (Nat × Option Box)} {r : AV} {m' : List (Nat × Option Box)} : FinB T rs m r m' .ret s = (LentB s.mem m' ∧ (m.map (·.1) = m'.map (·.1) ∧ inKeysM (m.map (·.1)) m' = true ∧ inKeys (m.map (·.1)) r.refs = true) ∧ resL T s rs ∧ resA (resV T s rs) = r) := Eq.trans rfl rfl
@[simp] theorem Fin_normal {rs : List ResultVar} {r : AV} : Fin T rs r .normal s = PreK (resL T s rs ∧ snapOK s.mem (resA (resV T s rs))) (snap s.mem (resA (resV T s rs)) = r) := Eq.trans rfl rfl
@[simp] theorem Fin_ret {rs : List ResultVar} {r : AV} : Fin T rs r .ret s = PreK (resL T s rs ∧ snapOK s.mem (resA (resV T s rs))) (snap s.mem (resA (resV T s rs)) = r) := Eq.trans rfl rfl
@[simp] theorem vcDraw_nil {K : List (List Nat × List Nat) → St → Prop} {acc : List (List Nat × List Nat)} : vcDraw P T O [] K acc s = K acc s := Eq.trans rfl rfl
theorem vcDraw_cons0 {o : AOper} {l : List AOper} {K : List (List Nat × List Nat) → St → Prop} {acc : List (List Nat × List Nat)} :
    vcDraw P T O (o :: l) K acc s = match isCall o.op, o.guard with
    | some (f, ts, xs), none => match tgt (st (ev s.env f)) (nrmL T ts (xs.map fun x => st (ev s.env x))) with
      | some (g, as) => PreK (firms s.env (firm o.op)) (CallK P s.mem as (idsOf o s.env) g (snapL s.mem as) (snapOKL s.mem as) (AV.refsL as).isEmpty fun r up F => vcDraw P T O l K (acc ++ [(F, up.map (·.1))]) (s.app o.dst r up))
      | none => False
    | _, _ => vcOp P T O o s (vcDraw P T O l K (acc ++ [(idsOf o s.env, upKeys T O o s)])) := Eq.trans rfl rfl
@[simp] theorem vcDraw_op {d : Option Nat} {op : Op} {ty : Nat} {gu : Option (Nat × Bool)} {l : List AOper} {K : List (List Nat × List Nat) → St → Prop} {acc : List (List Nat × List Nat)} (h : isCall op = none) :
    vcDraw P T O (⟨d, op, ty, gu⟩ :: l) K acc s = vcOp P T O ⟨d, op, ty, gu⟩ s (vcDraw P T O l K (acc ++ [(idsOf ⟨d, op, ty, gu⟩ s.env, upKeys T O ⟨d, op, ty, gu⟩ s)])) := by
  rw [vcDraw_cons0]
  simp only [h]
@[simp] theorem vcDraw_guard {d : Option Nat} {op : Op} {ty : Nat} {gu : Nat × Bool} {l : List AOper} {K : List (List Nat × List Nat) → St → Prop} {acc : List (List Nat × List Nat)} :
    vcDraw P T O (⟨d, op, ty, some gu⟩ :: l) K acc s = vcOp P T O ⟨d, op, ty, some gu⟩ s (vcDraw P T O l K (acc ++ [(idsOf ⟨d, op, ty, some gu⟩ s.env, upKeys T O ⟨d, op, ty, some gu⟩ s)])) := by
  rw [vcDraw_cons0]
  cases isCall op <;> rfl
@[simp] theorem vcDraw_call {d : Option Nat} {f : Operand} {args : Array Operand} {ts : Array Nat} {ty : Nat} {l : List AOper} {K : List (List Nat × List Nat) → St → Prop} {acc : List (List Nat × List Nat)} :
    vcDraw P T O (⟨d, .call ⟨.value f, args, ts⟩, ty, none⟩ :: l) K acc s = TgtK (tgt (st (ev s.env f)) (nrmL T ts.toList (args.toList.map fun x => st (ev s.env x)))) (fun g as =>
      PreK (firms s.env (firm (.call ⟨.value f, args, ts⟩))) (CallK P s.mem as (idsOf ⟨d, .call ⟨.value f, args, ts⟩, ty, none⟩ s.env) g (snapL s.mem as) (snapOKL s.mem as) (AV.refsL as).isEmpty fun r up F => vcDraw P T O l K (acc ++ [(F, up.map (·.1))]) (s.app d r up))) := by
  rw [vcDraw_cons0]
  simp only [isCall, TgtK]
  all_goals (cases tgt (st (ev s.env f)) (nrmL T ts.toList (args.toList.map fun x => st (ev s.env x))) <;> rfl)
@[simp] theorem frzs_nil {K : St → Prop} : frzs [] K s = K s := Eq.trans rfl rfl
@[simp] theorem frzs_cons {id : Nat} {l : List Nat} {K : St → Prop} : frzs (id :: l) K s = FindK (find s.mem id) (fun b => PreK (b.var = true → AV.refsL b.els = []) (frzs l K (frzSt s id b))) := by
  simp only [frzs, FindK]
  all_goals (cases find s.mem id <;> rfl)

theorem rens_imp {K K' : St → Prop} (hk : ∀ s, K s → K' s) : ∀ {rs : List (Nat × Nat)} {s : St}, rens rs K s → rens rs K' s
  | [], s, h => hk s h
  | (i, j) :: l, s, h => by
    simp only [rens] at h ⊢
    by_cases e : i = j
    · rw [if_pos e] at h ⊢
      exact rens_imp hk h
    · rw [if_neg e] at h ⊢
      cases hf : find s.mem i with
      | none => rw [hf] at h; exact h.elim
      | some b => rw [hf] at h; exact ⟨h.1, h.2.1, rens_imp hk h.2.2⟩
/-- A loop, by its states at the head; at the end of a round own boxes may become immutable, and then boxes may take other names. -/
theorem LoopK.byR {F : (AExit → St → Prop) → St → Prop} {ι : Type} (I : ι → St) (m : ι → Nat) (Pre : ι → Prop) (i0 : ι) (hp : Pre i0) (h0 : le s (I i0))
    (h : ∀ (i : ι) (Q' : AExit → St → Prop), Pre i → (∀ j (rs : List (Nat × Nat)) s', Pre j → m j < m i → rens rs (fun s'' => le s'' (I j)) s' → Q' .normal s') → (∀ n s', Q (.exit n) s' → Q' (.exit n) s') → (∀ s', Q .ret s' → Q' .ret s') → (∀ id b s', find s'.mem id = some b → (b.var = true → AV.refsL b.els = []) → Q' .normal (frzSt s' id b) → Q' .normal s') → F Q' (I i)) : LoopK F Q s :=
  ⟨[], { i // Pre i }, fun i => I i.1, fun i => m i.1, ⟨⟨i0, hp⟩, h0⟩, fun i => h i.1 _ i.2 (fun j rs s' hj hm hl => ⟨[], rs, rens_imp (fun s'' h => ⟨⟨j, hj⟩, h, hm⟩) hl⟩) (fun _ _ h => h) (fun _ h => h)
    fun id b s' hf hv hq => by
      obtain ⟨ids, hq⟩ := hq
      exact ⟨id :: ids, by simp only [frzs, hf]; exact ⟨hv, hq⟩⟩⟩
/-- A loop, by its states at the head; at the end of a round own boxes may become immutable. -/
theorem LoopK.byF {F : (AExit → St → Prop) → St → Prop} {ι : Type} (I : ι → St) (m : ι → Nat) (Pre : ι → Prop) (i0 : ι) (hp : Pre i0) (h0 : le s (I i0))
    (h : ∀ (i : ι) (Q' : AExit → St → Prop), Pre i → (∀ j s', Pre j → m j < m i → le s' (I j) → Q' .normal s') → (∀ n s', Q (.exit n) s' → Q' (.exit n) s') → (∀ s', Q .ret s' → Q' .ret s') → (∀ id b s', find s'.mem id = some b → (b.var = true → AV.refsL b.els = []) → Q' .normal (frzSt s' id b) → Q' .normal s') → F Q' (I i)) : LoopK F Q s :=
  LoopK.byR I m Pre i0 hp h0 fun i Q' h1 h2 h3 h4 h5 => h i Q' h1 (fun j s' hj hm hl => h2 j [] s' hj hm hl) h3 h4 h5
theorem LoopK.by {F : (AExit → St → Prop) → St → Prop} {ι : Type} (I : ι → St) (m : ι → Nat) (Pre : ι → Prop) (i0 : ι) (hp : Pre i0) (h0 : le s (I i0))
    (h : ∀ (i : ι) (Q' : AExit → St → Prop), Pre i → (∀ j s', Pre j → m j < m i → le s' (I j) → Q' .normal s') → (∀ n s', Q (.exit n) s' → Q' (.exit n) s') → (∀ s', Q .ret s' → Q' .ret s') → F Q' (I i)) : LoopK F Q s :=
  LoopK.byF I m Pre i0 hp h0 fun i Q' h1 h2 h3 h4 _ => h i Q' h1 h2 h3 h4
/-- A box becomes immutable ahead of a loop. -/
theorem LoopK.frz {F : (AExit → St → Prop) → St → Prop} (id : Nat) {b : Box} (hb : find s.mem id = some b) (hv : b.var = true → AV.refsL b.els = []) (h : LoopK F Q (frzSt s id b)) : LoopK F Q s := by
  obtain ⟨ids, h⟩ := h
  exact ⟨id :: ids, by simp only [frzs, hb]; exact ⟨hv, h⟩⟩

@[simp] theorem nth_zero (a : AV) (l : List AV) : nth (a :: l) 0 = a := Eq.trans rfl rfl
@[simp] theorem nth_succ (a : AV) (l : List AV) (k : Nat) : nth (a :: l) (k + 1) = nth l k := Eq.trans rfl rfl
@[simp] theorem take_map_len {α β : Type} (f : α → β) (l : List α) : (l.map f).take l.length = l.map f := by
  rw [List.take_of_length_le]; simp
/-- An element of a list (a name that simp leaves alone). -/
def el {α : Type} [Inhabited α] (l : List α) (k : Nat) : α := l.getD k default
theorem nth_map {α : Type} [Inhabited α] (f : α → AV) (l : List α) (k : Nat) (hk : k < l.length) : nth (l.map f) k = f (el l k) := by
  simp [nth, el, List.getD_eq_getElem?_getD, hk]
theorem drop_cons {α : Type} [Inhabited α] (l : List α) (k : Nat) (hk : k < l.length) : l.drop k = el l k :: l.drop (k + 1) := by
  simp [el, List.getD_eq_getElem?_getD, hk]
theorem take_succ {α : Type} [Inhabited α] (l : List α) (k : Nat) (hk : k < l.length) : l.take (k + 1) = l.take k ++ [el l k] := by
  rw [List.take_add_one]; simp [el, List.getD_eq_getElem?_getD, hk]
theorem el_eq {α : Type} [Inhabited α] (l : List α) (k : Nat) (hk : k < l.length) : el l k = l[k] := by
  simp [el, List.getD_eq_getElem?_getD, hk]
@[simp] theorem upKeys_op {d : Option Nat} {op : Op} {ty : Nat} (h : isCall op = none) : upKeys T O ⟨d, op, ty, none⟩ s = (opE T O s.mem (d.getD 0) ty s.env op).up.map (·.1) := by
  simp only [upKeys, h]
@[simp] theorem upKeys_opg {d : Option Nat} {op : Op} {ty g : Nat} {w : Bool} (h : isCall op = none) : upKeys T O ⟨d, op, ty, some (g, w)⟩ s = if guardOf (get s.env g) w = some false then [] else (opE T O s.mem (d.getD 0) ty s.env op).up.map (·.1) := by
  simp only [upKeys, h]
@[simp] theorem upKeys_call {d : Option Nat} {f : Operand} {args : Array Operand} {ts : Array Nat} {ty : Nat} {gu : Option (Nat × Bool)} : upKeys T O ⟨d, .call ⟨.value f, args, ts⟩, ty, gu⟩ s = [] := by
  simp only [upKeys, isCall]
end
attribute [simp] deep deepL deepOK deepOKL deepE deepEOK deepEs dropSt dropF rens renSt renF renB slTy leE leEls leBox ownIds renA renL upN dnN dnO namesOK lendM backM LentB inKeys inKeysM akey entK makeMapE mupdE lookE mlenE ments convX convB bytesOf clearE copyE putEls frzSt frzA frzL frzB OwnK LentK LRetK LRet.av lid capE idsOf opRefs apartAll disj le leV leEnv leMem alive aliveEnv aliveMem opE ev cv get envOf st sg moveE puts St.app firm firms cmpE resL resV resA snap snapL snapOK snapOKL Op.operands Call.operands rng_eq elems elemsV appE placeOf ftype partsOK nrms kindOK buildE setEls elsOK elsOKb sliceLitE nver intA sliceE fillA fieldE storeE setSub nilE partE elemE boxE allocE makeE convE fnE AV.solid indexE loadE sub cellsOf AV.width TK.agg binE inR boolE unE lenB lenE lenOK minE tupE fnE pickE guardOf builtinE tkind tknown tsize tzero telem esz nrm nrmL tgt find AV.refs AV.refsL flat flatL
end Go.Abs
end

section
/- The value layer, part 35 (behind 23): the same within a round of a range over a function. -/
namespace Go.Abs

/-- A fence that lets all in: of a round, or of none. -/
def FW (r : Option Nat) : Fence := { fn := fun _ => True, depth := none, alive := false, round := r }
theorem stepsIn_fw {r : Option Nat} {P : Program} {m m' : Machine} (h : Go.Steps P m m') : StepsIn (Machine.fenced P (FW r)) P m m' := (stepsIn_wide (P := P)).2 h
theorem callsIn_fw {r : Option Nat} {n : Nat} {P : Program} {f : FuncId} {args : Array Value} {w : World} {R : Ending → World → Prop} (h : Calls P f args w R) : CallsIn (FW r) n P f args w R :=
  (callsIn_wide (n := n)).2 h
theorem rowsIn_fw {r : Option Nat} {n : Nat} {P : Program} {row : String} {args : Array Value} {w : World} {R : Value → World → Prop} (h : Rows P row args w R) : RowsIn (FW r) n P row args w R :=
  fun c cs _ => let ⟨v, w', hr, hs⟩ := h c cs; ⟨v, w', hr, stepsIn_fw hs⟩
def noDef : Op → Bool
  | .defer _ => false
  | _ => true
theorem oper_in {r : Option Nat} {n : Nat} {P : Program} {o : Oper} (hd : noDef o.op = true) {a : Act} {w : World} {K : Act → World → Prop} {Q : Exit → Act → World → Prop} (h : o.wp P a w K Q) : o.wpIn (FW r) n P a w K Q := by
  refine ⟨fun _ _ => trivial, ?_⟩
  rw [Oper.semAt_plain (FW r) a.eval o (fun c e => by rw [e] at hd; cases hd)]
  unfold Oper.wp at h
  generalize (execOp a.eval o).run P w = x at h ⊢
  cases x with
  | ok x w' =>
    cases x <;> simp only [Oper.upon, Oper.uponIn] at h ⊢ <;> first
      | exact h
      | exact ⟨fun e => absurd e (by simp [FW]), callsIn_fw h⟩
      | exact ⟨fun e => absurd e (by simp [FW]), rowsIn_fw h⟩
      | exact h.elim
  | halt x w' => cases x <;> simp only [Oper.upon, Oper.uponIn] at h ⊢ <;> first | exact h | exact h.elim
section
variable {r : Option Nat} {n : Nat} {P : Program} {ops : Array Oper} {Q : Exit → Act → World → Prop} {md : Region.Mode}
theorem wpOp_in (hQ : ¬ LetsOut Q) {i : Nat} (hd : ∀ o : Oper, ops[i]? = some o → noDef o.op = true) {K K' : Act → World → Prop} (hK : ∀ a w, K a w → K' a w) {a : Act} {w : World} (h : wpOp P ops Q i K a w) : wpOpIn (FW r) n P ops Q i K' a w := by
  unfold wpOp at h
  unfold wpOpIn
  cases ho : ops[i]? with
  | none => rw [ho] at h; exact hK _ _ h
  | some o =>
    rw [ho] at h
    simp only at h ⊢
    by_cases hw : Region.wanted o (yielded ops a.tmps) = true
    · rw [if_pos hw] at h ⊢
      rcases h with h | h
      · exact Oper.wpIn_mono hK (oper_in (hd o ho) h)
      · exact absurd h.2 hQ
    · rw [if_neg hw] at h ⊢
      exact ⟨fun _ _ => trivial, hK _ _ h⟩
theorem wpOps_in (hQ : ¬ LetsOut Q) (hd : ∀ (i : Nat) (o : Oper), ops[i]? = some o → noDef o.op = true) : ∀ (l : List Nat) (a : Act) (w : World), wpOps P ops Q l a w → wpOpsIn (FW r) n P ops Q l a w
  | [], _, _, h => h
  | i :: l, a, w, h => by
    rw [wpOps_cons] at h
    rw [wpOpsIn_cons]
    exact wpOp_in hQ (hd i) (fun a w h => wpOps_in hQ hd l a w h) h
theorem wpAny_in (hQ : ¬ LetsOut Q) (hd : ∀ (i : Nat) (o : Oper), ops[i]? = some o → noDef o.op = true) : ∀ (fuel : Nat) (listed : Array Bool) (a : Act) (w : World), wpAny P md ops Q fuel listed a w → wpAnyIn (FW r) n P md ops Q fuel listed a w
  | 0, _, _, _, h => h
  | fuel + 1, listed, a, w, h => ⟨h.1, fun i hi => wpOp_in hQ (hd i) (fun a w h => wpAny_in hQ hd fuel _ a w h) (h.2 i hi)⟩
end
/-- No deferred call is made. -/
def noDefC : Code → Bool
  | .region _ ops _ => ops.all fun o => noDef o.op
  | .seq a b => noDefC a && noDefC b
  | .cond _ a b => noDefC a && noDefC b
  | .block _ c => noDefC c
  | .loop c => noDefC c
  | _ => true
theorem noDef_get {ops : Array Oper} (h : (ops.all fun o => noDef o.op) = true) (i : Nat) (o : Oper) (ho : ops[i]? = some o) : noDef o.op = true := by
  rw [Array.all_eq_true] at h
  obtain ⟨hi, e⟩ := Array.getElem?_eq_some_iff.1 ho
  rw [← e]; exact h i hi
theorem post_no {B : Base} {Q : AExit → St → Prop} : ¬ LetsOut (post B Q) := fun ⟨_, _, h⟩ => h
section
variable {P : Program} {T : TT} (hT : TOK P T) {O : List Nat}
include hT in
theorem draw_soundIn {rd : Option Nat} {n : Nat} (hm : P.follows .mixedOrders = true) {id : Nat} {ops : Array Oper} (hnd : (ops.all fun o => noDef o.op) = true) {B : Base} {N : Nat} (hN : B.N = N) {gs : List Nat} {l : List AOper} {pairs : List (Nat × Nat)} (hst : stripReg N gs ops true = some (.draw gs l pairs))
    {Q : AExit → St → Prop} {s : St} {a : Act} {w : World} (h : vcDraw P T O l (fun acc s' => PreK (apartAll acc pairs = true) (Q .normal s')) [] s) (hr : Rel B w a s) : (Code.region id ops true).wpIn (FW rd) n P (post B Q) a w := by
  unfold stripReg at hst
  split at hst
  · rename_i l' hl
    split at hst
    · rename_i hd
      simp only [if_true] at hst
      split at hst
      · rename_i hed
        simp only [Option.map_eq_some_iff] at hst
        obtain ⟨pairs', hop, heq⟩ := hst
        cases heq
        obtain ⟨hlen, hget⟩ := aopers_get hl
        have hlen' : l.length = ops.size := by rw [hlen]; simp
        obtain ⟨E, fps, hE, ⟨hap, hQ⟩, hfl, hfg⟩ := (vcDraw_runs h).out
        have hfp := fun i o h => (hfg i o h).1
        simp only [List.nil_append] at hap
        have hedge : ∀ i o, ops[i]? = some o → ∀ e ∈ o.after, Region.binds .any e = true → e.on < i := by
          intro i o ho e he hb
          have := edgesOK_get hed i o (by simpa using ho) e.on (by simp only [edgesOf, List.mem_map, List.mem_filter]; exact ⟨e, ⟨by simpa using he, hb⟩, rfl⟩)
          omega
        have hoper : ∀ i o, ops[i]? = some o → aoper ops o = some (l.getD i ⟨none, .ready 0, 0, none⟩) := by
          intro i o ho
          obtain ⟨x, hx, hax⟩ := hget i o (by simpa using ho)
          simp [List.getD_eq_getElem?_getD, hx, hax]
        have hlg : ∀ i, i < l.length → l[i]? = some (l.getD i ⟨none, .ready 0, 0, none⟩) := by
          intro i hi
          simp [List.getD_eq_getElem?_getD, hi]
        have hpairs : ∀ i, i < l.length → ∀ j, j < i → j ∈ (ancL (ops.toList.map edgesOf) []).getD i [] ∨ ((j, i) ∈ pairs ∧ ∃ x y, l[j]? = some x ∧ l[i]? = some y ∧ slotsApart x y = true) :=
          fun i hi => outer_spec _ _ hop i (by simpa using hi)
        let Ef : Nat → List Nat := fun i => match ops[i]? with | some o => edgesOf o | none => []
        have hanc : ∀ k, ∀ j ∈ (ancL (ops.toList.map edgesOf) []).getD k [], Anc Ef k j := by
          refine mem_ancL _ [] (by simp) fun i hi j hj => ?_
          have hi' : i < ops.size := by simpa using hi
          have : (ops.toList.map edgesOf).getD i [] = edgesOf ops[i] := by simp [List.getD_eq_getElem?_getD, hi']
          rw [this] at hj
          simpa [Ef, hi'] using hj
        let p : Plan P T O ops l.length := {
          ao := fun i => l.getD i ⟨none, .ready 0, 0, none⟩
          V := fun i => (E.getD i (.junk, [])).1
          U := fun i => (E.getD i (.junk, [])).2
          F := fun i => (fps.getD i ([], [])).1
          s := s
          anc := fun i => (ancL (ops.toList.map edgesOf) []).getD i []
          size := hlen'.symm
          oper := hoper
          edge := hedge
          close := fun D hD i o ho hed' j hj => edges_close hedge D hD (E := Ef) (fun i => rfl) (hanc i j hj) o ho hed'
          still := by
            intro j i hji hi
            rcases hpairs i hi j hji with h1 | ⟨_, x, y, hx, hy, hxy⟩
            · exact .inl h1
            · right
              have ex : l.getD j ⟨none, .ready 0, 0, none⟩ = x := by simp [List.getD_eq_getElem?_getD, hx]
              have ey : l.getD i ⟨none, .ready 0, 0, none⟩ = y := by simp [List.getD_eq_getElem?_getD, hy]
              simp only [ex, ey]
              simp only [slotsApart, Bool.and_eq_true] at hxy
              refine ⟨fun t ht => disj_spec hxy.1.1 t (by rw [ht]; simp [optL]), fun t ht => disj_spec hxy.1.2 t (by rw [ht]; simp [optL]), fun t ht ht' => disj_spec hxy.2 t (by rw [ht]; simp [optL]) (by rw [ht']; simp [optL])⟩
          apart := by
            intro j i hji hi
            rcases hpairs i hi j hji with h1 | ⟨hp, _⟩
            · exact .inl h1
            · right
              obtain ⟨x, y, hx, hy, d1, d2, d3⟩ := apartAll_get hap j i hp
              have fx := hfp j _ (hlg j (by omega))
              have fy := hfp i _ (hlg i hi)
              rw [hx] at fx
              rw [hy] at fy
              simp only [Option.some.injEq] at fx fy
              rw [fx, fy] at d1 d2 d3
              exact ⟨disj_spec d1, disj_spec d2, disj_spec d3⟩
          steps := by
            intro i hi
            rw [stOf_lt i (by omega)]
            exact (hfg i _ (hlg i hi)).2 }
        have hfin : p.st (fun _ => true) = stAt l E s l.length := by
          rw [← stOf_lt l.length (Nat.le_refl _)]
          show stOf _ _ _ _ _ _ = stOf _ _ _ _ _ _
          unfold stOf
          have : (List.range l.length).filter (fun _ => true) = (List.range l.length).filter fun k => decide (k < l.length) := by
            apply List.filter_congr
            intro k hk
            simpa using hk
          rw [this]
        refine wpIn_region_any hm (wpAny_in post_no (noDef_get hnd) _ _ _ _ (any_sound hT p (B := B) (fun i hi t ht => ?_) (fun a' w' hrel => ?_) _ _ _ _ ?_ ?_ ?_ ?_))
        · rw [hN]
          exact dstsOK_get hd i _ (hlg i hi) t ht
        · rw [hfin] at hrel
          exact ⟨_, hrel, hQ⟩
        · simp [hlen']
        · intro i o ho hli
          rw [rep_false] at hli
          cases hli
        · refine Nat.le_trans (List.length_filter_le _ _) ?_
          simp [hlen']
        · have h0 : p.st (fun i => (Array.replicate ops.size false).getD i false) = s := by
            show stOf _ _ _ _ _ _ = s
            unfold stOf
            have : (List.range l.length).filter (fun i => (Array.replicate ops.size false).getD i false) = [] := by
              rw [List.filter_eq_nil_iff]
              intro i _
              rw [rep_false]
              simp
            rw [this]
            rfl
          rw [h0]
          exact hr.drew
      · cases hst
    · cases hst
  · cases hst

include hT in
theorem vc_soundIn (hm : P.follows .mixedOrders = true) {N : Nat} {G : Nat → List Nat} {rd : Option Nat} {n : Nat} : ∀ (c : Code) (ac : ACode), strip N G c = some ac → noDefC c = true → ∀ (Q : AExit → St → Prop) (s : St), vc P T O ac Q s →
    ∀ (B : Base) (w : World) (a : Act), B.N = N → Rel B w a s → c.wpIn (FW rd) n P (post B Q) a w
  | .skip, ac, hs, _, Q, s, h, B, w, a, hN, hr => by
    simp only [strip, Option.some.injEq] at hs; subst hs
    exact wpIn_skip ⟨s, hr, h⟩
  | .region id ops draw, ac, hs, hnd, Q, s, h, B, w, a, hN, hr => by
    simp only [strip] at hs
    simp only [noDefC] at hnd
    rcases stripReg_shape hs with ⟨rfl, l, rfl, hl, hd⟩ | ⟨rfl, l, pairs, rfl⟩
    · obtain ⟨s', h', hr'⟩ := frzs_rel h hr
      obtain ⟨hlen, hget⟩ := aopers_get hl
      have hlen' : l.length = ops.size := by rw [hlen]; simp
      refine wpIn_region (wpOps_in post_no (noDef_get hnd) _ _ _ ?_)
      have := vcOps_sound (O := O) hT (B := B) (ops := ops) (Q := post B Q) (fun a w s hr hk => ⟨s, hr, hk⟩) l 0 s' a w (fun i x hx => ?_) (by omega) (fun x hx t ht => ?_) h' hr'
      · simpa [hlen'] using this
      · have hi : i < ops.size := by rw [← hlen']; exact (List.getElem?_eq_some_iff.1 hx).1
        obtain ⟨y, hy, hay⟩ := hget i ops[i] (by simp [hi])
        rw [hx] at hy
        cases hy
        exact ⟨ops[i], by simp [hi], hay⟩
      · obtain ⟨i, hi⟩ := List.mem_iff_getElem?.1 hx
        rw [hN]
        exact dstsOK_get hd i x hi t ht
    · obtain ⟨s', h', hr'⟩ := frzs_rel h hr
      exact draw_soundIn hT hm hnd hN hs h' hr'
  | .seq c d, ac, hs, hnd, Q, s, h, B, w, a, hN, hr => by
    simp only [strip] at hs
    simp only [noDefC, Bool.and_eq_true] at hnd
    cases hx : strip N G c with
    | none => rw [hx] at hs; cases hs
    | some x =>
      cases hy : strip N G d with
      | none => rw [hx, hy] at hs; cases hs
      | some y =>
        rw [hx, hy] at hs
        simp only [Option.bind_some, Option.map_some, Option.some.injEq] at hs
        subst hs
        refine wpIn_seq (wpIn_mono (vc_soundIn hm c x hx hnd.1 _ s h B w a hN hr) ?_)
        intro e a' w' hp
        cases e with
        | normal =>
          obtain ⟨s', hr', hq⟩ := hp
          exact vc_soundIn hm d y hy hnd.2 Q s' hq B w' a' hN hr'
        | exit id => exact hp
        | ret => exact hp
        | _ => exact hp.elim
  | .cond t c d, ac, hs, hnd, Q, s, h, B, w, a, hN, hr => by
    simp only [strip] at hs
    simp only [noDefC, Bool.and_eq_true] at hnd
    cases hx : strip N G c with
    | none => rw [hx] at hs; cases hs
    | some x =>
      cases hy : strip N G d with
      | none => rw [hx, hy] at hs; cases hs
      | some y =>
        rw [hx, hy] at hs
        simp only [Option.bind_some, Option.map_some, Option.some.injEq] at hs
        subst hs
        obtain ⟨μ, hrel⟩ := hr
        have hev := rep_ev hrel t
        simp only [vc, CondK] at h
        split at h
        · rename_i b hb
          rw [hb] at hev
          exact wpIn_cond_split hev.one.1 (fun hbt => vc_soundIn hm c x hx hnd.1 Q s (h.1 hbt) B w a hN ⟨μ, hrel⟩) (fun hbf => vc_soundIn hm d y hy hnd.2 Q s (h.2 hbf) B w a hN ⟨μ, hrel⟩)
        · rename_i g b hb
          rw [hb] at hev
          obtain ⟨hg, h1, h2⟩ := h
          exact wpIn_cond_split (hev.maybeOf hg).one.1 (fun hbt => vc_soundIn hm c x hx hnd.1 Q s (h1 hbt) B w a hN ⟨μ, hrel⟩) (fun hbf => vc_soundIn hm d y hy hnd.2 Q s (h2 hbf) B w a hN ⟨μ, hrel⟩)
        · exact h.elim
  | .block id c, ac, hs, hnd, Q, s, h, B, w, a, hN, hr => by
    simp only [strip] at hs
    simp only [noDefC] at hnd
    cases hx : strip N G c with
    | none => rw [hx] at hs; cases hs
    | some x =>
      rw [hx] at hs
      simp only [Option.map_some, Option.some.injEq] at hs
      subst hs
      refine wpIn_block (wpIn_mono (vc_soundIn hm c x hx hnd _ s h B w a hN hr) ?_)
      intro e a' w' hp
      cases e with
      | normal => exact hp
      | exit id' =>
        obtain ⟨s', hr', hq⟩ := hp
        simp only [blockQ] at hq
        simp only [Exit.inBlock]
        by_cases e : id' = id
        · rw [if_pos e] at hq ⊢
          exact ⟨s', hr', hq⟩
        · rw [if_neg e] at hq ⊢
          exact ⟨s', hr', hq⟩
      | ret => exact hp
      | _ => exact hp.elim
  | .loop c, ac, hs, hnd, Q, s, h, B, w, a, hN, hr => by
    simp only [strip] at hs
    simp only [noDefC] at hnd
    cases hx : strip N G c with
    | none => rw [hx] at hs; cases hs
    | some x =>
      rw [hx] at hs
      simp only [Option.map_some, Option.some.injEq] at hs
      subst hs
      obtain ⟨ids, h⟩ := h
      obtain ⟨s0, ⟨ι, I, m, ⟨i0, hi0⟩, hround⟩, hr⟩ := frzs_rel h hr
      intro b k cs hro hb hroom
      have key : ∀ j a w, (∃ i, m i = j ∧ Rel B w a (I i)) → ∃ e a' w', post B Q e a' w' ∧ ArrivesIn (Machine.fenced P (FW rd)) P (lone (b.atR a (.code c :: .inLoop c :: k)) cs w) b k cs e a' w' := by
        intro j
        induction j using Nat.strongRecOn with
        | _ j ih =>
          intro a w hJ
          obtain ⟨i, hmi, hri⟩ := hJ
          have hb2 := vc_soundIn (rd := rd) (n := n) hm c x hx hnd _ _ (hround i) B w a hN hri
          obtain ⟨e, a₁, w₁, hq, harr⟩ := hb2 b (.inLoop c :: k) cs hro hb hroom
          cases e with
          | normal =>
            obtain ⟨s1, hr1, ids, hz⟩ := hq
            obtain ⟨s1', ⟨rs, hz2⟩, hr1'⟩ := frzs_rel hz hr1
            obtain ⟨s', ⟨j', hle, hlt⟩, hr'⟩ := rens_rel hz2 hr1'
            obtain ⟨e₂, a₂, w₂, hq₂, harr₂⟩ := ih (m j') (hmi ▸ hlt) a₁ w₁ ⟨j', rfl, le_rel hle hr'⟩
            exact ⟨e₂, a₂, w₂, hq₂, .of_steps (StepsIn.trans harr (.one (fenced_calm hb hroom rfl) stepR_inLoop)) harr₂⟩
          | exit id => exact ⟨.exit id, a₁, w₁, hq, .pass (x := .inLoop c) rfl (fun _ _ => .inl (by simp)) harr⟩
          | ret => exact ⟨.ret, a₁, w₁, hq, .pass (x := .inLoop c) rfl (fun _ _ => .inl (by simp)) harr⟩
          | _ => exact hq.elim
      obtain ⟨e, a', w', hq, harr⟩ := key (m i0) a w ⟨i0, rfl, le_rel hi0 hr⟩
      exact ⟨e, a', w', hq, .of_steps (.one (fenced_calm hb hroom rfl) stepR_loop) harr⟩
  | .exit id, ac, hs, _, Q, s, h, B, w, a, hN, hr => by
    simp only [strip, Option.some.injEq] at hs; subst hs
    exact wpIn_exit ⟨s, hr, h⟩
  | .ret, ac, hs, _, Q, s, h, B, w, a, hN, hr => by
    simp only [strip, Option.some.injEq] at hs; subst hs
    exact wpIn_ret ⟨s, hr, h⟩
  | .rangeFunc _ _ _ _, ac, hs, _, _, _, _, _, _, _, _, _ => by simp [strip] at hs
  | .scope _, ac, hs, _, _, _, _, _, _, _, _, _ => by simp [strip] at hs
  | .label _, ac, hs, _, _, _, _, _, _, _, _, _ => by simp [strip] at hs
  | .goto _, ac, hs, _, _, _, _, _, _, _, _, _ => by simp [strip] at hs
  | .refuse _, ac, hs, _, _, _, _, _, _, _, _, _ => by simp [strip] at hs
end
end Go.Abs
end

section
/- The value layer, part 29: a contract may be used at arguments of which more is known. -/
namespace Go.Abs

mutual
def weak : AV → AV
  | .seq sz l _ => .seq sz (weakL l) false
  | .agg l => .agg (weakL l)
  | .tup l => .tup (weakL l)
  | a => a
def weakL : List AV → List AV
  | [] => []
  | a :: l => weak a :: weakL l
end

theorem weakL_length : ∀ l : List AV, (weakL l).length = l.length
  | [] => rfl
  | a :: l => by simp [weakL, weakL_length l]
theorem weakL_get : ∀ {l : List AV} {i : Nat}, i < l.length → (weakL l).getD i .junk = weak (l.getD i .junk)
  | a :: l, 0, _ => by simp [weakL]
  | a :: l, i + 1, h => by simpa [weakL] using weakL_get (l := l) (i := i) (by simpa using h)
theorem weak_width (a : AV) : (weak a).width = a.width := by
  cases a <;> simp [weak, AV.width, weakL_length]
theorem weak_elemVal (a : AV) (sz : Nat) (c : Array Value) (o : Nat) : elemVal (weak a) sz c o = elemVal a sz c o := by
  cases a <;> simp [weak, elemVal]

theorem Rep.weak {w : World} {Y : Nat → Prop} : ∀ {μ : Mu} {a : AV} {v : Value}, Rep w Y μ a v → Rep w Y μ (Abs.weak a) v := by
  intro μ a v h
  induction h with
  | raw h => simp only [Abs.weak]; exact .raw h
  | agg hs h1 h ih =>
    simp only [Abs.weak]
    exact .agg (by rw [weakL_length]; exact hs) (fun i hi => h1 i (by rwa [weakL_length] at hi)) fun i hi => by
      rw [weakL_length] at hi
      rw [weakL_get hi]; exact ih i hi
  | tup hs h ih =>
    simp only [Abs.weak]
    exact .tup (by rw [weakL_length]; exact hs) fun i hi => by
      rw [weakL_length] at hi
      rw [weakL_get hi]; exact ih i hi
  | nil => simp only [Abs.weak, weakL]; exact .nil
  | seq hY hb hc hf hbig hfit hw h1 h ih =>
    simp only [Abs.weak]
    rename_i l _ _ _ _ _ _ _
    rw [← weakL_length l]
    refine Rep.seq (full := false) hY hb (by rw [weakL_length]; exact hc) (fun h => by cases h) (by rw [weakL_length]; exact hbig) (by rw [weakL_length]; exact hfit) (fun i hi => ?_) (fun j hj1 hj2 => h1 j hj1 (by rw [weakL_length] at hj2; exact hj2)) fun i hi => ?_
    · rw [weakL_length] at hi
      rw [weakL_get hi, weak_width]; exact hw i hi
    · rw [weakL_length] at hi
      rw [weakL_get hi, weak_elemVal]; exact ih i hi
  | ipt hY hb hfit h1 h ih => simp only [Abs.weak]; exact .ipt hY hb hfit h1 h
  | pt hm hv hb hz => simp only [Abs.weak]; exact .pt hm hv hb hz
  | ptOld hm hv => simp only [Abs.weak]; exact .ptOld hm hv
  | slNil hm hv hnf => simp only [Abs.weak]; exact .slNil hm hv hnf
  | sl hm hv hb hc hfit hz => simp only [Abs.weak]; exact .sl hm hv hb hc hfit hz
  | mp hm hv hb hz => simp only [Abs.weak]; exact .mp hm hv hb hz
  | mpOld hm hv => simp only [Abs.weak]; exact .mpOld hm hv
  | map hY hb hs hbig h ih => simp only [Abs.weak]; exact .map hY hb hs hbig h
  | slOld hm hv => simp only [Abs.weak]; exact .slOld hm hv
  | fn hs ht h k ih ik => simp only [Abs.weak]; exact .fn hs ht h k
  | maybe h0 h ih => simp only [Abs.weak]; exact .maybe h0 h
  | junk => simp only [Abs.weak]; exact .junk

theorem CallP.weak {P : Program} {f : FuncId} {args : List AV} {r : AV} (h : CallP P f (weakL args) r) : CallP P f args r := by
  refine ⟨h.1, fun w X vs hX hlen hargs => ?_⟩
  refine h.2 w X vs hX (by rw [weakL_length]; exact hlen) fun i hi => ?_
  rw [weakL_length] at hi
  rw [weakL_get hi]
  exact (hargs i hi).weak
end Go.Abs
end

section
/- The value layer, part 34: functions whose boxes become immutable at the end. -/
namespace Go.Abs

section
variable {P : Program} {T : TT} (hT : TOK P T) {O : List Nat}

def FinF (T : TT) (rs : List ResultVar) (r : AV) : AExit → St → Prop
  | .exit _, _ => False
  | _, s => ∃ ids, frzs ids (fun s' => PreK (resL T s' rs ∧ snapOK s'.mem (resA (resV T s' rs))) (snap s'.mem (resA (resV T s' rs)) = r)) s

end

mutual
/-- A result of which no slice is told to be full. -/
def weakR : AV → AV
  | .ipt e o => .ipt (weak e) o
  | .tup l => .tup (weakRL l)
  | a => weak a
def weakRL : List AV → List AV
  | [] => []
  | a :: l => weakR a :: weakRL l
end
theorem weakRL_length : ∀ l : List AV, (weakRL l).length = l.length
  | [] => rfl
  | a :: l => by simp [weakRL, weakRL_length l]
theorem weakRL_get : ∀ {l : List AV} {i : Nat}, i < l.length → (weakRL l).getD i .junk = weakR (l.getD i .junk)
  | a :: l, 0, _ => by simp [weakRL]
  | a :: l, i + 1, h => by simpa [weakRL] using weakRL_get (l := l) (i := i) (by simpa using h)
theorem weak_elem (e : AV) (n : Nat) (c : Array Value) (o : Nat) : elemVal (weak e) n c o = elemVal e n c o := by
  cases e <;> rfl
theorem Rep.weakR {w : World} {Y : Nat → Prop} {μ : Mu} {a : AV} {v : Value} (h : Rep w Y μ a v) : Rep w Y μ (Abs.weakR a) v := by
  induction h with
  | ipt hY hb hfit h1 h ih =>
    simp only [Abs.weakR]
    refine .ipt hY hb (by rw [weak_width]; exact hfit) (fun j hj hj2 => h1 j hj (by rwa [weak_width] at hj2)) ?_
    rw [weak_elem, weak_width]
    exact h.weak
  | tup hs h ih =>
    simp only [Abs.weakR]
    refine .tup (by rw [weakRL_length]; exact hs) fun i hi => ?_
    rw [weakRL_length] at hi
    rw [weakRL_get hi]
    exact ih i hi
  | raw h => exact (Rep.raw h).weak
  | agg hs h1 h _ => exact (Rep.agg hs h1 h).weak
  | @nil μ sz full p => exact (Rep.nil (full := full)).weak
  | seq hY hb hc hf hbig hfit hw h1 h _ => exact (Rep.seq hY hb hc hf hbig hfit hw h1 h).weak
  | pt hm hv hb hz => exact (Rep.pt hm hv hb hz).weak
  | ptOld hm hv => exact (Rep.ptOld hm hv).weak
  | slNil hm hv hnf => exact (Rep.slNil hm hv hnf).weak
  | sl hm hv hb hc hfit hz => exact (Rep.sl hm hv hb hc hfit hz).weak
  | slOld hm hv => exact (Rep.slOld hm hv).weak
  | fn hs ht h k _ _ => exact (Rep.fn hs ht h k).weak
  | mp hm hv hb hz => exact (Rep.mp hm hv hb hz).weak
  | mpOld hm hv => exact (Rep.mpOld hm hv).weak
  | map hY hb hs hbig h _ => exact (Rep.map hY hb hs hbig h).weak
  | maybe h0 h _ => exact (Rep.maybe h0 h).weak
  | junk => exact Rep.junk.weak
theorem CallP.weakR {P : Program} {f : FuncId} {args : List AV} {r : AV} (h : CallP P f args r) : CallP P f args (Abs.weakR r) :=
  ⟨h.1, fun w X vs hX hlen hargs => (h.2 w X vs hX hlen hargs).mono fun _ _ ⟨v, he, hg, hr⟩ => ⟨v, he, hg, hr.weakR⟩⟩
@[simp] theorem isCall_makeMap (t : Nat) (r : Option Operand) : isCall (.makeMap t r) = none := Eq.trans rfl rfl
@[simp] theorem isNilCmp_makeMap (t : Nat) (r : Option Operand) : isNilCmp (.makeMap t r) = none := Eq.trans rfl rfl
@[simp] theorem isBS_makeMap (t : Nat) (r : Option Operand) : isBS (.makeMap t r) = false := Eq.trans rfl rfl
@[simp] theorem isCall_mapUpdate (t : Nat) (x k v : Operand) : isCall (.mapUpdate t x k v) = none := Eq.trans rfl rfl
@[simp] theorem isNilCmp_mapUpdate (t : Nat) (x k v : Operand) : isNilCmp (.mapUpdate t x k v) = none := Eq.trans rfl rfl
@[simp] theorem isBS_mapUpdate (t : Nat) (x k v : Operand) : isBS (.mapUpdate t x k v) = false := Eq.trans rfl rfl
@[simp] theorem isCall_insert (t : Nat) (x k v : Operand) : isCall (.insert t x k v) = none := Eq.trans rfl rfl
@[simp] theorem isNilCmp_insert (t : Nat) (x k v : Operand) : isNilCmp (.insert t x k v) = none := Eq.trans rfl rfl
@[simp] theorem isBS_insert (t : Nat) (x k v : Operand) : isBS (.insert t x k v) = false := Eq.trans rfl rfl
@[simp] theorem isCall_lookup (t : Nat) (x k : Operand) (ok : Bool) : isCall (.lookup t x k ok) = none := Eq.trans rfl rfl
@[simp] theorem isNilCmp_lookup (t : Nat) (x k : Operand) (ok : Bool) : isNilCmp (.lookup t x k ok) = none := Eq.trans rfl rfl
@[simp] theorem isBS_lookup (t : Nat) (x k : Operand) (ok : Bool) : isBS (.lookup t x k ok) = false := Eq.trans rfl rfl
@[simp] theorem isMv_makeMap (t : Nat) (r : Option Operand) : isMv (.makeMap t r) = false := Eq.trans rfl rfl
@[simp] theorem isMv_mapUpdate (t : Nat) (x k v : Operand) : isMv (.mapUpdate t x k v) = false := Eq.trans rfl rfl
@[simp] theorem isMv_insert (t : Nat) (x k v : Operand) : isMv (.insert t x k v) = false := Eq.trans rfl rfl
@[simp] theorem isMv_lookup (t : Nat) (x k : Operand) (ok : Bool) : isMv (.lookup t x k ok) = false := Eq.trans rfl rfl
attribute [simp] mfind mput entW keysOK KK.fits
end Go.Abs
end

section
/- The value layer, part 36 (behind 35 and 33): boxes are lent to what is no call; a range over a function. -/
namespace Go.Abs
open Go.RowKit

section
variable {P : Program} {T : TT} {B : Base} {w : World} {a : Act} {s : St}

/-- What must not be touched while boxes are lent. -/
def lentX (B : Base) (σ : Names) (μ : Mu) (q : Nat) : Prop := Yof B.X μ q ∧ ¬ blks (muN σ μ) q
theorem lentY {σ : Names} {μ : Mu} (q : Nat) : Yof (lentX B σ μ) (muN σ μ) q ↔ Yof B.X μ q := by
  have hsub : blks (muN σ μ) q → blks μ q := by
    intro hq
    obtain ⟨i, v, j, l, n, _, h2, h3⟩ := blks_muN hq
    exact ⟨i, l, n, h2, h3⟩
  constructor
  · rintro (hx | hx)
    · exact hx.1
    · exact .inr (hsub hx)
  · intro hy
    by_cases e : blks (muN σ μ) q
    · exact .inr e
    · exact .inl ⟨hy, e⟩
theorem lend_go {μ : Mu} (h : RelM B w a s μ) {σ : Names} (hσ : namesOK s.mem σ) :
    Inv w (lentX B σ μ) (muN σ μ) (lendM σ s.mem σ) ∧ (∀ {x : AV} {v : Value}, Rep w (Yof B.X μ) μ x v → Rep w (Yof (lentX B σ μ) (muN σ μ)) (muN σ μ) (renA (upN σ) x) v) ∧
    (∀ q, lentX B σ μ q → q < w.heap.size) ∧ ∀ id l, muN σ μ id = some l → l.ver = 0 := by
  have hμ : ∀ {i v j : Nat}, (i, v, j) ∈ σ → ∃ b l, find s.mem i = some b ∧ b.ver = v ∧ μ i = some l ∧ l.ver = v ∧ l.sz = b.sz ∧ Holds w (Yof B.X μ) μ l b := by
    intro i v j hm
    obtain ⟨b, hb, hv⟩ := names_mem hσ hm
    obtain ⟨l, h1, h2, h3, h4⟩ := h.inv.box i b hb
    exact ⟨b, l, hb, hv, h1, by rw [h2, hv], h3, h4⟩
  have hsub : ∀ q, blks (muN σ μ) q → blks μ q := by
    intro q hq
    obtain ⟨i, v, j, l, n, _, h2, h3⟩ := blks_muN hq
    exact ⟨i, l, n, h2, h3⟩
  let X : Nat → Prop := lentX B σ μ
  have hY : ∀ q, Yof X (muN σ μ) q ↔ Yof B.X μ q := fun q => lentY q
  have hup : Leads (upN σ) μ (muN σ μ) := by
    intro i ver j u hj
    obtain ⟨c, hm, e⟩ := upN_mem hj
    cases e
    obtain ⟨b, l, _, _, h3, h4, _, _⟩ := hμ hm
    exact ⟨l, _, h3, h4, muN_of hσ hm h3, rfl, rfl, rfl, rfl⟩
  have hkeep : ∀ q, ¬ Yof B.X μ q → q < w.heap.size → ¬ Yof X (muN σ μ) q ∧ w.heap[q]? = w.heap[q]? := fun q hq _ => ⟨fun hy => hq ((hY q).1 hy), rfl⟩
  have hinv : Inv w X (muN σ μ) (lendM σ s.mem σ) := by
    refine ⟨fun j hj => ?_, fun j b' hj => ?_, fun j j' l l' g n n' h1 h2 h3 h4 => ?_, fun g hg hx => hx.2 hg⟩
    · rw [find_lendM] at hj
      unfold muN
      cases hd : dnO σ j with
      | none => rfl
      | some p =>
        rw [hd] at hj
        obtain ⟨b, l, hb, _⟩ := hμ (dnO_mem hd)
        simp [hb] at hj
    · rw [find_lendM] at hj
      cases hd : dnO σ j with
      | none => rw [hd] at hj; cases hj
      | some p =>
        rw [hd] at hj
        have hm := dnO_mem hd
        obtain ⟨b, l, hb, hv, hml, hlv, hls, hh⟩ := hμ hm
        simp only [Option.bind_some, hb, Option.map_some, Option.some.injEq] at hj
        subst hj
        refine ⟨_, muN_of hσ hm hml, rfl, hls, ?_⟩
        unfold Holds at hh ⊢
        have hlen : (if b.var = true then renL (upN σ) b.els else b.els).length = b.els.length := by split <;> simp [renL_length]
        refine ⟨by dsimp only; rw [hlen]; exact hh.1, ?_⟩
        have h2 := hh.2
        dsimp only
        cases hbk : l.blk with
        | none =>
          rw [hbk] at h2
          exact List.eq_nil_of_length_eq_zero (by rw [hlen, h2]; rfl)
        | some gn =>
          obtain ⟨g', n'⟩ := gn
          rw [hbk] at h2
          refine ⟨fun hz => ?_, fun hz => ?_⟩
          · obtain ⟨c, el, hw, hcs, hfit, h1, hr⟩ := h2.1 hz
            refine ⟨c, el, hw, hcs, by rw [hlen]; exact hfit, h1, fun k hk => ?_⟩
            rw [hlen] at hk
            obtain ⟨r1, r2⟩ := hr k hk
            cases hvr : b.var with
            | true =>
              rw [hvr] at r2
              simp only [if_true] at r2 ⊢
              rw [renL_get hk, renA_width, renA_elemVal]
              exact ⟨r1, (ren_rep hup r2 rfl).mono hkeep (Mu.later.refl _)⟩
            | false =>
              rw [hvr] at r2
              simp only [Bool.false_eq_true, if_false] at r2 ⊢
              exact ⟨r1, r2.mono hkeep (Mu.later.refl _)⟩
          · obtain ⟨hv0, es, clock, hw, hs, hr⟩ := h2.2 hz
            simp only [hv0, Bool.false_eq_true, if_false]
            exact ⟨trivial, es, clock, hw, hs, fun i hi => (hr i hi).mono hkeep (Mu.later.refl _)⟩
    · obtain ⟨i, v, l1, m1, e1, rfl⟩ := muN_some h1
      obtain ⟨i', v', l2, m2, e2, rfl⟩ := muN_some h2
      have := h.inv.apart i i' l1 l2 g n n' e1 e2 h3 h4
      subst this
      exact (names_one hσ m1 m2).2
  refine ⟨hinv, fun hr => (ren_rep hup hr rfl).mono hkeep (Mu.later.refl _), fun q hq => ?_, fun id l hl => ?_⟩
  · rcases hq.1 with hx | hx
    · exact Nat.lt_of_lt_of_le (h.base q hx).1 h.ext.size
    · exact blks.lt h.inv hx
  · obtain ⟨_, _, _, _, _, rfl⟩ := muN_some hl
    rfl
theorem lend_back {μ : Mu} (h : RelM B w a s μ) {σ : Names} (hσ : namesOK s.mem σ) {w'' : World} (hext : Ext w w'' (blks (muN σ μ))) {m' : List (Nat × Option Box)} (hinv' : Inv w'' (lentX B σ μ) (muN σ μ) m') :
    RelM B w'' a ⟨s.env, backM σ m' σ ++ s.mem⟩ μ ∧ ∀ {x : AV} {v : Value}, Rep w'' (Yof (lentX B σ μ) (muN σ μ)) (muN σ μ) x v → Rep w'' (Yof B.X μ) μ (renA (dnN σ) x) v := by
  have hμ : ∀ {i v j : Nat}, (i, v, j) ∈ σ → ∃ b l, find s.mem i = some b ∧ b.ver = v ∧ μ i = some l ∧ l.ver = v ∧ l.sz = b.sz ∧ Holds w (Yof B.X μ) μ l b := by
    intro i v j hm
    obtain ⟨b, hb, hv⟩ := names_mem hσ hm
    obtain ⟨l, h1, h2, h3, h4⟩ := h.inv.box i b hb
    exact ⟨b, l, hb, hv, h1, by rw [h2, hv], h3, h4⟩
  have hsub : ∀ q, blks (muN σ μ) q → blks μ q := by
    intro q hq
    obtain ⟨i, v, j, l, n, _, h2, h3⟩ := blks_muN hq
    exact ⟨i, l, n, h2, h3⟩
  let X : Nat → Prop := lentX B σ μ
  have hY : ∀ q, Yof X (muN σ μ) q ↔ Yof B.X μ q := fun q => lentY q
  have hdn : Leads (dnN σ) (muN σ μ) μ := by
    intro j u i ver hj
    unfold dnN at hj
    split at hj
    · rename_i e
      subst e
      have hm := dnO_mem hj
      obtain ⟨b, l, _, _, h3, h4, _, _⟩ := hμ hm
      exact ⟨_, l, muN_of hσ hm h3, rfl, h3, h4, rfl, rfl, rfl⟩
    · cases hj
  have hback : ∀ q, ¬ Yof X (muN σ μ) q → q < w''.heap.size → ¬ Yof B.X μ q ∧ w''.heap[q]? = w''.heap[q]? := fun q hq _ => ⟨fun hy => hq ((hY q).2 hy), rfl⟩
  have hold : ∀ q, ¬ Yof B.X μ q → q < w.heap.size → ¬ Yof B.X μ q ∧ w''.heap[q]? = w.heap[q]? := fun q hq hlt => ⟨hq, hext.old q hlt fun hb => hq (.inr (hsub q hb))⟩
  have hrel : RelM B w'' a ⟨s.env, backM σ m' σ ++ s.mem⟩ μ := by
    refine ⟨h.defers, h.size, ⟨fun i hi => ?_, fun i b' hi => ?_, h.inv.apart, h.inv.out⟩, fun t => (h.env t).mono hold (Mu.later.refl _), h.ext.trans hext fun g hg hbl => ?_, h.mine, h.base, h.kept⟩
    · dsimp only at hi
      rw [find_backM] at hi
      cases hu : upI σ i with
      | none => rw [hu] at hi; exact h.inv.no i hi
      | some p =>
        rw [hu] at hi
        simp only [Option.map_eq_none_iff] at hi
        have hm := upI_mem hu
        obtain ⟨b, l, _, _, h3, _⟩ := hμ hm
        have h4 := hinv'.no _ hi
        rw [muN_of hσ hm h3] at h4
        cases h4
    · dsimp only at hi
      rw [find_backM] at hi
      cases hu : upI σ i with
      | none =>
        rw [hu] at hi
        obtain ⟨l, h1, h2, h3, h4⟩ := h.inv.box i b' hi
        refine ⟨l, h1, h2, h3, h4.mono hold (Mu.later.refl _) fun g n hg => hext.old g (blks.lt h.inv ⟨i, l, n, h1, hg⟩) fun hbl => ?_⟩
        obtain ⟨i', v, j, l', n', hm, e1, e2⟩ := blks_muN hbl
        have := h.inv.apart i i' l l' g n n' h1 e1 hg e2
        subst this
        exact upI_none hu hm
      | some p =>
        rw [hu] at hi
        simp only [Option.map_eq_some_iff] at hi
        obtain ⟨x, hx, rfl⟩ := hi
        have hm := upI_mem hu
        obtain ⟨b, l, hb, hv, hml, hlv, hls, _⟩ := hμ hm
        obtain ⟨l', e1, e2, e3, hh⟩ := hinv'.box _ x hx
        rw [muN_of hσ hm hml] at e1
        cases e1
        dsimp only at e2 e3
        refine ⟨l, hml, hlv, e3, ?_⟩
        unfold Holds at hh ⊢
        have hlen : (if x.var = true then renL (dnN σ) x.els else x.els).length = x.els.length := by split <;> simp [renL_length]
        refine ⟨by dsimp only; rw [hlen]; exact hh.1, ?_⟩
        have h2 := hh.2
        dsimp only at h2 ⊢
        cases hbk : l.blk with
        | none =>
          rw [hbk] at h2
          exact List.eq_nil_of_length_eq_zero (by rw [hlen, h2]; rfl)
        | some gn =>
          obtain ⟨g', n'⟩ := gn
          rw [hbk] at h2
          refine ⟨fun hz => ?_, fun hz => ?_⟩
          · obtain ⟨c, el, hw, hcs, hfit, h1, hr⟩ := h2.1 hz
            refine ⟨c, el, hw, hcs, by rw [hlen]; exact hfit, h1, fun k hk => ?_⟩
            rw [hlen] at hk
            obtain ⟨r1, r2⟩ := hr k hk
            cases hvr : x.var with
            | true =>
              rw [hvr] at r2
              simp only [if_true] at r2 ⊢
              rw [renL_get hk, renA_width, renA_elemVal]
              exact ⟨r1, (ren_rep hdn r2 rfl).mono hback (Mu.later.refl _)⟩
            | false =>
              rw [hvr] at r2
              simp only [Bool.false_eq_true, if_false] at r2 ⊢
              exact ⟨r1, r2.mono hback (Mu.later.refl _)⟩
          · obtain ⟨hv0, es, clock, hw, hs, hr⟩ := h2.2 hz
            simp only [hv0, Bool.false_eq_true, if_false]
            exact ⟨trivial, es, clock, hw, hs, fun i hi => (hr i hi).mono hback (Mu.later.refl _)⟩
    · rcases h.mine g (hsub g hbl) with ho | hge
      · exact ho
      · omega
  exact ⟨hrel, fun hr => (ren_rep hdn hr rfl).mono hback (Mu.later.refl _)⟩
end

/-! ### a change of a block that holds no values -/
def isData (w : World) (b : Nat) : Prop := (∃ c el fr, w.heap[b]? = some (.cells c el fr)) ∨ ∃ es clock, w.heap[b]? = some (.map es clock)
theorem Rep.mono2 {w w' : World} {Y Y' : Nat → Prop} (hk : ∀ b, ¬ Y b → isData w b → ¬ Y' b ∧ w'.heap[b]? = w.heap[b]?) :
    ∀ {μ : Mu} {a : AV} {v : Value}, Rep w Y μ a v → Rep w' Y' μ a v := by
  intro μ a v h
  induction h with
  | raw h => exact .raw h
  | agg hs h1 h ih => exact .agg hs h1 fun i hi => ih i hi
  | tup hs h ih => exact .tup hs fun i hi => ih i hi
  | nil => exact .nil
  | seq hY hb hc hf hbig hfit hw h1 h ih =>
    obtain ⟨y, e⟩ := hk _ hY (.inl ⟨_, _, _, hb⟩)
    exact .seq y (e.trans hb) hc hf hbig hfit hw h1 fun i hi => ih i hi
  | ipt hY hb hfit h1 h ih =>
    obtain ⟨y, e⟩ := hk _ hY (.inl ⟨_, _, _, hb⟩)
    exact .ipt y (e.trans hb) hfit h1 ih
  | pt hm hv hb hz => exact .pt hm hv hb hz
  | ptOld hm hv => exact .ptOld hm hv
  | slNil hm hv hnf => exact .slNil hm hv hnf
  | sl hm hv hb hc hfit hz => exact .sl hm hv hb hc hfit hz
  | slOld hm hv => exact .slOld hm hv
  | fn hs ht h k ih ik => exact .fn hs ht (fun i hi => ih i hi) fun i hi => ik i hi
  | mp hm hv hb hz => exact .mp hm hv hb hz
  | mpOld hm hv => exact .mpOld hm hv
  | map hY hb hs hbig h ih =>
    obtain ⟨y, e⟩ := hk _ hY (.inr ⟨_, _, hb⟩)
    exact .map y (e.trans hb) hs hbig fun i hi => ih i hi
  | maybe h0 h ih => exact .maybe h0 fun g => ih g
  | junk => exact .junk

theorem Holds.mono2 {w w' : World} {Y Y' : Nat → Prop} {μ : Mu} {l : Loc} {b : Box} (h : Holds w Y μ l b)
    (hk : ∀ b, ¬ Y b → isData w b → ¬ Y' b ∧ w'.heap[b]? = w.heap[b]?)
    (hg : ∀ g n, l.blk = some (g, n) → isData w g → w'.heap[g]? = w.heap[g]?) : Holds w' Y' μ l b := by
  unfold Holds at *
  refine ⟨h.1, ?_⟩
  cases hb : l.blk with
  | none => rw [hb] at h; exact h.2
  | some gn =>
    obtain ⟨g, n⟩ := gn
    rw [hb] at h
    obtain ⟨_, hc, hmp⟩ := h
    refine ⟨fun hz => ?_, fun hz => ?_⟩
    · obtain ⟨c, el, hw, hs, hn, h1, hr⟩ := hc hz
      exact ⟨c, el, (hg g n hb (.inl ⟨_, _, _, hw⟩)).trans hw, hs, hn, h1, fun i hi => ⟨(hr i hi).1, (hr i hi).2.mono2 hk⟩⟩
    · obtain ⟨hv, es, clock, hw, hs, hr⟩ := hmp hz
      exact ⟨hv, es, clock, (hg g n hb (.inr ⟨_, _, hw⟩)).trans hw, hs, fun i hi => (hr i hi).mono2 hk⟩
theorem Inv.mono2 {w w' : World} {X X' : Nat → Prop} {μ : Mu} {m : List (Nat × Option Box)} (h : Inv w X μ m)
    (hk : ∀ b, ¬ Yof X μ b → isData w b → ¬ Yof X' μ b ∧ w'.heap[b]? = w.heap[b]?) (hg : ∀ g, blks μ g → isData w g → w'.heap[g]? = w.heap[g]?) (ho : ∀ g, blks μ g → ¬ X' g) : Inv w' X' μ m :=
  ⟨h.no, fun id b hb => by
    obtain ⟨l, hm, hv, hs, hh⟩ := h.box id b hb
    exact ⟨l, hm, hv, hs, hh.mono2 hk fun g n hgn => hg g ⟨id, l, n, hm, hgn⟩⟩, h.apart, ho⟩
theorem ext_put {w : World} {r : Nat} (o : Obj) {own : Nat → Prop} (h : own r) : Ext w (w.putObj r o) own :=
  ⟨⟨rfl, Nat.le_refl _⟩, rfl, rfl, by simp, fun b _ hn => World.putObj_heap_other fun e => hn (e ▸ h)⟩
theorem not_data_loop {w : World} {r : Nat} {x : Loop} (h : w.heap[r]? = some (.loop x)) : ¬ isData w r := by
  rintro (⟨c, el, fr, e⟩ | ⟨es, clock, e⟩) <;> rw [h] at e <;> cases e
theorem not_data_def {w : World} {r : Nat} {x : Option (List Deferred)} (h : w.heap[r]? = some (.deferred x)) : ¬ isData w r := by
  rintro (⟨c, el, fr, e⟩ | ⟨es, clock, e⟩) <;> rw [h] at e <;> cases e
theorem Ext.at {w w' : World} {own : Nat → Prop} (h : Ext w w' own) {r : Nat} {o : Obj} (hr : w.heap[r]? = some o) (hn : ¬ own r) : w'.heap[r]? = some o :=
  (h.old r (lt_of_heap hr) hn).trans hr
theorem isData_lt {w : World} {b : Nat} (h : isData w b) : b < w.heap.size := by
  rcases h with ⟨_, _, _, e⟩ | ⟨_, _, e⟩ <;> exact lt_of_heap e

/-! ### the lent boxes at the end of a stretch of code -/
theorem lent_end {B : Base} {w w' : World} {a' : Act} {s' : St} {μ μf : Mu} {m m' : List (Nat × Option Box)} (hmu : B.mu0 = μ) (hinv : Inv w B.X μ m) (hver : ∀ id l, μ id = some l → l.ver = 0) (hsome : (m.all fun p => p.2.isSome) = true)
    (hrel' : RelM B w' a' s' μf) (hlk : LentB s'.mem m') (hkeys : m.map (·.1) = m'.map (·.1)) (hwm : inKeysM (m.map (·.1)) m' = true) : Inv w' B.X μ m' := by
  have hsame : ∀ id ∈ m.map (·.1), ∃ l, μf id = some l ∧ μ id = some l := by
    intro id hid
    obtain ⟨b0, hb0⟩ := keys_find hsome hid
    obtain ⟨l0, h0, hv0, _⟩ := hinv.box id b0 hb0
    rw [hkeys] at hid
    obtain ⟨b, _, h2, h3⟩ := lentB_mem hlk id hid
    obtain ⟨l, h4, h5, _⟩ := hrel'.inv.box id b h2
    refine ⟨l, h4, ?_⟩
    rcases hrel'.kept id l0 l (by rw [hmu]; exact h0) h4 with e | e
    · rw [e]; exact h0
    · omega
  have hsub : ∀ q, ¬ Yof B.X μf q → q < w'.heap.size → ¬ Yof B.X μ q ∧ w'.heap[q]? = w'.heap[q]? := by
    intro q hq _
    refine ⟨fun hy => hq ?_, rfl⟩
    rcases hy with hy | ⟨i, l, n, h1, h2⟩
    · exact .inl hy
    · have hi : i ∈ m.map (·.1) := by
        cases hfi : find m i with
        | none => rw [hinv.no i hfi] at h1; cases h1
        | some b => exact find_keys hfi
      obtain ⟨l', h3, h4⟩ := hsame i hi
      rw [h1] at h4
      cases h4
      exact .inr ⟨i, l, n, h3, h2⟩
  have hon : ∀ {x : AV} {v : Value}, inKeys (m.map (·.1)) x.refs = true → Rep w' (Yof B.X μf) μf x v → Rep w' (Yof B.X μ) μ x v := by
    intro x v hx hrp
    refine (hrp.on (μ' := μ) fun id hid => ?_).mono hsub (Mu.later.refl _)
    obtain ⟨l, h1, h2⟩ := hsame id (inKeys_mem hx id hid)
    rw [h1, h2]
  refine ⟨fun id hid => ?_, fun id b hid => ?_, hinv.apart, hinv.out⟩
  · cases hfi : find m id with
    | none => exact hinv.no id hfi
    | some b =>
      have := find_keys hfi
      rw [hkeys] at this
      obtain ⟨b', h1, _⟩ := lentB_mem hlk id this
      rw [hid] at h1; cases h1
  · have hk := find_keys hid
    obtain ⟨b', h1, h2, h3⟩ := lentB_mem hlk id hk
    rw [hid] at h1
    cases h1
    rw [← hkeys] at hk
    obtain ⟨l, h4, h5⟩ := hsame id hk
    obtain ⟨l', h6, h7, h8, hh⟩ := hrel'.inv.box id b h2
    rw [h4] at h6
    cases h6
    refine ⟨l, h5, h7, h8, ?_⟩
    unfold Holds at hh ⊢
    refine ⟨hh.1, ?_⟩
    have h2 := hh.2
    cases hbk : l.blk with
    | none => rw [hbk] at h2; exact h2
    | some gn =>
      obtain ⟨g', n'⟩ := gn
      rw [hbk] at h2
      refine ⟨fun hz => ?_, fun hz => ?_⟩
      · obtain ⟨c, el, hw, hcs, hfit, h1, hr⟩ := h2.1 hz
        refine ⟨c, el, hw, hcs, hfit, h1, fun i hi => ⟨(hr i hi).1, ?_⟩⟩
        have h9 := (hr i hi).2
        cases hv : b.var with
        | true =>
          rw [hv] at h9
          have hal := inKeysM_find hwm hid hv
          refine hon ?_ h9
          unfold inKeys
          rw [List.all_eq_true]
          intro id' hid'
          have := inKeys_mem hal id' (AV.mem_refsL hi hid')
          simpa using this
        | false => rw [hv] at h9; exact h9.mono hsub (Mu.later.refl _)
      · obtain ⟨hv0, es, clock, hw, hs, hr⟩ := h2.2 hz
        exact ⟨hv0, es, clock, hw, hs, fun i hi => (hr i hi).mono hsub (Mu.later.refl _)⟩

/-! ### the contract of what is ranged over -/
/-- Nothing that lay at a call's begin has been changed but what may be. -/
def Keep (w : World) (X : Nat → Prop) (w' : World) : Prop := ∀ b, b < w.heap.size → ¬ X b → w'.heap[b]? = w.heap[b]?
def IterP (P : Program) (f : FuncId) (caps : List AV) (L : List (List Value)) : Prop :=
  Enter P f ∧ ∀ (l : Nat) (w : World) (X : Nat → Prop) (vs : Array Value), (∀ b, X b → b < w.heap.size) → vs.size = caps.length → (∀ i, i < caps.length → Rep w X Mu.none (caps.getD i .junk) (vs.getD i undef)) →
    ∀ (J : Nat → World → Prop) (Jx : World → Prop), (∀ k W W', J k W → Grows W W' → J k W') → (∀ W W', Jx W → Grows W W' → Jx W') → (∀ k W, J k W → Keep w X W) →
      (∀ k W, k < L.length → J k W → YieldAt Fence.wide 0 P l (L.getD k []).toArray W fun e W' => (e = .returned (.bool true) ∧ J (k + 1) W') ∨ (e = .returned (.bool false) ∧ Jx W')) →
      J 0 w → CallsIn Fence.wide 0 P f (#[.func (.yield l) #[] #[]] ++ vs) w fun e W' => (∃ v, e = .returned v) ∧ (J L.length W' ∨ Jx W')

/-! ### code with a range over a function -/
inductive RCode where
  | code (a : ACode)
  | seq (a b : RCode)
  | cond (c : Operand) (a b : RCode)
  | block (id : Nat) (a : RCode)
  | range (g : Operand) (ps : List Nat) (asg body : ACode)
def stripR (N : Nat) (G : Nat → List Nat) : Code → Option RCode
  | .seq a b => match strip N G (.seq a b) with
    | some x => some (.code x)
    | none => (stripR N G a).bind fun x => (stripR N G b).map fun y => .seq x y
  | .cond c a b => match strip N G (.cond c a b) with
    | some x => some (.code x)
    | none => (stripR N G a).bind fun x => (stripR N G b).map fun y => .cond c x y
  | .block id b => match strip N G (.block id b) with
    | some x => some (.code x)
    | none => (stripR N G b).map fun x => .block id x
  | .rangeFunc g ps asg body =>
    if noDefC asg && noDefC body && ps.toList.all (fun t => decide (t < N)) then (strip N G asg).bind fun x => (strip N G body).map fun y => .range g ps.toList x y else none
  | c => (strip N G c).map .code

def renE (f : Nat → Nat → Option (Nat × Nat)) : List (Nat × AV) → List (Nat × AV)
  | [] => []
  | (k, v) :: l => (k, renA f v) :: renE f l
theorem get_renE {f : Nat → Nat → Option (Nat × Nat)} : ∀ (e : List (Nat × AV)) (t : Nat), get (renE f e) t = renA f (get e t)
  | [], t => by simp [renE, get, renA]
  | (k, v) :: l, t => by
    simp only [renE, get]
    split
    · rfl
    · exact get_renE l t
/-- The parameters of a round. -/
def parE : List Nat → List Value → List (Nat × AV)
  | t :: ts, v :: vs => parE ts vs ++ [(t, .raw v)]
  | _, _ => []
theorem par_rep {w : World} {Y : Nat → Prop} {μ : Mu} : ∀ (ts : List Nat) (vs : List Value) (tmps : Array Value) (E : List (Nat × AV)), (∀ t, Rep w Y μ (get E t) (tmps.getD t undef)) → (∀ t ∈ ts, t < tmps.size) → (∀ v ∈ vs, v.oneCell' = true) →
    (∀ t, Rep w Y μ (get (parE ts vs ++ E) t) (((ts.zip vs).foldl (fun tm (p : Nat × Value) => tm.setIfInBounds p.1 p.2) tmps).getD t undef)) ∧ ((ts.zip vs).foldl (fun tm (p : Nat × Value) => tm.setIfInBounds p.1 p.2) tmps).size = tmps.size
  | [], vs, tmps, E, h, _, _ => by simpa [parE] using h
  | t :: ts, [], tmps, E, h, _, _ => by simpa [parE] using h
  | t :: ts, v :: vs, tmps, E, h, h1, h2 => by
    have ih := par_rep (w := w) (Y := Y) (μ := μ) ts vs (tmps.setIfInBounds t v) ((t, .raw v) :: E) (fun t' => by
      rw [getD_set (h1 t (by simp))]
      simp only [get]
      by_cases e : t' = t
      · rw [if_pos e, if_pos e]
        exact .raw (h2 v (by simp))
      · rw [if_neg e, if_neg e]
        exact h t') (fun t' ht' => by simpa using h1 t' (by simp [ht'])) (fun v' hv' => h2 v' (by simp [hv']))
    simp only [parE, List.append_assoc, List.cons_append, List.nil_append, List.zip_cons_cons, List.foldl_cons]
    exact ⟨ih.1, by rw [ih.2]; simp⟩

/-- What the memory must be for rounds: boxes of version 0, no names but theirs. -/
def RoundM (ks : List Nat) (m : List (Nat × Option Box)) : Prop := ks = m.map (·.1) ∧ (m.all fun p => p.2.isSome) = true ∧ inKeysM ks m = true
def noQ : AExit → St → Prop := fun _ _ => False
/-- A range over a function. -/
def RangeK (P : Program) (F : (AExit → St → Prop) → St → Prop) (ps : List Nat) (g : Operand) (Q : AExit → St → Prop) (s : St) (_t : Tag F := ()) : Prop :=
  ∃ (s0 : St) (f : FuncId) (caps : List AV) (L : List (List Value)) (σ : Names) (M : Nat → List (Nat × Option Box) → Prop), le s s0 ∧
    ev s0.env g = .fn f [] caps ∧ AV.refsL caps = [] ∧ IterP P f caps L ∧ namesOK s0.mem σ ∧ (∀ k, k < L.length → (L.getD k []).length = ps.length ∧ ∀ v ∈ L.getD k [], v.oneCell' = true) ∧
    M 0 (lendM σ s0.mem σ) ∧ ((lendM σ s0.mem σ).all fun p => p.2.isSome) = true ∧
    (∀ k m, k < L.length → M k m → (m.map (·.1) = (lendM σ s0.mem σ).map (·.1)) → F (fun e s' => ∃ m', LentB s'.mem m' ∧ RoundM (m.map (·.1)) m' ∧
      match e with
      | .normal => M (k + 1) m'
      | .exit id => Q (.exit id) ⟨s0.env, backM σ m' σ ++ s0.mem⟩
      | .ret => Q .ret ⟨s0.env, backM σ m' σ ++ s0.mem⟩) ⟨parE ps (L.getD k []) ++ renE (upN σ) s0.env, m⟩) ∧
    ∀ m, M L.length m → Q .normal ⟨s0.env, backM σ m σ ++ s0.mem⟩

def vcR (P : Program) (T : TT) (O : List Nat) : RCode → (AExit → St → Prop) → St → Prop
  | .code a, Q, s => vc P T O a Q s
  | .seq a b, Q, s => vcR P T O a (thenQ (vcR P T O b Q) Q) s
  | .cond c a b, Q, s => CondK (ev s.env c) (vcR P T O a Q s) (vcR P T O b Q s)
  | .block id b, Q, s => vcR P T O b (blockQ id Q) s
  | .range g ps asg body, Q, s => RangeK P (fun Q' => vc P T O asg (thenQ (vc P T O body Q') noQ)) ps g Q s

/-! ### that it is enough -/
def markOf (r : Nat) : Deferred := { target := .collected r, args := #[] }
/-- What has come between two bases: marks among the deferred calls. -/
structure Sub (B' B : Base) : Prop where
  N : B'.N = B.N
  mu : B'.mu0 = B.mu0
  X : B'.X = B.X
  ext : Ext B.w0 B'.w0 B.own
  own : ∀ g, B'.own g → B.own g ∨ B.w0.heap.size ≤ g
  marks : ∃ rs : List Nat, B'.dfs = rs.map markOf ++ B.dfs ∧ rs.Nodup ∧ ∀ r ∈ rs, B.w0.heap.size ≤ r ∧ ¬ B'.own r ∧ B'.w0.heap[r]? = some (.deferred (some []))
theorem Sub.refl (B : Base) : Sub B B := ⟨rfl, rfl, rfl, Ext.refl _ _, fun _ h => .inl h, [], rfl, List.nodup_nil, fun r h => by cases h⟩
theorem Sub.trans {B'' B' B : Base} (k : Sub B'' B') (h : Sub B' B) : Sub B'' B := by
  obtain ⟨rs, e1, n1, m1⟩ := h.marks
  obtain ⟨rs', e2, n2, m2⟩ := k.marks
  refine ⟨k.N.trans h.N, k.mu.trans h.mu, k.X.trans h.X, h.ext.trans k.ext fun g hg ho => ?_, fun g hg => ?_, rs' ++ rs, by rw [e2, e1]; simp, ?_, fun r hr => ?_⟩
  · rcases h.own g ho with h1 | h1
    · exact h1
    · omega
  · have := h.ext.size
    rcases k.own g hg with h1 | h1
    · exact h.own g h1
    · exact .inr (by omega)
  · rw [List.nodup_append]
    refine ⟨n2, n1, fun x hx y hy e => ?_⟩
    subst e
    have h1 := (m2 x hx).1
    have h2 := lt_of_heap (m1 x hy).2.2
    omega
  · have := h.ext.size
    rcases List.mem_append.1 hr with hr | hr
    · obtain ⟨h1, h2, h3⟩ := m2 r hr
      exact ⟨by omega, h2, h3⟩
    · obtain ⟨h1, h2, h3⟩ := m1 r hr
      refine ⟨h1, fun ho => ?_, k.ext.at h3 h2⟩
      have h4 := lt_of_heap h3
      rcases k.own r ho with h5 | h5
      · exact h2 h5
      · omega
def postX (B : Base) (Q : AExit → St → Prop) (e : Exit) (a : Act) (w : World) : Prop := ∃ B', Sub B' B ∧ post B' Q e a w

section
variable {P : Program} {T : TT} (hT : TOK P T) {O : List Nat}
include hT in
theorem range_sound (hm : P.follows .mixedOrders = true) {N : Nat} {G : Nat → List Nat} {g : Operand} {ps : Array Tmp} {asg body : Code} {x y : ACode} (hnd : noDefC asg = true) (hnd2 : noDefC body = true) (hps : ∀ t ∈ ps.toList, t < N)
    (hx : strip N G asg = some x) (hy : strip N G body = some y) {Q : AExit → St → Prop} {s : St} (h : RangeK P (fun Q' => vc P T O x (thenQ (vc P T O y Q') noQ)) ps.toList g Q s) {B : Base} {w : World} {a : Act} (hN : B.N = N) (hr : Rel B w a s) :
    (Code.rangeFunc g ps asg body).wp P (postX B Q) a w := by
  obtain ⟨s0, f, caps, L, σ, M, hle, hev, hcap, ⟨⟨fn', hfn, hname, hbody⟩, hit⟩, hσ, hL, hM0, hsome, hround, hdone⟩ := h
  obtain ⟨μ, hr⟩ := le_rel hle hr
  refine (wpIn_wide (n := 0)).1 (wpIn_rangeFunc fun fn _ => ?_)
  have hfrep := rep_ev hr g
  rw [hev] at hfrep
  generalize hfv : a.eval g = fv at hfrep
  cases hfrep with
  | fn h0 ht hp hq =>
  rename_i fs cs
  have hfs : fs = #[] := Array.eq_empty_of_size_eq_zero (by simpa using h0)
  subst hfs
  obtain ⟨rec, hrec⟩ : ∃ rec : LoopState → Option Code → Loop, rec = fun st pe => { state := st, pending := pe, fn, tmps := a.tmps, params := ps, assign := asg, body, defers := w.heap.size } := ⟨_, rfl⟩
  obtain ⟨W1, hW1⟩ : ∃ W1, (w.alloc (.deferred (some []))).alloc (.loop (rec .ready none)) = W1 := ⟨_, rfl⟩
  have hL1 : W1.heap[w.heap.size + 1]? = some (.loop (rec .ready none)) := by
    rw [← hW1]; have := World.alloc_heap_new (w.alloc (.deferred (some []))) (.loop (rec .ready none)); rwa [World.size_alloc] at this
  have hK1 : W1.heap[w.heap.size]? = some (.deferred (some [])) := by
    rw [← hW1, alloc_old _ _ (by simp)]; exact World.alloc_heap_new w _
  have hG1 : Grows w W1 := by rw [← hW1]; exact (Grows.alloc _ _).trans (Grows.alloc _ _)
  refine ⟨w.heap.size + 1, [markOf w.heap.size], W1, { target := .fn (.func f) cs, args := #[.func (.yield (w.heap.size + 1)) #[] #[]] }, W1, f, #[.func (.yield (w.heap.size + 1)) #[] #[]] ++ cs, W1, ?_, ?_, fun _ _ => trivial, ?_, fun h => ?_, ?_⟩
  · rw [← hW1, hrec]; exact run_enterLoop_outer _ _ _ _ _
  · simp only [resolve, rangeCall, hfv]
    simp [Deferred.ofValue]
    rfl
  · simp [invoke, callFunc, hfn, hname, hbody]
  · simp [Fence.wide] at h
  show CallsIn Fence.wide 0 P f _ W1 _
  obtain ⟨hinv0, hren, hXl, hver⟩ := lend_go hr hσ
  obtain ⟨Xr, hXr⟩ : ∃ Xr : Nat → Prop, Xr = fun q => lentX B σ μ q ∨ q = w.heap.size ∨ q = w.heap.size + 1 := ⟨_, rfl⟩
  have hXk : Xr w.heap.size := by rw [hXr]; exact .inr (.inl rfl)
  have hXm : Xr (w.heap.size + 1) := by rw [hXr]; exact .inr (.inr rfl)
  have hbl : ∀ q, blks (muN σ μ) q → q < w.heap.size := fun q hb => blks.lt hinv0 hb
  have hW1s : w.heap.size + 1 < W1.heap.size := lt_of_heap hL1
  have hXlt : ∀ q, Xr q → q < W1.heap.size := by
    intro q hq'
    rw [hXr] at hq'
    rcases hq' with h1 | h1 | h1
    · have := hXl q h1; omega
    · omega
    · omega
  have hout : ∀ q, blks (muN σ μ) q → ¬ Xr q := by
    intro q hb hx'
    rw [hXr] at hx'
    have := hbl q hb
    rcases hx' with h1 | h1 | h1
    · exact h1.2 hb
    · omega
    · omega
  have hY0 : ∀ b, ¬ Yof B.X μ b → b < w.heap.size → ¬ Yof Xr (muN σ μ) b := by
    intro b hb hlt hy'
    rcases hy' with hx' | hb'
    · rw [hXr] at hx'
      rcases hx' with h1 | h1 | h1
      · exact hb ((lentY (B := B) (σ := σ) (μ := μ) b).1 (.inl h1))
      · omega
      · omega
    · exact hb ((lentY (B := B) (σ := σ) (μ := μ) b).1 (.inr hb'))
  let own' : Nat → Prop := fun q => blks (muN σ μ) q ∨ q = w.heap.size + 1
  let J : Nat → World → Prop := fun k W => ∃ m, M k m ∧ m.map (·.1) = (lendM σ s0.mem σ).map (·.1) ∧ (m.all fun p => p.2.isSome) = true ∧ Inv W Xr (muN σ μ) m ∧ Ext W1 W own' ∧ W.heap[w.heap.size + 1]? = some (.loop (rec .ready none))
  let Jx : World → Prop := fun W => ∃ (jump : Code) (e : AExit) (m : List (Nat × Option Box)), ((∃ id, jump = .exit id ∧ e = .exit id) ∨ (jump = .ret ∧ e = .ret)) ∧ Q e ⟨s0.env, backM σ m σ ++ s0.mem⟩ ∧ Inv W Xr (muN σ μ) m ∧ Ext W1 W own' ∧ W.heap[w.heap.size + 1]? = some (.loop (rec .done (some jump)))
  have hinvput : ∀ {W : World} {m : List (Nat × Option Box)} {r : Loop} (o : Obj), Inv W Xr (muN σ μ) m → W.heap[w.heap.size + 1]? = some (.loop r) → Inv (W.putObj (w.heap.size + 1) o) Xr (muN σ μ) m := by
    intro W m r o hi hl
    refine hi.mono2 (fun b hb _ => ⟨hb, World.putObj_heap_other fun e => hb (.inl (e ▸ hXm))⟩) (fun q hq' hd => World.putObj_heap_other fun e => ?_) hi.out
    subst e
    exact not_data_loop hl hd
  have fin : ∀ (m : List (Nat × Option Box)) (W : World) (r : Loop) (o : Obj), Inv W Xr (muN σ μ) m → Ext W1 W own' → W.heap[w.heap.size + 1]? = some (.loop r) →
      ∃ B', Sub B' B ∧ Rel B' (W.putObj (w.heap.size + 1) o) { a with defers := [markOf w.heap.size] ++ a.defers } ⟨s0.env, backM σ m σ ++ s0.mem⟩ := by
    intro m W r o hi hx1 hl
    have hi2 := hinvput o hi hl
    have hi3 : Inv (W.putObj (w.heap.size + 1) o) (lentX B σ μ) (muN σ μ) m := by
      refine hi2.mono2 (fun b hb _ => ⟨fun hy' => hb ?_, rfl⟩) (fun _ _ _ => rfl) fun q hq' hx' => hi2.out q hq' ?_
      · rcases hy' with h1 | h1
        · exact .inl (by rw [hXr]; exact .inl h1)
        · exact .inr h1
      · rw [hXr]; exact .inl hx'
    have hx2 : Ext w (W.putObj (w.heap.size + 1) o) (blks (muN σ μ)) := by
      refine ((hG1.ext (blks (muN σ μ))).trans hx1 fun q hlt ho => ?_).trans (ext_put (own := fun q => q = w.heap.size + 1) o rfl) fun q hlt ho => ?_
      · rcases ho with h1 | h1
        · exact h1
        · omega
      · have h1 : q = w.heap.size + 1 := ho
        omega
    obtain ⟨hrel, _⟩ := lend_back hr hσ hx2 hi3
    refine ⟨⟨W.putObj (w.heap.size + 1) o, B.X, blks μ, B.N, B.mu0, [markOf w.heap.size] ++ B.dfs⟩, ⟨rfl, rfl, rfl, hrel.ext, hrel.mine, [w.heap.size], rfl, by simp, fun q hq' => ?_⟩, μ, ?_⟩
    · simp only [List.mem_singleton] at hq'
      subst hq'
      refine ⟨hr.ext.size, fun hb => ?_, ?_⟩
      · have := blks.lt hr.inv hb
        omega
      · dsimp only
        rw [World.putObj_heap_other (by omega)]
        refine hx1.at hK1 fun ho => ?_
        rcases ho with h1 | h1
        · have := hbl _ h1; omega
        · omega
    · exact ⟨by show [markOf w.heap.size] ++ a.defers = _; rw [hr.defers], hrel.size, hrel.inv, hrel.env, Ext.refl _ _, fun q hb => .inl hb, fun b hb => ⟨Nat.lt_of_lt_of_le (hrel.base b hb).1 hrel.ext.size, fun hbl' => hrel.inv.out b hbl' hb⟩, hrel.kept⟩
  refine CallsIn.mono (hit (w.heap.size + 1) W1 (Yof Xr (muN σ μ)) cs (fun b hb => ?_) ht (fun i hi => ?_) J Jx ?_ ?_ ?_ ?_ ?_) ?_
  · rcases hb with h1 | h1
    · exact hXlt b h1
    · have := hbl b h1; omega
  · have h1 := hq i hi
    have h2 : (caps.getD i .junk).refs = [] := by
      rw [List.eq_nil_iff_forall_not_mem]
      intro id hid
      have := AV.mem_refsL hi hid
      rw [hcap] at this
      cases this
    exact (h1.pure h2 Mu.none).mono (fun b hb hlt => ⟨hY0 b hb hlt, hG1.2.2.2.2 b hlt⟩) (Mu.later.refl _)
  · rintro k W W' ⟨m, h1, h2, h3, h4, h5, h6⟩ hg'
    exact ⟨m, h1, h2, h3, hg'.inv h4, h5.trans (hg'.ext own') fun _ _ h => h, (hg'.2.2.2.2 _ (lt_of_heap h6)).trans h6⟩
  · rintro W W' ⟨jump, e, m, h1, h2, h4, h5, h6⟩ hg'
    exact ⟨jump, e, m, h1, h2, hg'.inv h4, h5.trans (hg'.ext own') fun _ _ h => h, (hg'.2.2.2.2 _ (lt_of_heap h6)).trans h6⟩
  · rintro k W ⟨m, h1, h2, h3, h4, h5, h6⟩ b hlt hb
    refine h5.old b hlt fun ho => hb ?_
    rcases ho with h7 | h7
    · exact .inr h7
    · exact .inl (h7 ▸ hXm)
  · -- one round
    rintro k W hk ⟨m, hM, hkeys, hall, hinv, hext, hl⟩
    have hW1W := hext.size
    have hargs := hL k hk
    have hyl := run_yield (P := P) (args := (L.getD k []).toArray) hl (by rw [hrec]; simpa using hargs.1)
    rw [hrec] at hyl
    dsimp only at hyl
    refine ⟨fn, _, asg, body, hyl, roundIn_of_wpIn trivial ?_⟩
    have hfold : (ps.zip (L.getD k []).toArray).foldl (fun tm (p : Nat × Value) => tm.setIfInBounds p.1 p.2) a.tmps = (ps.toList.zip (L.getD k [])).foldl (fun tm (p : Nat × Value) => tm.setIfInBounds p.1 p.2) a.tmps := by
      rw [← Array.foldl_toList, Array.toList_zip]
    have henv0 : ∀ t, Rep W (Yof Xr (muN σ μ)) (muN σ μ) (get (renE (upN σ) s0.env) t) (a.tmps.getD t undef) := by
      intro t
      rw [get_renE]
      refine (hren (hr.env t)).mono (fun b hb hlt => ?_) (Mu.later.refl _)
      have hb' : ¬ Yof B.X μ b := fun h' => hb ((lentY (B := B) (σ := σ) (μ := μ) b).2 h')
      refine ⟨hY0 b hb' hlt, (hext.old b (by omega) fun ho => ?_).trans (hG1.2.2.2.2 b hlt)⟩
      rcases ho with h1 | h1
      · exact hb (.inr h1)
      · omega
    obtain ⟨hpar, hparsz⟩ := par_rep ps.toList (L.getD k []) a.tmps (renE (upN σ) s0.env) henv0 (fun t ht' => by rw [hr.size, hN]; exact hps t ht') hargs.2
    rw [← hfold] at hpar hparsz
    have hframe : RelM ⟨W, Xr, blks (muN σ μ), B.N, muN σ μ, []⟩ W { tmps := (ps.zip (L.getD k []).toArray).foldl (fun tm (p : Nat × Value) => tm.setIfInBounds p.1 p.2) a.tmps, defers := [] } ⟨parE ps.toList (L.getD k []) ++ renE (upN σ) s0.env, m⟩ (muN σ μ) := by
      refine ⟨rfl, by rw [hparsz]; exact hr.size, hinv, hpar, Ext.refl _ _, fun q hb => .inl hb, fun b hb => ⟨Nat.lt_of_lt_of_le (hXlt b hb) hW1W, fun hb' => hinv.out b hb' hb⟩, fun id l0 l h1 h2 => ?_⟩
      have h3 : muN σ μ id = some l0 := h1
      rw [h3] at h2
      cases h2
      exact .inl rfl
    refine wpIn_mono (vc_soundIn (rd := some (w.heap.size + 1)) (n := 0) hT hm asg x hx hnd _ _ (hround k m hk hM hkeys) ⟨W, Xr, blks (muN σ μ), B.N, muN σ μ, []⟩ W _ hN ⟨_, hframe⟩) ?_
    intro e a1 w1 hp1
    cases e with
    | normal =>
      obtain ⟨s1, ⟨μ1, hr1⟩, hq1⟩ := hp1
      have hnb : ¬ blks (muN σ μ) (w.heap.size + 1) := fun hb => by have := hbl _ hb; omega
      have hl1 : w1.heap[w.heap.size + 1]? = some (.loop (rec .ready none)) := hr1.ext.at hl hnb
      refine ⟨_, run_beginRound hl1 (by rw [hrec]), ?_⟩
      generalize hob : Obj.loop { rec .ready none with state := .busy } = ob
      have hd1 : ¬ isData w1 (w.heap.size + 1) := not_data_loop hl1
      have hr2 : RelM ⟨w1.putObj (w.heap.size + 1) ob, Xr, fun q => blks (muN σ μ) q ∨ W.heap.size ≤ q, B.N, muN σ μ, []⟩ (w1.putObj (w.heap.size + 1) ob) a1 s1 μ1 := by
        refine ⟨hr1.defers, hr1.size, hr1.inv.mono2 (fun b hb _ => ⟨hb, World.putObj_heap_other fun e => hb (.inl (e ▸ hXm))⟩) (fun q _ hd => World.putObj_heap_other fun e => hd1 (e ▸ hd)) hr1.inv.out,
          fun t => (hr1.env t).mono2 fun b hb _ => ⟨hb, World.putObj_heap_other fun e => hb (.inl (e ▸ hXm))⟩, Ext.refl _ _, fun q hb => .inl (hr1.mine q hb), fun b hb => ?_, hr1.kept⟩
        have h1 := hXlt b hb
        refine ⟨?_, fun ho => ?_⟩
        · have h2 := hr1.ext.size
          have h3 : W.heap.size ≤ w1.heap.size := h2
          dsimp only
          rw [World.putObj_size]
          omega
        · rcases ho with h2 | h2
          · exact hout b h2 hb
          · omega
      refine wpIn_mono (vc_soundIn (rd := some (w.heap.size + 1)) (n := 0) hT hm body y hy hnd2 _ s1 hq1 ⟨w1.putObj (w.heap.size + 1) ob, Xr, fun q => blks (muN σ μ) q ∨ W.heap.size ≤ q, B.N, muN σ μ, []⟩ _ a1 hN ⟨_, hr2⟩) ?_
      have hself : (w1.putObj (w.heap.size + 1) ob).heap[w.heap.size + 1]? = some (.loop { rec .ready none with state := .busy }) := by
        rw [hob]; exact World.putObj_heap_same (lt_of_heap hl1)
      have hnown : ¬ (blks (muN σ μ) (w.heap.size + 1) ∨ W.heap.size ≤ w.heap.size + 1) := by
        rintro (h1 | h1)
        · exact hnb h1
        · have := lt_of_heap hl; omega
      have hextAll : ∀ {w2 : World} (o : Obj), Ext (w1.putObj (w.heap.size + 1) ob) w2 (fun q => blks (muN σ μ) q ∨ W.heap.size ≤ q) → Ext W1 (w2.putObj (w.heap.size + 1) o) own' := by
        intro w2 o h2
        refine (((hext.trans hr1.ext fun q _ hb => .inl hb).trans (ext_put (own := own') ob (.inr rfl)) fun q _ hb => hb).trans h2 fun q hlt ho => ?_).trans (ext_put (own := own') o (.inr rfl)) fun q _ hb => hb
        rcases ho with h3 | h3
        · exact .inl h3
        · omega
      intro e2 a2 w2 hp2
      cases e2 with
      | normal =>
        obtain ⟨s2, ⟨μ2, hrel2⟩, m', hlent, ⟨hk2, hall2, hin2⟩, hMk⟩ := hp2
        have hl2 := hrel2.ext.at hself hnown
        have hinv2 : Inv w2 Xr (muN σ μ) m' := lent_end rfl hinv hver hall hrel2 hlent hk2 hin2
        refine ⟨_, _, run_endRound none hl2, .inl ⟨rfl, m', hMk, hk2.symm.trans hkeys, hall2, hinvput _ hinv2 hl2, hextAll _ hrel2.ext, ?_⟩⟩
        rw [World.putObj_heap_same (lt_of_heap hl2), hrec]
        rfl
      | exit id =>
        obtain ⟨s2, ⟨μ2, hrel2⟩, m', hlent, ⟨hk2, hall2, hin2⟩, hMk⟩ := hp2
        have hl2 := hrel2.ext.at hself hnown
        have hinv2 : Inv w2 Xr (muN σ μ) m' := lent_end rfl hinv hver hall hrel2 hlent hk2 hin2
        refine ⟨_, _, run_endRound (some (.exit id)) hl2, .inr ⟨rfl, .exit id, .exit id, m', .inl ⟨id, rfl, rfl⟩, hMk, hinvput _ hinv2 hl2, hextAll _ hrel2.ext, ?_⟩⟩
        rw [World.putObj_heap_same (lt_of_heap hl2), hrec]
        rfl
      | ret =>
        obtain ⟨s2, ⟨μ2, hrel2⟩, m', hlent, ⟨hk2, hall2, hin2⟩, hMk⟩ := hp2
        have hl2 := hrel2.ext.at hself hnown
        have hinv2 : Inv w2 Xr (muN σ μ) m' := lent_end rfl hinv hver hall hrel2 hlent hk2 hin2
        refine ⟨_, _, run_endRound (some .ret) hl2, .inr ⟨rfl, .ret, .ret, m', .inr ⟨rfl, rfl⟩, hMk, hinvput _ hinv2 hl2, hextAll _ hrel2.ext, ?_⟩⟩
        rw [World.putObj_heap_same (lt_of_heap hl2), hrec]
        rfl
      | _ => exact hp2.elim
    | exit id =>
      obtain ⟨_, _, hf⟩ := hp1
      exact hf.elim
    | ret =>
      obtain ⟨_, _, hf⟩ := hp1
      exact hf.elim
    | _ => exact hp1.elim
  · -- ahead of the first round
    refine ⟨_, hM0, rfl, hsome, ?_, Ext.refl _ _, hL1⟩
    refine hinv0.mono2 (fun b hb hd => ?_) (fun q hq' _ => hG1.2.2.2.2 q (hbl q hq')) hout
    have hlt := isData_lt hd
    exact ⟨hY0 b (fun h' => hb ((lentY (B := B) (σ := σ) (μ := μ) b).2 h')) hlt, hG1.2.2.2.2 b hlt⟩
  · -- behind it
    rintro e W ⟨⟨v, rfl⟩, hJ | hJx⟩
    · obtain ⟨m, h1, h2, h3, h4, h5, h6⟩ := hJ
      have he := run_endLoop (P := P) h6 (by rw [hrec]; simp)
      generalize Obj.loop { rec .ready none with state := .exhausted } = ob at he
      rw [show (rec .ready none).pending = none by rw [hrec]] at he
      refine ⟨_, _, he, ?_⟩
      obtain ⟨B', hsub, hrel⟩ := fin m W _ ob h4 h5 h6
      exact ⟨B', hsub, _, hrel, hdone m h1⟩
    · obtain ⟨jump, ee, m, hj, hq', h4, h5, h6⟩ := hJx
      have he := run_endLoop (P := P) h6 (by rw [hrec]; simp)
      generalize Obj.loop { rec .done (some jump) with state := .exhausted } = ob at he
      rw [show (rec .done (some jump)).pending = some jump by rw [hrec]] at he
      refine ⟨_, _, he, ?_⟩
      obtain ⟨B', hsub, hrel⟩ := fin m W _ ob h4 h5 h6
      rcases hj with ⟨id, rfl, rfl⟩ | ⟨rfl, rfl⟩
      · exact wpIn_exit ⟨B', hsub, _, hrel, hq'⟩
      · exact wpIn_ret ⟨B', hsub, _, hrel, hq'⟩

include hT in
theorem vcR_sound (hm : P.follows .mixedOrders = true) {N : Nat} {G : Nat → List Nat} : ∀ (c : Code) (rc : RCode), stripR N G c = some rc → ∀ (Q : AExit → St → Prop) (s : St), vcR P T O rc Q s →
    ∀ (B : Base) (w : World) (a : Act), B.N = N → Rel B w a s → c.wp P (postX B Q) a w := by
  have plain : ∀ (c : Code) (x : ACode), strip N G c = some x → ∀ (Q : AExit → St → Prop) (s : St), vc P T O x Q s → ∀ (B : Base) (w : World) (a : Act), B.N = N → Rel B w a s → c.wp P (postX B Q) a w :=
    fun c x hs Q s h B w a hN hr => wp_mono (vc_sound hT hm c x hs Q s h B w a hN hr) fun e a' w' hp => ⟨B, Sub.refl B, hp⟩
  intro c
  induction c with
  | seq c d ihc ihd =>
    intro rc hs Q s h B w a hN hr
    simp only [stripR] at hs
    split at hs
    · rename_i x hx
      cases hs
      exact plain _ x hx Q s h B w a hN hr
    · simp only [Option.bind_eq_some_iff, Option.map_eq_some_iff] at hs
      obtain ⟨x, hx, y, hy, rfl⟩ := hs
      refine wp_seq (wp_mono (ihc x hx _ s h B w a hN hr) ?_)
      rintro e a' w' ⟨B', hsub, hp⟩
      cases e with
      | normal =>
        obtain ⟨s', hr', hq⟩ := hp
        refine wp_mono (ihd y hy Q s' hq B' w' a' (hsub.N.trans hN) hr') ?_
        rintro e2 a2 w2 ⟨B2, hs2, hp2⟩
        exact ⟨B2, hs2.trans hsub, hp2⟩
      | exit id => exact ⟨B', hsub, hp⟩
      | ret => exact ⟨B', hsub, hp⟩
      | _ => exact hp.elim
  | cond t c d ihc ihd =>
    intro rc hs Q s h B w a hN hr
    simp only [stripR] at hs
    split at hs
    · rename_i x hx
      cases hs
      exact plain _ x hx Q s h B w a hN hr
    · simp only [Option.bind_eq_some_iff, Option.map_eq_some_iff] at hs
      obtain ⟨x, hx, y, hy, rfl⟩ := hs
      obtain ⟨μ, hrel⟩ := hr
      have hev := rep_ev hrel t
      simp only [vcR, CondK] at h
      split at h
      · rename_i b hb
        rw [hb] at hev
        exact wp_cond_split hev.one.1 (fun hbt => ihc x hx Q s (h.1 hbt) B w a hN ⟨μ, hrel⟩) (fun hbf => ihd y hy Q s (h.2 hbf) B w a hN ⟨μ, hrel⟩)
      · rename_i g b hb
        rw [hb] at hev
        obtain ⟨hg, h1, h2⟩ := h
        exact wp_cond_split (hev.maybeOf hg).one.1 (fun hbt => ihc x hx Q s (h1 hbt) B w a hN ⟨μ, hrel⟩) (fun hbf => ihd y hy Q s (h2 hbf) B w a hN ⟨μ, hrel⟩)
      · exact h.elim
  | block id c ihc =>
    intro rc hs Q s h B w a hN hr
    simp only [stripR] at hs
    split at hs
    · rename_i x hx
      cases hs
      exact plain _ x hx Q s h B w a hN hr
    · simp only [Option.map_eq_some_iff] at hs
      obtain ⟨x, hx, rfl⟩ := hs
      refine wp_block (wp_mono (ihc x hx _ s h B w a hN hr) ?_)
      rintro e a' w' ⟨B', hsub, hp⟩
      cases e with
      | normal => exact ⟨B', hsub, hp⟩
      | exit id' =>
        obtain ⟨s', hr', hq⟩ := hp
        simp only [blockQ] at hq
        simp only [Exit.inBlock]
        by_cases e : id' = id
        · rw [if_pos e] at hq ⊢
          exact ⟨B', hsub, s', hr', hq⟩
        · rw [if_neg e] at hq ⊢
          exact ⟨B', hsub, s', hr', hq⟩
      | ret => exact ⟨B', hsub, hp⟩
      | _ => exact hp.elim
  | rangeFunc g ps asg body ih1 ih2 =>
    intro rc hs Q s h B w a hN hr
    simp only [stripR] at hs
    split at hs
    · rename_i hc
      simp only [Bool.and_eq_true, List.all_eq_true, decide_eq_true_eq] at hc
      simp only [Option.bind_eq_some_iff, Option.map_eq_some_iff] at hs
      obtain ⟨x, hx, y, hy, rfl⟩ := hs
      exact range_sound hT hm hc.1.1 hc.1.2 hc.2 hx hy h hN hr
    · cases hs
  | _ =>
    intro rc hs Q s h B w a hN hr
    simp only [stripR, Option.map_eq_some_iff] at hs
    obtain ⟨x, hx, rfl⟩ := hs
    exact plain _ x hx Q s h B w a hN hr

theorem leavesM {fn : Func} {a' : Act} {s' : St} {μ : Mu} {w : World} {X : Nat → Prop} {R : Ending → World → Prop}
    (hend : ∀ (B2 : Base) (w2 : World), RelM B2 w2 a' s' μ → B2.X = X → Ext w w2 Noblk → ∃ v, (results fn a'.tmps).run P w2 = .ok v w2 ∧ R (.returned v) w2) :
    ∀ (rs : List Nat) (w' : World) (B2 : Base), rs.Nodup → (∀ r ∈ rs, w.heap.size ≤ r ∧ w'.heap[r]? = some (.deferred (some []))) → RelM B2 w' a' s' μ → B2.X = X → Ext w w' Noblk →
      LeavesInM Fence.wide 0 P fn a'.tmps R (rs.map markOf) .returning w'
  | [], w', B2, _, _, hr, hX, he => hend B2 w' hr hX he
  | r :: rs, w', B2, hnd, hrs, hr, hX, he => by
    rw [List.nodup_cons] at hnd
    obtain ⟨h1, h2⟩ := hrs r (by simp)
    have hnd' := not_data_def h2
    refine ⟨by simp, .inl ⟨r, w'.putObj r (.deferred none), rfl, run_takeDeferred h2, ?_⟩⟩
    have hk : ∀ b, isData w' b → (w'.putObj r (.deferred none)).heap[b]? = w'.heap[b]? := fun b hd => World.putObj_heap_other fun e => hnd' (e ▸ hd)
    refine leavesM hend rs _ ⟨w'.putObj r (.deferred none), B2.X, blks μ, B2.N, B2.mu0, B2.dfs⟩ hnd.2 (fun q hq => ?_) ?_ hX (he.trans (ext_put (own := fun q => q = r) _ rfl) fun q hlt ho => ?_)
    · have hne : q ≠ r := fun e => hnd.1 (e ▸ hq)
      exact ⟨(hrs q (by simp [hq])).1, (World.putObj_heap_other hne).trans (hrs q (by simp [hq])).2⟩
    · refine ⟨hr.defers, hr.size, hr.inv.mono2 (fun b hb hd => ⟨hb, hk b hd⟩) (fun q _ hd => hk q hd) hr.inv.out, fun t => (hr.env t).mono2 fun b hb hd => ⟨hb, hk b hd⟩, Ext.refl _ _, fun q hb => .inl hb, fun b hb => ⟨?_, fun hbl => hr.inv.out b hbl hb⟩, hr.kept⟩
      have h3 := (hr.base b hb).1
      have h4 := hr.ext.size
      dsimp only
      rw [World.putObj_size]
      omega
    · have : q = r := ho
      omega

include hT in
/-- A function's contract, where its body holds a range over a function. -/
theorem callR_of_vc (hm : P.follows .mixedOrders = true) {f : FuncId} {fn : Func} {c : Code} {rc : RCode} {args : List AV} {r : AV} {G : Nat → List Nat} (hf : P.funcs[f]? = some fn) (hb : fn.body = some c) (hname : fn.name ≠ "runtime.NumGoroutine")
    (hs : stripR fn.ntmps G c = some rc) (hn : args.length ≤ fn.ntmps) (h : vcR P T O rc (FinF T fn.results.toList r) ⟨envOf 0 args, []⟩) : CallP P f args r := by
  refine ⟨⟨fn, hf, hname, by rw [hb]; simp⟩, fun w X vs hX hlen hargs => ?_⟩
  let B : Base := ⟨w, X, Noblk, fn.ntmps, Mu.none, []⟩
  have hrel : Rel B w { tmps := vs ++ Array.replicate (fn.ntmps - vs.size) undef, defers := [] } ⟨envOf 0 args, []⟩ := by
    refine ⟨Mu.none, rfl, by simp [B, hlen]; omega, ⟨fun _ _ => rfl, fun id b hfd => by simp [find] at hfd, fun _ _ _ _ _ _ _ h => (by cases h), ?_⟩, fun t => ?_, Ext.refl _ _, ?_, fun b hb => ⟨hX b hb, fun h => h⟩, fun _ _ _ h => by cases h⟩
    · rintro g ⟨_, _, _, h, _⟩; cases h
    · have hY : ∀ q, ¬ X q → q < w.heap.size → ¬ Yof B.X Mu.none q ∧ w.heap[q]? = w.heap[q]? := by
        intro q hq _
        refine ⟨fun hy => ?_, rfl⟩
        rcases hy with hx | ⟨_, _, _, h, _⟩
        · exact hq hx
        · cases h
      rw [get_envOf, if_pos (Nat.zero_le _), Nat.sub_zero]
      by_cases ht : t < args.length
      · have := hargs t ht
        have e : (vs ++ Array.replicate (fn.ntmps - vs.size) undef).getD t undef = vs.getD t undef := by
          simp only [Array.getD_eq_getD_getElem?]
          rw [Array.getElem?_append_left (by omega)]
        rw [e]
        exact this.mono hY (Mu.later.refl _)
      · have : args.getD t .junk = .junk := by simp [List.getD_eq_getElem?_getD, List.getElem?_eq_none (Nat.le_of_not_lt ht)]
        rw [this]
        exact .junk
    · rintro g ⟨_, _, _, h, _⟩; cases h
  refine (callsIn_wide (n := 0)).1 (callsIn_of_wp_marks hf hb trivial (wpIn_wide.2 (wp_mono (vcR_sound hT hm c rc hs _ _ h B w _ rfl hrel) ?_)))
  have fin : ∀ a' w' s' B', Sub B' B → Rel B' w' a' s' → PreK (resL T s' fn.results.toList ∧ snapOK s'.mem (resA (resV T s' fn.results.toList))) (snap s'.mem (resA (resV T s' fn.results.toList)) = r) →
      LeavesInM Fence.wide 0 P fn a'.tmps (fun e w'' => ∃ u, e = .returned u ∧ Grows w w'' ∧ Rep w'' X Mu.none r u) a'.defers .returning w' := by
    rintro a' w' s' B' hsub ⟨μ, hr⟩ ⟨⟨hl, hsn⟩, heq⟩
    obtain ⟨rs, e1, n1, m1⟩ := hsub.marks
    rw [hr.defers, e1]
    simp only [B, List.append_nil]
    have hx : Ext w w' Noblk := hsub.ext.trans hr.ext fun q hlt ho => by
      rcases hsub.own q ho with h1 | h1
      · exact h1
      · have h2 : w.heap.size ≤ q := h1
        have h3 : q < w.heap.size := hlt
        omega
    refine leavesM (w := w) (X := X) (s' := s') (μ := μ) ?_ rs w' B' n1 (fun q hq => ⟨(m1 q hq).1, hr.ext.at (m1 q hq).2.2 (m1 q hq).2.1⟩) hr hsub.X hx
    intro B2 w2 hr2 hX2 he2
    obtain ⟨vl, hrun, hvl, hrep⟩ := run_results hT hr2 fn.results.toList hl
    have hrun2 : (results fn a'.tmps).run P w2 = .ok (if h : vl.length = 1 then vl[0]'(by omega) else .tuple vl.toArray) w2 := by
      rw [results_eq, Sem.run_bind, Array.mapM_eq_mapM_toList, Sem.run_map, hrun]
      simp only [Result.andThen_ok, Sem.run_pure, List.size_toArray, List.getElem_toArray]
    refine ⟨_, hrun2, _, rfl, ⟨he2.os, he2.tape, he2.output, he2.size, fun b hb => he2.old b hb (fun h => h)⟩, ?_⟩
    rw [← heq]
    subst hX2
    refine rep_snap (Y := Yof B2.X μ) ?_ (fun b hy hx => hy (.inl hx)) hr2.inv hsn
    have hlen2 : (resV T s' fn.results.toList).length = vl.length := by rw [resV_length, hvl]
    by_cases h1 : vl.length = 1
    · rw [dif_pos h1]
      cases hq : resV T s' fn.results.toList with
      | nil => rw [hq] at hlen2; simp at hlen2; omega
      | cons x l =>
        cases l with
        | nil =>
          have := hrep 0 (by omega)
          rw [hq] at this
          simp only [resA]
          simpa [List.getD_eq_getElem?_getD, h1] using this
        | cons y l => rw [hq] at hlen2; simp at hlen2; omega
    · rw [dif_neg h1]
      have hra : resA (resV T s' fn.results.toList) = .tup (resV T s' fn.results.toList) := by
        cases hq : resV T s' fn.results.toList with
        | nil => rfl
        | cons x l =>
          cases l with
          | nil => rw [hq] at hlen2; simp at hlen2; omega
          | cons y l => rfl
      rw [hra]
      refine .tup (by simp [hlen2]) fun i hi => ?_
      have := hrep i (by rw [resV_length] at hi; exact hi)
      simpa [Array.getD_eq_getD_getElem?, List.getD_eq_getElem?_getD] using this
  rintro e a' w' ⟨B', hsub, hp⟩
  cases e with
  | normal =>
    obtain ⟨s1, hr1, ids, hz⟩ := hp
    obtain ⟨s', hq, hr⟩ := frzs_rel hz hr1
    exact fin a' w' s' B' hsub hr hq
  | ret =>
    obtain ⟨s1, hr1, ids, hz⟩ := hp
    obtain ⟨s', hq, hr⟩ := frzs_rel hz hr1
    exact fin a' w' s' B' hsub hr hq
  | exit id =>
    obtain ⟨s', hr, hq⟩ := hp
    exact hq.elim
  | _ => exact hp.elim
end
theorem callR_of {P : Program} {T : TT} {O : List Nat} (hT : TOK P T) (hm : P.follows .mixedOrders = true) {f : FuncId} {fn : Func} {rc : RCode} {args : List AV} {r : AV} {N : Nat} {G : Nat → List Nat} {rs : List ResultVar}
    (hf : P.funcs[f]? = some fn) (hname : (fn.name == "runtime.NumGoroutine") = false) (hr : fn.results.toList = rs) (hN : fn.ntmps = N) (hs : fn.body.bind (stripR N G) = some rc) (hn : args.length ≤ N)
    (h : vcR P T O rc (FinF T rs r) ⟨envOf 0 args, []⟩) : CallP P f args r := by
  cases hb : fn.body with
  | none => rw [hb] at hs; cases hs
  | some c =>
    rw [hb] at hs
    subst hN hr
    exact callR_of_vc hT hm hf hb (fun e => by rw [e] at hname; simp at hname) hs hn h
section
variable {P : Program} {T : TT} {O : List Nat} {Q : AExit → St → Prop} {s : St}
@[simp] theorem vcR_code {a : ACode} : vcR P T O (.code a) Q s = vc P T O a Q s := Eq.trans rfl rfl
@[simp] theorem vcR_seq {a b : RCode} : vcR P T O (.seq a b) Q s = vcR P T O a (thenQ (vcR P T O b Q) Q) s := Eq.trans rfl rfl
@[simp] theorem vcR_cond {c : Operand} {a b : RCode} : vcR P T O (.cond c a b) Q s = CondK (ev s.env c) (vcR P T O a Q s) (vcR P T O b Q s) := Eq.trans rfl rfl
@[simp] theorem vcR_block {i : Nat} {b : RCode} : vcR P T O (.block i b) Q s = vcR P T O b (blockQ i Q) s := Eq.trans rfl rfl
@[simp] theorem vcR_range {g : Operand} {ps : List Nat} {asg body : ACode} : vcR P T O (.range g ps asg body) Q s = RangeK P (fun Q' => vc P T O asg (thenQ (vc P T O body Q') noQ)) ps g Q s := Eq.trans rfl rfl
end
/-- How a range over a function is walked. -/
theorem RangeK.by {P : Program} {F : (AExit → St → Prop) → St → Prop} {ps : List Nat} {g : Operand} {Q : AExit → St → Prop} {s : St} (s0 : St) {f : FuncId} {caps : List AV} {L : List (List Value)} (σ : Names) {ι : Type} (I : ι → List (Nat × Option Box)) (Pre : Nat → ι → Prop) (i0 : ι)
    (hit : IterP P f caps L) (hle : le s s0) (hev : ev s0.env g = .fn f [] caps) (hcap : AV.refsL caps = []) (hσ : namesOK s0.mem σ) (hL : ∀ k, k < L.length → (L.getD k []).length = ps.length ∧ ∀ v ∈ L.getD k [], v.oneCell' = true)
    (h0 : lendM σ s0.mem σ = I i0) (hp : Pre 0 i0) (hk : ∀ k i, Pre k i → RoundM ((lendM σ s0.mem σ).map (·.1)) (I i))
    (hround : ∀ (k : Nat) (i : ι) (Q' : AExit → St → Prop), k < L.length → Pre k i → (∀ j s', Pre (k + 1) j → LentB s'.mem (I j) → Q' .normal s') →
      (∀ id m' s', LentB s'.mem m' → RoundM ((I i).map (·.1)) m' → Q (.exit id) ⟨s0.env, backM σ m' σ ++ s0.mem⟩ → Q' (.exit id) s') →
      (∀ m' s', LentB s'.mem m' → RoundM ((I i).map (·.1)) m' → Q .ret ⟨s0.env, backM σ m' σ ++ s0.mem⟩ → Q' .ret s') → F Q' ⟨parE ps (L.getD k []) ++ renE (upN σ) s0.env, I i⟩)
    (hdone : ∀ i, Pre L.length i → Q .normal ⟨s0.env, backM σ (I i) σ ++ s0.mem⟩) : RangeK P F ps g Q s := by
  refine ⟨s0, f, caps, L, σ, fun k m => ∃ i, Pre k i ∧ m = I i, hle, hev, hcap, hit, hσ, hL, ⟨i0, hp, h0⟩, by rw [h0]; exact (hk 0 i0 hp).2.1, fun k m hlt hM hkeys => ?_, fun m hM => ?_⟩
  · obtain ⟨i, hpi, rfl⟩ := hM
    refine hround k i _ hlt hpi (fun j s' hj hl => ⟨I j, hl, ?_, j, hj, rfl⟩) (fun id m' s' hl hm hq => ⟨m', hl, hm, hq⟩) (fun m' s' hl hm hq => ⟨m', hl, hm, hq⟩)
    obtain ⟨e1, e2, e3⟩ := hk (k + 1) j hj
    rw [← hkeys] at e1 e3
    exact ⟨e1, e2, e3⟩
  · obtain ⟨i, hpi, rfl⟩ := hM
    exact hdone i hpi
end Go.Abs
end
