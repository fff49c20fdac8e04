/-
  Strings in order: strings.Compare's row, a < b; compareBytes as an order.
-/
import Derived.Test.YtiomimjjdbijmaaSLMapJ
import Derived.Lib.Bytealg
set_option linter.unusedVariables false
set_option linter.unusedSimpArgs false
namespace Go.Proofs.Ytiomimjjdbijmaa
open Go.Lib
theorem cb_refl : ∀ a : List UInt8, compareBytes a a = 0
  | [] => rfl
  | x :: a => by unfold compareBytes; rw [if_neg (UInt8.lt_irrefl x), if_neg (UInt8.lt_irrefl x)]; exact cb_refl a
theorem cb_zero : ∀ {a b : List UInt8}, compareBytes a b = 0 → a = b
  | [], [], _ => rfl
  | [], _ :: _, h => by simp [compareBytes] at h
  | _ :: _, [], h => by simp [compareBytes] at h
  | x :: a, y :: b, h => by
    unfold compareBytes at h
    split at h
    · simp at h
    · split at h
      · simp at h
      · rename_i h1 h2
        have e : x = y := UInt8.le_antisymm (UInt8.not_lt.1 h2) (UInt8.not_lt.1 h1)
        rw [e, cb_zero h]
theorem cb_neg : ∀ (a b : List UInt8), compareBytes a b = - compareBytes b a
  | [], [] => rfl
  | [], _ :: _ => rfl
  | _ :: _, [] => rfl
  | x :: a, y :: b => by
    unfold compareBytes
    by_cases h1 : x < y
    · have h2 : ¬ y < x := UInt8.not_lt.2 (UInt8.le_of_lt h1)
      simp [h1, h2]
    · by_cases h2 : y < x
      · simp [h1, h2]
      · simp [h1, h2, cb_neg a b]
theorem cb_trans : ∀ {a b c : List UInt8}, compareBytes a b < 0 → compareBytes b c < 0 → compareBytes a c < 0
  | [], [], _, h, _ => by simp [compareBytes] at h
  | [], _ :: _, [], _, h => by simp [compareBytes] at h
  | [], _ :: _, _ :: _, _, _ => by simp [compareBytes]
  | _ :: _, [], _, h, _ => by simp [compareBytes] at h
  | _ :: _, _ :: _, [], _, h => by simp [compareBytes] at h
  | x :: a, y :: b, z :: c, h1, h2 => by
    unfold compareBytes at *
    by_cases q1 : x < y
    · by_cases q2 : y < z
      · rw [if_pos (UInt8.lt_trans q1 q2)]; decide
      · rw [if_neg q2] at h2
        by_cases q3 : z < y
        · rw [if_pos q3] at h2; exact absurd h2 (by decide)
        · have e : y = z := UInt8.le_antisymm (UInt8.not_lt.1 q3) (UInt8.not_lt.1 q2)
          rw [← e, if_pos q1]; decide
    · rw [if_neg q1] at h1
      by_cases q3 : y < x
      · rw [if_pos q3] at h1; exact absurd h1 (by decide)
      · have e : x = y := UInt8.le_antisymm (UInt8.not_lt.1 q3) (UInt8.not_lt.1 q1)
        rw [if_neg q3] at h1
        subst e
        by_cases q2 : x < z
        · rw [if_pos q2]; decide
        · rw [if_neg q2] at h2 ⊢
          by_cases q4 : z < x
          · rw [if_pos q4] at h2; exact absurd h2 (by decide)
          · rw [if_neg q4] at h2 ⊢
            exact cb_trans h1 h2
theorem cb_range : ∀ (a b : List UInt8), compareBytes a b = -1 ∨ compareBytes a b = 0 ∨ compareBytes a b = 1
  | [], [] => .inr (.inl rfl)
  | [], _ :: _ => .inl rfl
  | _ :: _, [] => .inr (.inr rfl)
  | x :: a, y :: b => by
    unfold compareBytes
    split
    · exact .inl rfl
    · split
      · exact .inr (.inr rfl)
      · exact cb_range a b
theorem less_cb : ∀ (a b : List UInt8), Op.bytesLess a b = decide (compareBytes a b < 0)
  | [], [] => rfl
  | [], _ :: _ => rfl
  | _ :: _, [] => rfl
  | x :: a, y :: b => by
    unfold Op.bytesLess compareBytes
    by_cases h1 : x < y
    · have hne : x ≠ y := UInt8.ne_of_lt h1
      simp [h1, hne]
    · by_cases h2 : y < x
      · have hne : x ≠ y := fun e => h1 (by rw [e] at h2; exact absurd h2 (UInt8.lt_irrefl y))
        simp [h1, h2, hne]
      · have e : x = y := UInt8.le_antisymm (UInt8.not_lt.1 h2) (UInt8.not_lt.1 h1)
        subst e
        simp [h1, less_cb a b]
section
variable {X : Ctx} {E : Env} {H : Heap} {o : Oper} {t t' : TypeId} {x y : Operand}
theorem R_strLt {a b : ByteArray} (ho : o.op = .binOp .lss t x y t') (hu : X.P.underlying t = some .string) (hx : Go.Proofs.Ytiomimjjdbijmaa.ev E x = some (.string a)) (hy : Go.Proofs.Ytiomimjjdbijmaa.ev E y = some (.string b)) : Runs X o E H (.bool (decide (compareBytes (byt a) (byt b) < 0))) :=
  R_bin ho hx hy (fun w => by simp [eqGuard]) fun w => by
    rw [binOp_string_lss, ByteArray.toList_eq, ByteArray.toList_eq, Sem.run_pure, less_cb]
/-- The model's row for strings.Compare. -/
theorem R_cmpString {f : FuncId} {fn : Func} {tys : Array TypeId} {a b : ByteArray} (hf : X.P.funcs[f]? = some fn) (hname : (fn.name == "runtime.NumGoroutine") = false) (hb : fn.body.isNone = true) (hn : Extern.findNext fn = none) (he : Extern.find fn = some Extern.BytealgCompare.compare)
    (ho : o.op = .call { callee := .value (.func f), args := #[x, y], argTypes := tys }) (hx : Go.Proofs.Ytiomimjjdbijmaa.ev E x = some (.string a)) (hy : Go.Proofs.Ytiomimjjdbijmaa.ev E y = some (.string b)) : Runs X o E H (.int .i64 (compareBytes (byt a) (byt b))) :=
  ⟨(by rw [ho]; intro c e; cases e), fun A w ha _ => by
    have hcall : (callFunc f #[.string a, .string b]).run X.P w = .ok (.value (.int .i64 (compareBytes (byt a) (byt b)))) w := by
      rw [run_callFunc_extern hf hname hb hn he, run_compareString]; rfl
    have hfe : A.eval (.func f) = .func (.func f) #[] #[] := rfl
    simp [execOp, ho, resolve, ha.eval hx, ha.eval hy, hfe, Deferred.ofValue, invoke, hcall]⟩
end
end Go.Proofs.Ytiomimjjdbijmaa
