/-
  Chapter 17 (registry), part AddrKey: contracts of functions that the laws call, each for the heap it names.
-/
import Derived.Laws.StructEq
import Derived.Test.YtiomimjjdbijmaaRows
import Derived.Test.YtiomimjjdbijmaaZB
import Derived.Test.YtiomimjjdbijmaaTab
import Derived.Test.YtiomimjjdbijmaaAddrL
set_option linter.unusedVariables false
set_option maxRecDepth 20000
namespace Go.Proofs.Ytiomimjjdbijmaa


theorem adV_inj (a b : Ad) (h : adV a = adV b) : a = b := by
  simp only [adV, Value.agg.injEq, Array.mk.injEq, List.cons.injEq, Value.int.injEq, Value.string.injEq] at h
  exact Prod.ext h.1 h.2.1.2
theorem addr_equal (a b : Ad) (w : World) : (Op.equal 23 (adV a) (adV b)).run Try.prog w = .ok (decide (a = b)) w := by
  have h := eqin23_10000 a.1 b.1 a.2 b.2 w
  have e : decide (a = b) = decide (a.1 = b.1 ∧ a.2 = b.2) := decide_eq_decide.2 Prod.ext_iff
  rw [e]; exact h
theorem addr_ask (k : Ad) : ∀ (l : List MapEntry) (i : Nat) (w : World), (∀ x ∈ l, ∃ k', x.key = adV k') → ∃ r, (Instr.findAsking 23 (adV k) l i).run Try.prog w = .ok r w ∧ ((r = none ∧ ∀ x ∈ l, x.key ≠ adV k) ∨ ∃ (j : Nat) (e : MapEntry), r = some (i + j, e.val) ∧ l[j]? = some e ∧ e.key = adV k)
  | [], i, w, _ => ⟨none, rfl, .inl ⟨rfl, fun x hx => by cases hx⟩⟩
  | e :: l, i, w, h => by
    obtain ⟨k', hk⟩ := h e (List.mem_cons_self ..)
    have h1 := addr_equal k k' w
    by_cases q : k = k'
    · subst q
      rw [decide_eq_true rfl] at h1
      exact ⟨some (i, e.val), by simp [Instr.findAsking, hk, h1, Result.andThen], .inr ⟨0, e, rfl, rfl, hk⟩⟩
    · rw [decide_eq_false q] at h1
      obtain ⟨r, h2, h3⟩ := addr_ask k l (i + 1) w (fun x hx => h x (List.mem_cons_of_mem _ hx))
      refine ⟨r, by simp [Instr.findAsking, hk, h1, h2, Result.andThen], ?_⟩
      rcases h3 with ⟨rfl, h3⟩ | ⟨j, e2, rfl, h4, h5⟩
      · refine .inl ⟨rfl, fun x hx => ?_⟩
        rcases List.mem_cons.1 hx with rfl | hx
        · rw [hk]; exact fun e9 => q (adV_inj _ _ e9).symm
        · exact h3 x hx
      · exact .inr ⟨j + 1, e2, by rw [show i + (j + 1) = i + 1 + j from by omega], h4, h5⟩
theorem addr_chk (em : Bool) (n : Nat) (k : Ad) (w : World) : (Instr.checkKey em (n + 2) 23 (adV k)).run Try.prog w = .ok () w := by
  have h1 : (Instr.checkKey em (n + 1) 9 (.string k.1)).run Try.prog w = .ok () w := by simp [Instr.checkKey, run_underlying Try.underlying9, Result.andThen]
  have h2 : (Instr.checkKey em (n + 1) 3 (.int .i64 k.2)).run Try.prog w = .ok () w := MapKept.run_checkKey Try.underlying3 (show MapKept.IsKey (.int .i64) (.int .i64 k.2) from rfl) em n
  rw [Instr.checkKey]
  simp only [Sem.run_bind, run_underlying Try.underlying23, Result.andThen_ok]
  rw [← Array.forIn_toList]
  simp [part, Try.isAgg3, Try.isAgg9, Result.andThen, h1, h2]
theorem addr_key : KeyOk Try.prog 23 adV := by
  refine ⟨fun em k w => addr_chk em 9998 k w, fun k l w h => ?_, adV_inj⟩
  · obtain ⟨r, h1, h2⟩ := addr_ask k l 0 w h
    refine ⟨r, ?_, ?_⟩
    · cases l with
      | nil =>
        simp [Instr.findKey, run_underlying Try.underlying23, Instr.findNow, Result.andThen]
        rcases h2 with ⟨rfl, _⟩ | ⟨j, e, _, h4, _⟩
        · rfl
        · cases h4
      | cons e l =>
        obtain ⟨k', hk⟩ := h e (List.mem_cons_self ..)
        simp [Instr.findKey, run_underlying Try.underlying23, Instr.findNow, hk, Instr.sameNow, Result.andThen, h1]
    · rcases h2 with h2 | ⟨j, e, h3, h4⟩
      · exact .inl h2
      · exact .inr ⟨j, e, by rw [h3, Nat.zero_add], h4⟩

end Go.Proofs.Ytiomimjjdbijmaa
