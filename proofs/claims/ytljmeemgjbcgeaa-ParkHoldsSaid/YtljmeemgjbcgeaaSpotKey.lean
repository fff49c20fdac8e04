/-
  Chapter 09 (park), part SpotKey: contracts of functions that the laws call, each for the heap it names.
-/
import Derived.Laws.StructEq
import Derived.Test.YtljmeemgjbcgeaaRows
import Derived.Test.YtljmeemgjbcgeaaZSLQueue
import Derived.Test.YtljmeemgjbcgeaaTab
set_option linter.unusedVariables false
set_option maxRecDepth 20000
namespace Go.Proofs.Ytljmeemgjbcgeaa


abbrev ekS (s : Int × Int) : Value := .agg #[.int .i64 s.1, .int .i64 s.2]
theorem ekS_inj (a b : Int × Int) (h : ekS a = ekS b) : a = b := by
  simp only [ekS, Value.agg.injEq, Array.mk.injEq, List.cons.injEq, Value.int.injEq] at h
  exact Prod.ext h.1.2 h.2.1.2
theorem spot_equal (a b : Int × Int) (w : World) : (Op.equal 25 (ekS a) (ekS b)).run Try.prog w = .ok (decide (a = b)) w := by
  have h := eqin25_10000 a.1 b.1 a.2 b.2 w
  have e : decide (a = b) = decide (a.1 = b.1 ∧ a.2 = b.2) := decide_eq_decide.2 Prod.ext_iff
  rw [e]; exact h
theorem spot_ask (k : Int × Int) : ∀ (l : List MapEntry) (i : Nat) (w : World), (∀ x ∈ l, ∃ k', x.key = ekS k') → ∃ r, (Instr.findAsking 25 (ekS k) l i).run Try.prog w = .ok r w ∧ ((r = none ∧ ∀ x ∈ l, x.key ≠ ekS k) ∨ ∃ (j : Nat) (e : MapEntry), r = some (i + j, e.val) ∧ l[j]? = some e ∧ e.key = ekS k)
  | [], i, w, _ => ⟨none, rfl, .inl ⟨rfl, fun x hx => by cases hx⟩⟩
  | e :: l, i, w, h => by
    obtain ⟨k', hk⟩ := h e (List.mem_cons_self ..)
    have h1 := spot_equal k k' w
    by_cases q : k = k'
    · subst q
      rw [decide_eq_true rfl] at h1
      exact ⟨some (i, e.val), by simp [Instr.findAsking, hk, h1, Result.andThen], .inr ⟨0, e, rfl, rfl, hk⟩⟩
    · rw [decide_eq_false q] at h1
      obtain ⟨r, h2, h3⟩ := spot_ask k l (i + 1) w (fun x hx => h x (List.mem_cons_of_mem _ hx))
      refine ⟨r, by simp [Instr.findAsking, hk, h1, h2, Result.andThen], ?_⟩
      rcases h3 with ⟨rfl, h3⟩ | ⟨j, e2, rfl, h4, h5⟩
      · refine .inl ⟨rfl, fun x hx => ?_⟩
        rcases List.mem_cons.1 hx with rfl | hx
        · rw [hk]; exact fun e9 => q (ekS_inj _ _ e9).symm
        · exact h3 x hx
      · exact .inr ⟨j + 1, e2, by rw [show i + (j + 1) = i + 1 + j from by omega], h4, h5⟩
theorem spot_chk (em : Bool) (n : Nat) (k : Int × Int) (w : World) : (Instr.checkKey em (n + 2) 25 (ekS k)).run Try.prog w = .ok () w := by
  have h1 : (Instr.checkKey em (n + 1) 3 (.int .i64 k.1)).run Try.prog w = .ok () w := MapKept.run_checkKey Try.underlying3 (show MapKept.IsKey (.int .i64) (.int .i64 k.1) from rfl) em n
  have h2 : (Instr.checkKey em (n + 1) 23 (.int .i64 k.2)).run Try.prog w = .ok () w := MapKept.run_checkKey Try.underlying23 (show MapKept.IsKey (.int .i64) (.int .i64 k.2) from rfl) em n
  rw [Instr.checkKey]
  simp only [Sem.run_bind, run_underlying Try.underlying25, Result.andThen_ok]
  rw [← Array.forIn_toList]
  simp [part, Try.isAgg23, Try.isAgg3, Result.andThen, h1, h2]
theorem spot_key : KeyOk Try.prog 25 ekS := by
  refine ⟨fun em k w => spot_chk em 9998 k w, fun k l w h => ?_, ekS_inj⟩
  · obtain ⟨r, h1, h2⟩ := spot_ask k l 0 w h
    refine ⟨r, ?_, ?_⟩
    · cases l with
      | nil =>
        simp [Instr.findKey, run_underlying Try.underlying25, Instr.findNow, Result.andThen]
        rcases h2 with ⟨rfl, _⟩ | ⟨j, e, _, h4, _⟩
        · rfl
        · cases h4
      | cons e l =>
        obtain ⟨k', hk⟩ := h e (List.mem_cons_self ..)
        simp [Instr.findKey, run_underlying Try.underlying25, Instr.findNow, hk, Instr.sameNow, Result.andThen, h1]
    · rcases h2 with h2 | ⟨j, e, h3, h4⟩
      · exact .inl h2
      · exact .inr ⟨j, e, by rw [h3, Nat.zero_add], h4⟩

end Go.Proofs.Ytljmeemgjbcgeaa
