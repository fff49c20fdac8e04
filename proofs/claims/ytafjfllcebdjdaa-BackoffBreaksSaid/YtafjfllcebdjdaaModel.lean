/-
  Chapter 47 (backoff), part Model: contracts of functions that the laws call, each for the heap it names.
-/
import Derived.Test.YtafjfllcebdjdaaRows
import Derived.Test.YtafjfllcebdjdaaSLMarks
import Derived.Test.YtafjfllcebdjdaaSLInt
import Derived.Test.YtafjfllcebdjdaaSLBirth
import Derived.Test.YtafjfllcebdjdaaTab
import Derived.Test.YtafjfllcebdjdaaLaws
set_option linter.unusedVariables false
set_option maxRecDepth 20000
set_option maxHeartbeats 1000000
namespace Go.Proofs.Ytafjfllcebdjdaa


structure Mo where
  limit : Int
  probes : Int
  gen : Int
  count : Int
  good : Int
  opn : Nat
  last : Nat
  opened : Nat
  st : Int
def moV (m : Mo) : List Value := [.int .i64 m.limit, .int .i64 m.probes, .int .i64 m.gen, .int .i64 m.count, .int .i64 m.good, .int .u64 (m.opn : Int), .int .u64 (m.last : Int), .int .u64 (m.opened : Int), .int .i64 m.st]
def stM (m : Mo) (now : Nat) : Int := if m.st = 1 ∧ m.opn ≤ now - m.opened then 2 else m.st
abbrev rdM (m : Mo) (now : Nat) : Prop := (m.st = 2 ∧ m.count < m.probes) ∨ (m.st ≠ 2 ∧ stM m now ≠ 1)
theorem at_ok (m : Mo) (now : Nat) (h : m.opened ≤ now) (hn : now ≤ 18446744073709551615) : Spec Try.prog 23 [.agg (moV m).toArray, .int .u64 (now : Int)] [] (fun r H' => r = .int .i64 (stM m now) ∧ H' = []) := by
  refine Spec.of (E := [(0, .agg (moV m).toArray), (1, .int .u64 (now : Int))]) Try.func23 rfl (by kernel_rfl) Try.ntmps23 rfl rfl (fun w => ?_)
  refine WC_seq ?_
  refine WC_region ?_
  refine WL_do rfl rfl rfl (D_box (cs := [_, _, _, _, _, _, _, _, _]) rfl rfl rfl) ?_
  rintro _ _ ⟨b1, rfl, rfl⟩
  refine WL_val rfl rfl rfl (R_assign rfl rfl) ?_
  refine WL_nil ?_
  refine WQ_code ?_
  refine WC_seq ?_
  refine WC_seq ?_
  refine WC_region ?_
  refine WL_val rfl rfl rfl (R_fieldAddr rfl fa54_8 rfl) ?_
  refine WL_val rfl rfl rfl (R_load rfl sc48 rfl (by repeat (first | exact List.Mem.head _ | refine List.Mem.tail _ ?_)) rfl) ?_
  refine WL_val rfl rfl rfl (R_eql rfl rfl rfl) ?_
  refine WL_val rfl rfl rfl (R_move rfl rfl) ?_
  refine WL_splitD (s := 8) rfl (fun c1 => ?_) (fun c1 => ?_)
  · refine WL_val rfl rfl rfl (R_move rfl rfl) ?_
    refine WL_val rfl rfl rfl (R_fieldAddr rfl fa54_7 rfl) ?_
    refine WL_val rfl rfl rfl (R_load rfl sc23 rfl (by repeat (first | exact List.Mem.head _ | refine List.Mem.tail _ ?_)) rfl) ?_
    refine WL_val rfl rfl rfl (R_subR (r := ((now - m.opened : Nat) : Int)) rfl rfl rfl (by rw [w64 ⟨by omega, by omega⟩]; omega)) ?_
    refine WL_val rfl rfl rfl (R_fieldAddr rfl fa54_5 rfl) ?_
    refine WL_val rfl rfl rfl (R_load rfl sc23 rfl (by repeat (first | exact List.Mem.head _ | refine List.Mem.tail _ ?_)) rfl) ?_
    refine WL_val rfl rfl rfl (R_geq rfl rfl rfl) ?_
    refine WL_val rfl rfl rfl (R_pickT rfl rfl rfl) ?_
    refine WL_nil ?_
    refine WQ_code ?_
    refine WC_dec rfl (fun c2 => ?_) (fun c2 => ?_)
    · refine WC_seq ?_
      refine WC_region ?_
      refine WL_val rfl rfl rfl (R_assign rfl rfl) ?_
      refine WL_nil ?_
      refine WQ_code ?_
      refine WC_ret ?_
      refine WQ_ret rfl rfl (.cons (.tmp rfl) .nil) rfl (by
          exact ⟨congrArg (Value.int .i64) (by rw [stM]; split <;> omega), rfl⟩) (by repeat (first | exact Pulls.nil | exact Pulls.all | (apply Pulls.cons; (repeat (first | exact Pull.head | apply Pull.tail))) | apply Pulls.skip))
    · refine WC_skip ?_
      refine WQ_code ?_
      refine WC_seq ?_
      refine WC_region ?_
      refine WL_val rfl rfl rfl (R_fieldAddr rfl fa54_8 rfl) ?_
      refine WL_val rfl rfl rfl (R_load rfl sc48 rfl (by repeat (first | exact List.Mem.head _ | refine List.Mem.tail _ ?_)) rfl) ?_
      refine WL_val rfl rfl rfl (R_assign rfl rfl) ?_
      refine WL_nil ?_
      refine WQ_code ?_
      refine WC_ret ?_
      refine WQ_ret rfl rfl (.cons (.tmp rfl) .nil) rfl (by
          exact ⟨congrArg (Value.int .i64) (by rw [stM]; split <;> omega), rfl⟩) (by repeat (first | exact Pulls.nil | exact Pulls.all | (apply Pulls.cons; (repeat (first | exact Pull.head | apply Pull.tail))) | apply Pulls.skip))
  · refine WL_skip rfl rfl rfl ?_
    refine WL_skip rfl rfl rfl ?_
    refine WL_skip rfl rfl rfl ?_
    refine WL_skip rfl rfl rfl ?_
    refine WL_skip rfl rfl rfl ?_
    refine WL_skip rfl rfl rfl ?_
    refine WL_skip rfl rfl rfl ?_
    refine WL_val rfl rfl rfl (R_pickF rfl rfl rfl) ?_
    refine WL_nil ?_
    refine WQ_code ?_
    refine WC_F rfl ?_
    refine WC_skip ?_
    refine WQ_code ?_
    refine WC_seq ?_
    refine WC_region ?_
    refine WL_val rfl rfl rfl (R_fieldAddr rfl fa54_8 rfl) ?_
    refine WL_val rfl rfl rfl (R_load rfl sc48 rfl (by repeat (first | exact List.Mem.head _ | refine List.Mem.tail _ ?_)) rfl) ?_
    refine WL_val rfl rfl rfl (R_assign rfl rfl) ?_
    refine WL_nil ?_
    refine WQ_code ?_
    refine WC_ret ?_
    refine WQ_ret rfl rfl (.cons (.tmp rfl) .nil) rfl (by
        exact ⟨congrArg (Value.int .i64) (by rw [stM]; split <;> omega), rfl⟩) (by repeat (first | exact Pulls.nil | exact Pulls.all | (apply Pulls.cons; (repeat (first | exact Pull.head | apply Pull.tail))) | apply Pulls.skip))
theorem lready_ok (m : Mo) (now : Nat) (h : m.opened ≤ now) (hn : now ≤ 18446744073709551615) : Spec Try.prog 37 [.agg (moV m).toArray, .int .u64 (now : Int)] [] (fun r H' => r = .bool (decide (rdM m now)) ∧ H' = []) := by
  refine Spec.of (E := [(0, .agg (moV m).toArray), (1, .int .u64 (now : Int))]) Try.func37 rfl (by kernel_rfl) Try.ntmps37 rfl rfl (fun w => ?_)
  refine WC_seq ?_
  refine WC_region ?_
  refine WL_do rfl rfl rfl (D_box (cs := [_, _, _, _, _, _, _, _, _]) rfl rfl rfl) ?_
  rintro _ _ ⟨b1, rfl, rfl⟩
  refine WL_val rfl rfl rfl (R_assign rfl rfl) ?_
  refine WL_nil ?_
  refine WQ_code ?_
  refine WC_seq ?_
  refine WC_seq ?_
  refine WC_region ?_
  refine WL_val rfl rfl rfl (R_fieldAddr rfl fa54_8 rfl) ?_
  refine WL_val rfl rfl rfl (R_load rfl sc48 rfl (by repeat (first | exact List.Mem.head _ | refine List.Mem.tail _ ?_)) rfl) ?_
  refine WL_val rfl rfl rfl (R_eql rfl rfl rfl) ?_
  refine WL_nil ?_
  refine WQ_code ?_
  refine WC_dec rfl (fun c1 => ?_) (fun c1 => ?_)
  · refine WC_seq ?_
    refine WC_region ?_
    refine WL_val rfl rfl rfl (R_fieldAddr rfl fa54_3 rfl) ?_
    refine WL_val rfl rfl rfl (R_load rfl sc3 rfl (by repeat (first | exact List.Mem.head _ | refine List.Mem.tail _ ?_)) rfl) ?_
    refine WL_val rfl rfl rfl (R_fieldAddr rfl fa54_1 rfl) ?_
    refine WL_val rfl rfl rfl (R_load rfl sc3 rfl (by repeat (first | exact List.Mem.head _ | refine List.Mem.tail _ ?_)) rfl) ?_
    refine WL_val rfl rfl rfl (R_lss rfl rfl rfl) ?_
    refine WL_val rfl rfl rfl (R_assign rfl rfl) ?_
    refine WL_nil ?_
    refine WQ_code ?_
    refine WC_ret ?_
    refine WQ_ret rfl rfl (.cons (.tmp rfl) .nil) rfl (by
        exact ⟨congrArg Value.bool (by rw [Bool.eq_iff_iff]; simp [rdM] <;> omega), rfl⟩) (by repeat (first | exact Pulls.nil | exact Pulls.all | (apply Pulls.cons; (repeat (first | exact Pull.head | apply Pull.tail))) | apply Pulls.skip))
  · refine WC_skip ?_
    refine WQ_code ?_
    refine WC_seq ?_
    refine WC_region ?_
    refine WL_val rfl rfl rfl (R_loadA (vs := [_, _, _, _, _, _, _, _, _]) rfl ag54 rfl (by repeat (first | exact List.Mem.head _ | refine List.Mem.tail _ ?_)) rfl (by repeat (first | exact At.nil | refine At.cons ?_ | refine At.succ ?_))) ?_
    refine WL_val rfl rfl rfl (R_move rfl rfl) ?_
    refine WL_do rfl rfl rfl (D_call (at_ok m now h hn) rfl rfl rfl rfl (by repeat (first | exact Pulls.nil | exact Pulls.all | (apply Pulls.cons; (repeat (first | exact Pull.head | apply Pull.tail))) | apply Pulls.skip))) ?_
    rintro _ _ ⟨_, ⟨rfl, rfl⟩, rfl⟩
    refine WL_val rfl rfl rfl (R_neq rfl rfl rfl) ?_
    refine WL_val rfl rfl rfl (R_assign rfl rfl) ?_
    refine WL_nil ?_
    refine WQ_code ?_
    refine WC_ret ?_
    refine WQ_ret rfl rfl (.cons (.tmp rfl) .nil) rfl (by
        exact ⟨congrArg Value.bool (by rw [Bool.eq_iff_iff]; simp [rdM] <;> omega), rfl⟩) (by repeat (first | exact Pulls.nil | exact Pulls.all | (apply Pulls.cons; (repeat (first | exact Pull.head | apply Pull.tail))) | apply Pulls.skip))
theorem to_ok (m : Mo) (hg : 0 ≤ m.gen ∧ m.gen ≤ 1000000) (s : Int) (now : Nat) : Spec Try.prog 38 [.agg (moV m).toArray, .int .i64 s, .int .u64 (now : Int)] [] (fun r H' => r = .agg (moV ⟨m.limit, m.probes, m.gen + 1, 0, 0, m.opn, m.last, now, s⟩).toArray ∧ H' = []) := by
  refine Spec.of (E := [(0, .agg (moV m).toArray), (1, .int .i64 s), (2, .int .u64 (now : Int))]) Try.func38 rfl (by kernel_rfl) Try.ntmps38 rfl rfl (fun w => ?_)
  refine WC_seq ?_
  refine WC_region ?_
  refine WL_do rfl rfl rfl (D_box (cs := [_, _, _, _, _, _, _, _, _]) rfl rfl rfl) ?_
  rintro _ _ ⟨b1, rfl, rfl⟩
  refine WL_do rfl rfl rfl (D_alloc rfl zv54) ?_
  rintro _ _ ⟨b2, rfl, rfl⟩
  refine WL_nil ?_
  refine WQ_code ?_
  refine WC_seq ?_
  refine WC_region ?_
  refine WL_val rfl rfl rfl (R_move rfl rfl) ?_
  refine WL_val rfl rfl rfl (R_fieldAddr rfl fa54_2 rfl) ?_
  refine WL_val rfl rfl rfl (R_load rfl sc3 rfl (by repeat (first | exact List.Mem.head _ | refine List.Mem.tail _ ?_)) rfl) ?_
  refine WL_val rfl rfl rfl (R_add rfl rfl rfl (by omega)) ?_
  refine WL_val rfl rfl rfl (R_move rfl rfl) ?_
  refine WL_val rfl rfl rfl (R_fieldAddr rfl fa54_8 rfl) ?_
  refine WL_do0 rfl rfl (D_store (vs := [_]) rfl Try.sizeOf48 rfl rfl rfl rfl rfl (by repeat (first | exact Pull.head | apply Pull.tail)) (by exact Nat.le_of_ble_eq_true rfl)) ?_
  rintro _ _ rfl
  refine WL_val rfl rfl rfl (R_fieldAddr rfl fa54_2 rfl) ?_
  refine WL_do0 rfl rfl (D_store (vs := [_]) rfl Try.sizeOf3 rfl rfl rfl rfl rfl (by repeat (first | exact Pull.head | apply Pull.tail)) (by exact Nat.le_of_ble_eq_true rfl)) ?_
  rintro _ _ rfl
  refine WL_val rfl rfl rfl (R_fieldAddr rfl fa54_3 rfl) ?_
  refine WL_do0 rfl rfl (D_store (vs := [_]) rfl Try.sizeOf3 rfl rfl rfl rfl rfl (by repeat (first | exact Pull.head | apply Pull.tail)) (by exact Nat.le_of_ble_eq_true rfl)) ?_
  rintro _ _ rfl
  refine WL_val rfl rfl rfl (R_fieldAddr rfl fa54_4 rfl) ?_
  refine WL_do0 rfl rfl (D_store (vs := [_]) rfl Try.sizeOf3 rfl rfl rfl rfl rfl (by repeat (first | exact Pull.head | apply Pull.tail)) (by exact Nat.le_of_ble_eq_true rfl)) ?_
  rintro _ _ rfl
  refine WL_val rfl rfl rfl (R_fieldAddr rfl fa54_7 rfl) ?_
  refine WL_do0 rfl rfl (D_store (vs := [_]) rfl Try.sizeOf23 rfl rfl rfl rfl rfl (by repeat (first | exact Pull.head | apply Pull.tail)) (by exact Nat.le_of_ble_eq_true rfl)) ?_
  rintro _ _ rfl
  refine WL_nil ?_
  refine WQ_code ?_
  refine WC_seq ?_
  refine WC_region ?_
  refine WL_val rfl rfl rfl (R_loadA (vs := [_, _, _, _, _, _, _, _, _]) rfl ag54 rfl (by repeat (first | exact List.Mem.head _ | refine List.Mem.tail _ ?_)) rfl (by repeat (first | exact At.nil | refine At.cons ?_ | refine At.succ ?_))) ?_
  refine WL_do0 rfl rfl (D_store (vs := [_, _, _, _, _, _, _, _, _]) rfl Try.sizeOf54 rfl rfl rfl rfl rfl (by repeat (first | exact Pull.head | apply Pull.tail)) (by exact Nat.le_of_ble_eq_true rfl)) ?_
  rintro _ _ rfl
  refine WL_nil ?_
  refine WQ_code ?_
  refine WC_ret ?_
  refine WQ_ret rfl rfl (.cons (.cell (vs := [_, _, _, _, _, _, _, _, _]) rfl ag54 (by repeat (first | exact List.Mem.head _ | refine List.Mem.tail _ ?_)) rfl (by repeat (first | exact At.nil | refine At.cons ?_ | refine At.succ ?_))) .nil) rfl (by
      exact ⟨rfl, rfl⟩) (by repeat (first | exact Pulls.nil | exact Pulls.all | (apply Pulls.cons; (repeat (first | exact Pull.head | apply Pull.tail))) | apply Pulls.skip))
/-- A breaker as the document has it. -/
def moB (b : Br) : Mo := ⟨b.limit, b.probes, b.gen, b.failed + b.allowed, b.good, b.opn, b.last, b.opened, b.st⟩
theorem may_le {b : Br} {now : Nat} (h : mayE b now = 0) (hn : now ≤ 18446744073709551615) : b.last ≤ now ∧ now ≤ 18446744073709551614 := by
  unfold mayE at h; split at h <;> omega
theorem Fit.l {b : Br} (h : Fit b) : 1 ≤ b.limit := h.lim.1
theorem Fit.g {b : Br} (h : Fit b) : b.gen ≤ 1000000 ∧ 0 ≤ b.gen := ⟨h.gen.2, h.gen.1⟩
theorem Fit.a {b : Br} (h : Fit b) : 0 ≤ b.allowed ∧ b.allowed ≤ 1000 := by
  obtain ⟨lim, prb, opn, tm, gen, cl, op, hf, st⟩ := h
  omega
theorem Fit.f {b : Br} (h : Fit b) : 0 ≤ b.failed ∧ b.failed ≤ 1000 := by
  obtain ⟨lim, prb, opn, tm, gen, cl, op, hf, st⟩ := h
  omega
theorem Fit.gd {b : Br} (h : Fit b) : 0 ≤ b.good ∧ b.good ≤ 1000 := by
  obtain ⟨lim, prb, opn, tm, gen, cl, op, hf, st⟩ := h
  omega
theorem rd_iff {b : Br} (h : Fit b) (now : Nat) : rdM (moB b) now ↔ rdB b now := by
  obtain ⟨lim, prb, opn, tm, gen, cl, op, hf, st⟩ := h
  have e : stM (moB b) now = stB b now := rfl
  unfold rdM rdB
  rw [e]
  simp only [moB]
  unfold stB
  split <;> omega
abbrev DnQ (b : Br) (now : Nat) (g : Int) (good : Bool) (b' : Br) (e : Int) : Prop := (mayE b now ≠ 0 ∧ e = mayE b now ∧ b' = b) ∨ (mayE b now = 0 ∧ (g < 0 ∨ b.gen < g) ∧ e = 9 ∧ b' = b) ∨ (mayE b now = 0 ∧ ¬ (g < 0 ∨ b.gen < g) ∧ g < b.gen ∧ e = 0 ∧ b' = ⟨b.limit, b.probes, b.opn, now, b.gen, b.st, b.opened, b.failed, b.allowed, b.good⟩) ∨ (mayE b now = 0 ∧ g = b.gen ∧ e = 0 ∧ b' = dnB b now good)
theorem fit_last {b : Br} (hf : Fit b) {now : Nat} (h : b.last ≤ now ∧ now ≤ 18446744073709551614) : Fit ⟨b.limit, b.probes, b.opn, now, b.gen, b.st, b.opened, b.failed, b.allowed, b.good⟩ := by
  obtain ⟨lim, prb, opn, tm, gen, cl, op, hf, st⟩ := hf
  exact ⟨lim, prb, opn, ⟨by dsimp only; omega, h.2⟩, gen, cl, op, hf, st⟩
theorem fit_al {b : Br} (hf : Fit b) (hg : b.gen ≤ 900000) {now : Nat} (h : b.last ≤ now ∧ now ≤ 18446744073709551614) (h2 : rdB b now) : Fit (alB b now) ∧ (alB b now).gen ≤ b.gen + 1 := by
  obtain ⟨lim, prb, opn, tm, gen, cl, op, hf, st⟩ := hf
  unfold rdB at h2
  unfold alB
  have hs : stB b now = 2 ∨ stB b now = b.st := by unfold stB; split <;> simp
  split
  · split
    · exact ⟨⟨lim, prb, opn, ⟨by simp, h.2⟩, by dsimp only; omega, fun h => by dsimp only at h; omega, fun h => by dsimp only at h; omega, fun h => by dsimp only; omega, .inr (.inr rfl)⟩, by dsimp only; omega⟩
    · have h2 : b.st = 2 := by rename_i h3 h4; unfold stB at h3; split at h3 <;> omega
      exact ⟨⟨lim, prb, opn, ⟨by dsimp only; omega, h.2⟩, gen, fun h => by dsimp only at h; omega, fun h => by dsimp only at h; omega, fun h => by dsimp only; omega, st⟩, by dsimp only; omega⟩
  · exact ⟨⟨lim, prb, opn, ⟨by dsimp only; omega, h.2⟩, gen, cl, op, hf, st⟩, by dsimp only; omega⟩
theorem fit_dn {b : Br} (hf : Fit b) (hg : b.gen ≤ 900000) {now : Nat} (h : b.last ≤ now ∧ now ≤ 18446744073709551614) (good : Bool) : Fit (dnB b now good) ∧ (dnB b now good).gen ≤ b.gen + 1 := by
  have h0 := fit_last hf h
  obtain ⟨lim, prb, opn, tm, gen, cl, op, hf, st⟩ := hf
  have hop : Fit ⟨b.limit, b.probes, b.opn, now, b.gen + 1, 1, now, 0, 0, 0⟩ := ⟨lim, prb, opn, ⟨Nat.le_refl _, h.2⟩, by dsimp only; omega, fun h => by dsimp only at h; omega, fun h => ⟨rfl, rfl, rfl⟩, fun h => by dsimp only at h; omega, .inr (.inl rfl)⟩
  unfold dnB
  split
  · split
    · exact ⟨⟨lim, prb, opn, ⟨by dsimp only; omega, h.2⟩, gen, fun h => by dsimp only; omega, fun h => by dsimp only at h; omega, fun h => by dsimp only at h; omega, st⟩, by dsimp only; omega⟩
    · split
      · exact ⟨hop, by dsimp only; omega⟩
      · exact ⟨⟨lim, prb, opn, ⟨by dsimp only; omega, h.2⟩, gen, fun h => by dsimp only; omega, fun h => by dsimp only at h; omega, fun h => by dsimp only at h; omega, st⟩, by dsimp only; omega⟩
  · split
    · split
      · split
        · exact ⟨⟨lim, prb, opn, ⟨by simp, h.2⟩, by dsimp only; omega, fun h => by dsimp only; omega, fun h => by dsimp only at h; omega, fun h => by dsimp only at h; omega, .inl rfl⟩, by dsimp only; omega⟩
        · exact ⟨⟨lim, prb, opn, ⟨by dsimp only; omega, h.2⟩, gen, fun h => by dsimp only at h; omega, fun h => by dsimp only at h; omega, fun h => by dsimp only; omega, st⟩, by dsimp only; omega⟩
      · exact ⟨hop, by dsimp only; omega⟩
    · exact ⟨h0, by dsimp only; omega⟩
theorem fit_alQ {b b' : Br} {n e : Int} {now : Nat} (hf : Fit b) (hg : b.gen ≤ 900000) (hn : now ≤ 18446744073709551615) (h : AlQ b now b' n e) : Fit b' ∧ b'.gen ≤ b.gen + 1 := by
  rcases h with ⟨_, _, _, rfl⟩ | ⟨_, _, _, _, rfl⟩ | ⟨h1, h2, _, _, rfl⟩
  · exact ⟨hf, by omega⟩
  · exact ⟨hf, by omega⟩
  · exact fit_al hf hg (may_le h1 hn) h2
theorem fit_dnQ {b b' : Br} {g e : Int} {good : Bool} {now : Nat} (hf : Fit b) (hg : b.gen ≤ 900000) (hn : now ≤ 18446744073709551615) (h : DnQ b now g good b' e) : Fit b' ∧ b'.gen ≤ b.gen + 1 := by
  rcases h with ⟨_, _, rfl⟩ | ⟨_, _, _, rfl⟩ | ⟨h1, _, _, _, rfl⟩ | ⟨h1, _, _, rfl⟩
  · exact ⟨hf, by omega⟩
  · exact ⟨hf, by omega⟩
  · exact ⟨fit_last hf (may_le h1 hn), by dsimp only; omega⟩
  · exact fit_dn hf hg (may_le h1 hn) good
def StQ (b : Br) (r : Value) (H' : Heap) : Prop := ∃ p' b', r = .tuple #[ptr p', .agg (moV (moB b')).toArray, .bool true] ∧ H' = [⟨some p', cl (brV b') 64⟩] ∧ Fit b' ∧ b'.gen ≤ b.gen + 1

end Go.Proofs.Ytafjfllcebdjdaa
