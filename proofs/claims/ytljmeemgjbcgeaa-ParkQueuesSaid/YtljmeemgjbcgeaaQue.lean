/-
  Chapter 09 (park), part Que: contracts of functions that the laws call, each for the heap it names.
-/
import Derived.Test.YtljmeemgjbcgeaaRows
import Derived.Test.YtljmeemgjbcgeaaSLPhase
import Derived.Test.YtljmeemgjbcgeaaSLArray
import Derived.Test.YtljmeemgjbcgeaaSLInt
import Derived.Test.YtljmeemgjbcgeaaTab
import Derived.Test.YtljmeemgjbcgeaaQueL
import Derived.Test.YtljmeemgjbcgeaaSLMore
import Derived.Test.YtljmeemgjbcgeaaSLOpt
set_option linter.unusedVariables false
set_option maxRecDepth 20000
set_option maxHeartbeats 8000000
namespace Go.Proofs.Ytljmeemgjbcgeaa


theorem queues_bad (m : Int) (wh : Nat) (one two : Sp) (h : m < 1 ∨ 64 < m ∨ ¬ vldS one ∨ ¬ vldS two ∨ (one.1 = two.1 ∧ one.2 = two.2)) : Spec Try.prog 3 [.int .i64 m, .int .u64 (wh : Int), ekS one, ekS two] [] (fun r H' => r = .bool true ∧ H' = []) := by
  refine Spec.of (E := [(0, .int .i64 m), (1, .int .u64 (wh : Int)), (2, ekS one), (3, ekS two)]) Try.func3 rfl (by kernel_rfl) Try.ntmps3 rfl rfl (fun w => ?_)
  refine WC_seq ?_
  refine WC_region ?_
  refine WL_do rfl rfl rfl (D_box (cs := [_, _]) rfl rfl rfl) ?_
  rintro _ _ ⟨b1, rfl, rfl⟩
  refine WL_do rfl rfl rfl (D_box (cs := [_, _]) rfl rfl rfl) ?_
  rintro _ _ ⟨b2, rfl, rfl⟩
  refine WL_val rfl rfl rfl (R_assign rfl rfl) ?_
  refine WL_nil ?_
  refine WQ_code ?_
  refine WC_seq ?_
  refine WC_seq ?_
  refine WC_region ?_
  refine WL_val rfl rfl rfl (R_move rfl rfl) ?_
  refine WL_val rfl rfl rfl (R_lss rfl rfl rfl) ?_
  refine WL_val rfl rfl rfl (R_move rfl rfl) ?_
  refine WL_splitD (s := 24) rfl (fun c1 => ?_) (fun c1 => ?_)
  · refine WL_skip rfl rfl rfl ?_
    refine WL_skip rfl rfl rfl ?_
    refine WL_val rfl rfl rfl (R_pickT rfl rfl rfl) ?_
    refine WL_val rfl rfl rfl (R_move rfl rfl) ?_
    refine WL_skip rfl rfl rfl ?_
    refine WL_skip rfl rfl rfl ?_
    refine WL_skip rfl rfl rfl ?_
    refine WL_val rfl rfl rfl (R_pickT rfl rfl rfl) ?_
    refine WL_val rfl rfl rfl (R_move rfl rfl) ?_
    refine WL_skip rfl rfl rfl ?_
    refine WL_skip rfl rfl rfl ?_
    refine WL_skip rfl rfl rfl ?_
    refine WL_val rfl rfl rfl (R_pickT rfl rfl rfl) ?_
    refine WL_val rfl rfl rfl (R_move rfl rfl) ?_
    refine WL_skip rfl rfl rfl ?_
    refine WL_skip rfl rfl rfl ?_
    refine WL_skip rfl rfl rfl ?_
    refine WL_val rfl rfl rfl (R_pickT rfl rfl rfl) ?_
    refine WL_nil ?_
    refine WQ_code ?_
    refine WC_T rfl ?_
    refine WC_seq ?_
    refine WC_region ?_
    refine WL_do rfl rfl rfl (D_call (known_ok) rfl rfl rfl rfl (by repeat (first | exact Pulls.nil | exact Pulls.all | (apply Pulls.cons; (repeat (first | exact Pull.head | apply Pull.tail | apply Pull.assoc | apply Pull.app))) | apply Pulls.assocX | (apply Pulls.chunk; (repeat (first | exact PullA.here | exact PullA.all | apply PullA.tail | apply PullA.assoc | apply PullA.app))) | exact Pulls.appE _ _ | apply Pulls.skip | apply Pulls.assoc | apply Pulls.skipA))) ?_
    rintro _ _ ⟨_, ⟨rfl, rfl⟩, rfl⟩
    refine WL_val rfl rfl rfl (R_assign rfl rfl) ?_
    refine WL_nil ?_
    refine WQ_code ?_
    refine WC_ret ?_
    refine WQ_ret rfl rfl (.cons (.tmp rfl) .nil) rfl (by
        exact ⟨rfl, rfl⟩) (by repeat (first | exact Pulls.nil | exact Pulls.all | (apply Pulls.cons; (repeat (first | exact Pull.head | apply Pull.tail | apply Pull.assoc | apply Pull.app))) | apply Pulls.assocX | (apply Pulls.chunk; (repeat (first | exact PullA.here | exact PullA.all | apply PullA.tail | apply PullA.assoc | apply PullA.app))) | exact Pulls.appE _ _ | apply Pulls.skip | apply Pulls.assoc | apply Pulls.skipA))
  · refine WL_val rfl rfl rfl (R_move rfl rfl) ?_
    refine WL_val rfl rfl rfl (R_gtr rfl rfl rfl) ?_
    refine WL_val rfl rfl rfl (R_pickF rfl rfl rfl) ?_
    refine WL_val rfl rfl rfl (R_move rfl rfl) ?_
    refine WL_splitD (s := 28) rfl (fun c2 => ?_) (fun c2 => ?_)
    · refine WL_skip rfl rfl rfl ?_
      refine WL_skip rfl rfl rfl ?_
      refine WL_skip rfl rfl rfl ?_
      refine WL_val rfl rfl rfl (R_pickT rfl rfl rfl) ?_
      refine WL_val rfl rfl rfl (R_move rfl rfl) ?_
      refine WL_skip rfl rfl rfl ?_
      refine WL_skip rfl rfl rfl ?_
      refine WL_skip rfl rfl rfl ?_
      refine WL_val rfl rfl rfl (R_pickT rfl rfl rfl) ?_
      refine WL_val rfl rfl rfl (R_move rfl rfl) ?_
      refine WL_skip rfl rfl rfl ?_
      refine WL_skip rfl rfl rfl ?_
      refine WL_skip rfl rfl rfl ?_
      refine WL_val rfl rfl rfl (R_pickT rfl rfl rfl) ?_
      refine WL_nil ?_
      refine WQ_code ?_
      refine WC_T rfl ?_
      refine WC_seq ?_
      refine WC_region ?_
      refine WL_do rfl rfl rfl (D_call (known_ok) rfl rfl rfl rfl (by repeat (first | exact Pulls.nil | exact Pulls.all | (apply Pulls.cons; (repeat (first | exact Pull.head | apply Pull.tail | apply Pull.assoc | apply Pull.app))) | apply Pulls.assocX | (apply Pulls.chunk; (repeat (first | exact PullA.here | exact PullA.all | apply PullA.tail | apply PullA.assoc | apply PullA.app))) | exact Pulls.appE _ _ | apply Pulls.skip | apply Pulls.assoc | apply Pulls.skipA))) ?_
      rintro _ _ ⟨_, ⟨rfl, rfl⟩, rfl⟩
      refine WL_val rfl rfl rfl (R_assign rfl rfl) ?_
      refine WL_nil ?_
      refine WQ_code ?_
      refine WC_ret ?_
      refine WQ_ret rfl rfl (.cons (.tmp rfl) .nil) rfl (by
          exact ⟨rfl, rfl⟩) (by repeat (first | exact Pulls.nil | exact Pulls.all | (apply Pulls.cons; (repeat (first | exact Pull.head | apply Pull.tail | apply Pull.assoc | apply Pull.app))) | apply Pulls.assocX | (apply Pulls.chunk; (repeat (first | exact PullA.here | exact PullA.all | apply PullA.tail | apply PullA.assoc | apply PullA.app))) | exact Pulls.appE _ _ | apply Pulls.skip | apply Pulls.assoc | apply Pulls.skipA))
    · refine WL_val rfl rfl rfl (R_loadA (vs := [_, _]) rfl ag25 rfl (by repeat (first | exact List.Mem.head _ | refine List.Mem.tail _ ?_ | refine mem_assoc ?_ | refine List.mem_append_right _ ?_)) rfl (by repeat (first | exact At.nil | refine At.cons ?_ | refine At.succ ?_))) ?_
      refine WL_do rfl rfl rfl (D_call (rspot_ok one) rfl rfl rfl rfl (by repeat (first | exact Pulls.nil | exact Pulls.all | (apply Pulls.cons; (repeat (first | exact Pull.head | apply Pull.tail | apply Pull.assoc | apply Pull.app))) | apply Pulls.assocX | (apply Pulls.chunk; (repeat (first | exact PullA.here | exact PullA.all | apply PullA.tail | apply PullA.assoc | apply PullA.app))) | exact Pulls.appE _ _ | apply Pulls.skip | apply Pulls.assoc | apply Pulls.skipA))) ?_
      rintro _ _ ⟨_, ⟨rfl, rfl⟩, rfl⟩
      refine WL_val rfl rfl rfl (R_notD rfl rfl) ?_
      refine WL_val rfl rfl rfl (R_pickF rfl rfl rfl) ?_
      refine WL_val rfl rfl rfl (R_move rfl rfl) ?_
      refine WL_splitD (s := 33) rfl (fun c3 => ?_) (fun c3 => ?_)
      · refine WL_skip rfl rfl rfl ?_
        refine WL_skip rfl rfl rfl ?_
        refine WL_skip rfl rfl rfl ?_
        refine WL_val rfl rfl rfl (R_pickT rfl rfl rfl) ?_
        refine WL_val rfl rfl rfl (R_move rfl rfl) ?_
        refine WL_skip rfl rfl rfl ?_
        refine WL_skip rfl rfl rfl ?_
        refine WL_skip rfl rfl rfl ?_
        refine WL_val rfl rfl rfl (R_pickT rfl rfl rfl) ?_
        refine WL_nil ?_
        refine WQ_code ?_
        refine WC_T rfl ?_
        refine WC_seq ?_
        refine WC_region ?_
        refine WL_do rfl rfl rfl (D_call (known_ok) rfl rfl rfl rfl (by repeat (first | exact Pulls.nil | exact Pulls.all | (apply Pulls.cons; (repeat (first | exact Pull.head | apply Pull.tail | apply Pull.assoc | apply Pull.app))) | apply Pulls.assocX | (apply Pulls.chunk; (repeat (first | exact PullA.here | exact PullA.all | apply PullA.tail | apply PullA.assoc | apply PullA.app))) | exact Pulls.appE _ _ | apply Pulls.skip | apply Pulls.assoc | apply Pulls.skipA))) ?_
        rintro _ _ ⟨_, ⟨rfl, rfl⟩, rfl⟩
        refine WL_val rfl rfl rfl (R_assign rfl rfl) ?_
        refine WL_nil ?_
        refine WQ_code ?_
        refine WC_ret ?_
        refine WQ_ret rfl rfl (.cons (.tmp rfl) .nil) rfl (by
            exact ⟨rfl, rfl⟩) (by repeat (first | exact Pulls.nil | exact Pulls.all | (apply Pulls.cons; (repeat (first | exact Pull.head | apply Pull.tail | apply Pull.assoc | apply Pull.app))) | apply Pulls.assocX | (apply Pulls.chunk; (repeat (first | exact PullA.here | exact PullA.all | apply PullA.tail | apply PullA.assoc | apply PullA.app))) | exact Pulls.appE _ _ | apply Pulls.skip | apply Pulls.assoc | apply Pulls.skipA))
      · refine WL_val rfl rfl rfl (R_loadA (vs := [_, _]) rfl ag25 rfl (by repeat (first | exact List.Mem.head _ | refine List.Mem.tail _ ?_ | refine mem_assoc ?_ | refine List.mem_append_right _ ?_)) rfl (by repeat (first | exact At.nil | refine At.cons ?_ | refine At.succ ?_))) ?_
        refine WL_do rfl rfl rfl (D_call (rspot_ok two) rfl rfl rfl rfl (by repeat (first | exact Pulls.nil | exact Pulls.all | (apply Pulls.cons; (repeat (first | exact Pull.head | apply Pull.tail | apply Pull.assoc | apply Pull.app))) | apply Pulls.assocX | (apply Pulls.chunk; (repeat (first | exact PullA.here | exact PullA.all | apply PullA.tail | apply PullA.assoc | apply PullA.app))) | exact Pulls.appE _ _ | apply Pulls.skip | apply Pulls.assoc | apply Pulls.skipA))) ?_
        rintro _ _ ⟨_, ⟨rfl, rfl⟩, rfl⟩
        refine WL_val rfl rfl rfl (R_notD rfl rfl) ?_
        refine WL_val rfl rfl rfl (R_pickF rfl rfl rfl) ?_
        refine WL_val rfl rfl rfl (R_move rfl rfl) ?_
        refine WL_splitD (s := 38) rfl (fun c4 => ?_) (fun c4 => ?_)
        · refine WL_skip rfl rfl rfl ?_
          refine WL_skip rfl rfl rfl ?_
          refine WL_skip rfl rfl rfl ?_
          refine WL_val rfl rfl rfl (R_pickT rfl rfl rfl) ?_
          refine WL_nil ?_
          refine WQ_code ?_
          refine WC_T rfl ?_
          refine WC_seq ?_
          refine WC_region ?_
          refine WL_do rfl rfl rfl (D_call (known_ok) rfl rfl rfl rfl (by repeat (first | exact Pulls.nil | exact Pulls.all | (apply Pulls.cons; (repeat (first | exact Pull.head | apply Pull.tail | apply Pull.assoc | apply Pull.app))) | apply Pulls.assocX | (apply Pulls.chunk; (repeat (first | exact PullA.here | exact PullA.all | apply PullA.tail | apply PullA.assoc | apply PullA.app))) | exact Pulls.appE _ _ | apply Pulls.skip | apply Pulls.assoc | apply Pulls.skipA))) ?_
          rintro _ _ ⟨_, ⟨rfl, rfl⟩, rfl⟩
          refine WL_val rfl rfl rfl (R_assign rfl rfl) ?_
          refine WL_nil ?_
          refine WQ_code ?_
          refine WC_ret ?_
          refine WQ_ret rfl rfl (.cons (.tmp rfl) .nil) rfl (by
              exact ⟨rfl, rfl⟩) (by repeat (first | exact Pulls.nil | exact Pulls.all | (apply Pulls.cons; (repeat (first | exact Pull.head | apply Pull.tail | apply Pull.assoc | apply Pull.app))) | apply Pulls.assocX | (apply Pulls.chunk; (repeat (first | exact PullA.here | exact PullA.all | apply PullA.tail | apply PullA.assoc | apply PullA.app))) | exact Pulls.appE _ _ | apply Pulls.skip | apply Pulls.assoc | apply Pulls.skipA))
        · refine WL_val rfl rfl rfl (R_loadA (vs := [_, _]) rfl ag25 rfl (by repeat (first | exact List.Mem.head _ | refine List.Mem.tail _ ?_ | refine mem_assoc ?_ | refine List.mem_append_right _ ?_)) rfl (by repeat (first | exact At.nil | refine At.cons ?_ | refine At.succ ?_))) ?_
          refine WL_val rfl rfl rfl (R_loadA (vs := [_, _]) rfl ag25 rfl (by repeat (first | exact List.Mem.head _ | refine List.Mem.tail _ ?_ | refine mem_assoc ?_ | refine List.mem_append_right _ ?_)) rfl (by repeat (first | exact At.nil | refine At.cons ?_ | refine At.succ ?_))) ?_
          refine WL_val rfl rfl rfl (R_seq25 rfl rfl rfl rfl) ?_
          refine WL_val rfl rfl rfl (R_pickF rfl rfl rfl) ?_
          refine WL_nil ?_
          refine WQ_code ?_
          refine WC_dec rfl (fun c5 => ?_) (fun c5 => ?_)
          · refine WC_seq ?_
            refine WC_region ?_
            refine WL_do rfl rfl rfl (D_call (known_ok) rfl rfl rfl rfl (by repeat (first | exact Pulls.nil | exact Pulls.all | (apply Pulls.cons; (repeat (first | exact Pull.head | apply Pull.tail | apply Pull.assoc | apply Pull.app))) | apply Pulls.assocX | (apply Pulls.chunk; (repeat (first | exact PullA.here | exact PullA.all | apply PullA.tail | apply PullA.assoc | apply PullA.app))) | exact Pulls.appE _ _ | apply Pulls.skip | apply Pulls.assoc | apply Pulls.skipA))) ?_
            rintro _ _ ⟨_, ⟨rfl, rfl⟩, rfl⟩
            refine WL_val rfl rfl rfl (R_assign rfl rfl) ?_
            refine WL_nil ?_
            refine WQ_code ?_
            refine WC_ret ?_
            refine WQ_ret rfl rfl (.cons (.tmp rfl) .nil) rfl (by
                exact ⟨rfl, rfl⟩) (by repeat (first | exact Pulls.nil | exact Pulls.all | (apply Pulls.cons; (repeat (first | exact Pull.head | apply Pull.tail | apply Pull.assoc | apply Pull.app))) | apply Pulls.assocX | (apply Pulls.chunk; (repeat (first | exact PullA.here | exact PullA.all | apply PullA.tail | apply PullA.assoc | apply PullA.app))) | exact Pulls.appE _ _ | apply Pulls.skip | apply Pulls.assoc | apply Pulls.skipA))
          · exfalso; revert h; simp_all <;> omega
theorem queues_ok (M : Nat) (hm1 : 1 ≤ M) (hm2 : M ≤ 64) (wh : Nat) (one two : Sp) (hv1 : vldS one) (hv2 : vldS two) (hne : ¬ (one.1 = two.1 ∧ one.2 = two.2)) : Spec Try.prog 3 [.int .i64 (M : Int), .int .u64 (wh : Int), ekS one, ekS two] [] (fun r H' => r = .bool true ∧ H' = []) := by
  have hab : one ≠ two := fun e => hne (by rw [e]; exact ⟨rfl, rfl⟩)
  have hsp1 : spE one = 0 := if_pos hv1
  have hsp2 : spE two = 0 := if_pos hv2
  refine Spec.of (E := [(0, .int .i64 (M : Int)), (1, .int .u64 (wh : Int)), (2, ekS one), (3, ekS two)]) Try.func3 rfl (by kernel_rfl) Try.ntmps3 rfl rfl (fun w => ?_)
  refine WC_seq ?_
  refine WC_region ?_
  refine WL_do rfl rfl rfl (D_box (cs := [_, _]) rfl rfl rfl) ?_
  rintro _ _ ⟨b1, rfl, rfl⟩
  refine WL_do rfl rfl rfl (D_box (cs := [_, _]) rfl rfl rfl) ?_
  rintro _ _ ⟨b2, rfl, rfl⟩
  refine WL_val rfl rfl rfl (R_assign rfl rfl) ?_
  refine WL_nil ?_
  refine WQ_code ?_
  refine WC_seq ?_
  refine WC_seq ?_
  refine WC_region ?_
  refine WL_val rfl rfl rfl (R_move rfl rfl) ?_
  refine WL_val rfl rfl rfl (R_lss rfl rfl rfl) ?_
  refine WL_val rfl rfl rfl (R_move rfl rfl) ?_
  refine WL_set (s := 24) (v := .bool false) rfl (by simp; omega) ?_
  refine WL_val rfl rfl rfl (R_move rfl rfl) ?_
  refine WL_val rfl rfl rfl (R_gtr rfl rfl rfl) ?_
  refine WL_val rfl rfl rfl (R_pickF rfl rfl rfl) ?_
  refine WL_val rfl rfl rfl (R_move rfl rfl) ?_
  refine WL_set (s := 28) (v := .bool false) rfl (by simp; omega) ?_
  refine WL_val rfl rfl rfl (R_loadA (vs := [_, _]) rfl ag25 rfl (by repeat (first | exact List.Mem.head _ | refine List.Mem.tail _ ?_ | refine mem_assoc ?_ | refine List.mem_append_right _ ?_)) rfl (by repeat (first | exact At.nil | refine At.cons ?_ | refine At.succ ?_))) ?_
  refine WL_do rfl rfl rfl (D_call (rspot_ok one) rfl rfl rfl rfl (by repeat (first | exact Pulls.nil | exact Pulls.all | (apply Pulls.cons; (repeat (first | exact Pull.head | apply Pull.tail | apply Pull.assoc | apply Pull.app))) | apply Pulls.assocX | (apply Pulls.chunk; (repeat (first | exact PullA.here | exact PullA.all | apply PullA.tail | apply PullA.assoc | apply PullA.app))) | exact Pulls.appE _ _ | apply Pulls.skip | apply Pulls.assoc | apply Pulls.skipA))) ?_
  rintro _ _ ⟨_, ⟨rfl, rfl⟩, rfl⟩
  refine WL_val rfl rfl rfl (R_notD rfl rfl) ?_
  refine WL_val rfl rfl rfl (R_pickF rfl rfl rfl) ?_
  refine WL_val rfl rfl rfl (R_move rfl rfl) ?_
  refine WL_set (s := 33) (v := .bool false) rfl (by simpa using hv1) ?_
  refine WL_val rfl rfl rfl (R_loadA (vs := [_, _]) rfl ag25 rfl (by repeat (first | exact List.Mem.head _ | refine List.Mem.tail _ ?_ | refine mem_assoc ?_ | refine List.mem_append_right _ ?_)) rfl (by repeat (first | exact At.nil | refine At.cons ?_ | refine At.succ ?_))) ?_
  refine WL_do rfl rfl rfl (D_call (rspot_ok two) rfl rfl rfl rfl (by repeat (first | exact Pulls.nil | exact Pulls.all | (apply Pulls.cons; (repeat (first | exact Pull.head | apply Pull.tail | apply Pull.assoc | apply Pull.app))) | apply Pulls.assocX | (apply Pulls.chunk; (repeat (first | exact PullA.here | exact PullA.all | apply PullA.tail | apply PullA.assoc | apply PullA.app))) | exact Pulls.appE _ _ | apply Pulls.skip | apply Pulls.assoc | apply Pulls.skipA))) ?_
  rintro _ _ ⟨_, ⟨rfl, rfl⟩, rfl⟩
  refine WL_val rfl rfl rfl (R_notD rfl rfl) ?_
  refine WL_val rfl rfl rfl (R_pickF rfl rfl rfl) ?_
  refine WL_val rfl rfl rfl (R_move rfl rfl) ?_
  refine WL_set (s := 38) (v := .bool false) rfl (by simpa using hv2) ?_
  refine WL_val rfl rfl rfl (R_loadA (vs := [_, _]) rfl ag25 rfl (by repeat (first | exact List.Mem.head _ | refine List.Mem.tail _ ?_ | refine mem_assoc ?_ | refine List.mem_append_right _ ?_)) rfl (by repeat (first | exact At.nil | refine At.cons ?_ | refine At.succ ?_))) ?_
  refine WL_val rfl rfl rfl (R_loadA (vs := [_, _]) rfl ag25 rfl (by repeat (first | exact List.Mem.head _ | refine List.Mem.tail _ ?_ | refine mem_assoc ?_ | refine List.mem_append_right _ ?_)) rfl (by repeat (first | exact At.nil | refine At.cons ?_ | refine At.succ ?_))) ?_
  refine WL_val rfl rfl rfl (R_seq25 rfl rfl rfl rfl) ?_
  refine WL_val rfl rfl rfl (R_pickF rfl rfl rfl) ?_
  refine WL_nil ?_
  refine WQ_code ?_
  refine WC_dF rfl (by exact hne) ?_
  refine WC_skip ?_
  refine WQ_code ?_
  refine WC_seq ?_
  refine WC_region ?_
  refine WL_val rfl rfl rfl (R_move rfl rfl) ?_
  refine WL_do rfl rfl rfl (D_call (pnew_ok M hm1 hm2) rfl rfl rfl rfl (by repeat (first | exact Pulls.nil | exact Pulls.all | (apply Pulls.cons; (repeat (first | exact Pull.head | apply Pull.tail | apply Pull.assoc | apply Pull.app))) | apply Pulls.assocX | (apply Pulls.chunk; (repeat (first | exact PullA.here | exact PullA.all | apply PullA.tail | apply PullA.assoc | apply PullA.app))) | exact Pulls.appE _ _ | apply Pulls.skip | apply Pulls.assoc | apply Pulls.skipA))) ?_
  rintro _ _ ⟨_, ⟨m0, rfl, rfl, g0⟩, rfl⟩
  refine WL_val rfl rfl rfl (R_move rfl rfl) ?_
  refine WL_val rfl rfl rfl (R_extract rfl rfl rfl) ?_
  refine WL_val rfl rfl rfl (R_extract rfl rfl rfl) ?_
  refine WL_val rfl rfl rfl (R_assign rfl rfl) ?_
  refine WL_val rfl rfl rfl (R_assign rfl rfl) ?_
  refine WL_nil ?_
  refine WQ_code ?_
  refine WC_seq ?_
  refine WC_seq ?_
  refine WC_region ?_
  refine WL_val rfl rfl rfl (R_move rfl rfl) ?_
  refine WL_val rfl rfl rfl (R_ptrEqNil rfl Try.underlying28 rfl) ?_
  refine WL_val rfl rfl rfl (R_move rfl rfl) ?_
  refine WL_val rfl rfl rfl (R_move rfl rfl) ?_
  refine WL_val rfl rfl rfl (R_neq rfl rfl rfl) ?_
  refine WL_set (s := 53) (v := .bool false) rfl (by simp) ?_
  refine WL_val rfl rfl rfl (R_pickF rfl rfl rfl) ?_
  refine WL_nil ?_
  refine WQ_code ?_
  refine WC_F rfl ?_
  refine WC_skip ?_
  refine WQ_code ?_
  refine WC_seq ?_
  refine WC_region ?_
  refine WL_val rfl rfl rfl (R_assign rfl rfl) ?_
  refine WL_val rfl rfl rfl (R_assign rfl rfl) ?_
  refine WL_nil ?_
  refine WQ_code ?_
  refine WC_seq ?_
  refine WC_seq ?_
  refine WC_region ?_
  refine WL_val rfl rfl rfl (R_assign rfl rfl) ?_
  refine WL_nil ?_
  refine WQ_code ?_
  refine WC_block ?_
  refine WC_none 3 ?_
  refine WC_none 3 ?_
  refine WC_loopF (G := QW) [8, 11, 12, 13, 14, 15, 16, 55, 56, 57, 58, 59, 60, 61, 62, 63, 64, 65, 66, 67, 68, 69, 70, 71, 72, 73, 74, 75, 76, 77, 78, 79, 80, 81, 82, 83, 84, 85, 86, 87, 88, 89, 90, 91, 92, 93, 94, 95, 96, 97, 98, 99] (fun y => y.i ≤ M ∧ PkIs y.N y.s y.m ∧ y.N ≤ 2 * y.i ∧ y.m.p = m0.p ∧ y.s.qm = [] ∧ (∀ k, y.i ≤ k → k < M → y.s.sm[k]? = some 0) ∧ wAt y.s.W one = y.A ∧ wAt y.s.W two = y.B ∧ Own y.oa y.A.length y.ca 1 (ivs y.A) y.ta ∧ Own y.ob y.B.length y.cb 1 (ivs y.B) y.tb) (fun y => [(13, .int .i64 (y.i : Int)), (11, slV y.oa y.A.length y.ca), (12, slV y.ob y.B.length y.cb)]) (fun y => [⟨y.oa, cl (ivs y.A ++ y.ta) 3⟩, ⟨y.ob, cl (ivs y.B ++ y.tb) 3⟩] ++ pkH y.m) (fun y => M - y.i) (⟨0, 0, ⟨List.replicate M 0, [], []⟩, m0, [], none, 0, [], [], none, 0, []⟩) (⟨Nat.zero_le _, g0, Nat.le_refl _, rfl, rfl, fun k _ hk => by simp [hk], rfl, rfl, Own.empty 1, Own.empty 1⟩) (Le.lq (by repeat (first | exact Le.nil | refine Le.cons rfl (by first | rfl | (congr 1; omega)) ?_))) (by repeat (first | exact Pulls.nil | exact Pulls.all | (apply Pulls.cons; (repeat (first | exact Pull.head | apply Pull.tail | apply Pull.assoc | apply Pull.app))) | apply Pulls.assocX | (apply Pulls.chunk; (repeat (first | exact PullA.here | exact PullA.all | apply PullA.tail | apply PullA.assoc | apply PullA.app))) | exact Pulls.appE _ _ | apply Pulls.skip | apply Pulls.assoc | apply Pulls.skipA)) ?_
  rintro y ⟨hyi, hy, hyn, hyp, hqm, hz0, hA, hB, hoa, hob⟩
  rw [← hyp]
  have hAl : y.A.length ≤ 64 := by rw [← hA]; exact Nat.le_trans (wAt_len _ _) hy.ps.few
  have hBl : y.B.length ≤ 64 := by rw [← hB]; exact Nat.le_trans (wAt_len _ _) hy.ps.few
  refine WC_seq ?_
  refine WC_seq ?_
  refine WC_region ?_
  refine WL_val rfl rfl rfl (R_move rfl rfl) ?_
  refine WL_val rfl rfl rfl (R_move rfl rfl) ?_
  refine WL_val rfl rfl rfl (R_lss rfl rfl rfl) ?_
  refine WL_nil ?_
  refine WQ_code ?_
  refine WC_dec rfl (fun c1 => ?_) (fun c1 => ?_)
  · refine WC_skip ?_
    refine WQ_code ?_
    refine WC_seq ?_
    refine WC_block ?_
    refine WC_seq ?_
    refine WC_region ?_
    have hi0 := hz0 y.i (Nat.le_refl _) (by omega)
    have hil : y.i < y.s.sm.length := (List.getElem?_eq_some_iff.1 hi0).1
    refine WL_val rfl rfl rfl (R_loadA (vs := [_, _]) rfl ag25 rfl (by repeat (first | exact List.Mem.head _ | refine List.Mem.tail _ ?_ | refine mem_assoc ?_ | refine List.mem_append_right _ ?_)) rfl (by repeat (first | exact At.nil | refine At.cons ?_ | refine At.succ ?_))) ?_
    refine WL_do rfl rfl rfl (D_alloc rfl zv25) ?_
    rintro _ _ ⟨b3, rfl, rfl⟩
    refine WL_do0 rfl rfl (D_store (vs := [_, _]) rfl Try.sizeOf25 rfl rfl rfl rfl rfl (by repeat (first | exact Pull.head | apply Pull.tail | apply Pull.assoc | apply Pull.app)) (by exact Nat.le_of_ble_eq_true rfl)) ?_
    rintro _ _ rfl
    refine WL_nil ?_
    refine WQ_code ?_
    refine WC_seq ?_
    refine WC_seq ?_
    refine WC_region ?_
    refine WL_val rfl rfl rfl (R_move rfl rfl) ?_
    refine WL_val rfl rfl rfl (R_move rfl rfl) ?_
    refine WL_val rfl rfl rfl (R_conv (r := ((y.i : Nat) : Int)) rfl Try.underlying3 Try.underlying33 rfl ((show IntKind.u64.wrap _ = _ from w64 (by omega)))) ?_
    refine WL_val rfl rfl rfl (R_shrR (r := _) rfl rfl rfl (by omega) (rfl)) ?_
    refine WL_val rfl rfl rfl (R_andR (r := _) rfl rfl rfl (rfl)) ?_
    refine WL_val rfl rfl rfl (R_eql rfl rfl rfl) ?_
    refine WL_nil ?_
    refine WQ_code ?_
    refine WC_dec rfl (fun c2 => ?_) (fun c2 => ?_)
    · refine WC_seq ?_
      refine WC_region ?_
      refine WL_val rfl rfl rfl (R_loadA (vs := [_, _]) rfl ag25 rfl (by repeat (first | exact List.Mem.head _ | refine List.Mem.tail _ ?_ | refine mem_assoc ?_ | refine List.mem_append_right _ ?_)) rfl (by repeat (first | exact At.nil | refine At.cons ?_ | refine At.succ ?_))) ?_
      refine WL_do0 rfl rfl (D_store (vs := [_, _]) rfl Try.sizeOf25 rfl rfl rfl rfl rfl (by repeat (first | exact Pull.head | apply Pull.tail | apply Pull.assoc | apply Pull.app)) (by exact Nat.le_of_ble_eq_true rfl)) ?_
      rintro _ _ rfl
      refine WL_nil ?_
      refine WQ_code ?_
      refine WC_region ?_
      refine WL_val rfl rfl rfl (R_move rfl rfl) ?_
      refine WL_val rfl rfl rfl (R_move rfl rfl) ?_
      refine WL_do rfl rfl rfl (D_buildSlice rfl si32 rfl rfl rfl) ?_
      rintro _ _ ⟨b4, rfl, rfl⟩
      refine WL_do rfl rfl rfl (D_append rfl si32 rfl (hob) (by repeat (first | exact Pull.head | apply Pull.tail | apply Pull.assoc | apply Pull.app)) rfl (by repeat (first | exact List.Mem.head _ | refine List.Mem.tail _ ?_ | refine mem_assoc ?_ | refine List.mem_append_right _ ?_)) ((by repeat (first | exact At.nil | refine At.cons ?_ | refine At.succ ?_) : At _ 0 [_])) (rfl) (rfl) (by omega) (by omega)) ?_
      rintro _ _ ⟨ob5, cap5, tl5, rfl, own5, rfl⟩
      rw [show ivs y.B ++ [Value.int .i64 ((y.i : Nat) : Int)] = ivs (y.B ++ [((y.i : Nat) : Int)]) from by simp, show y.B.length + 1 = (y.B ++ [((y.i : Nat) : Int)]).length from by simp] at *
      refine WL_val rfl rfl rfl (R_assign rfl rfl) ?_
      refine WL_nil ?_
      refine WQ_code ?_
      refine WC_seq ?_
      refine WC_seq ?_
      refine WC_region ?_
      refine WL_val rfl rfl rfl (R_move rfl rfl) ?_
      refine WL_val rfl rfl rfl (R_move rfl rfl) ?_
      refine WL_do rfl rfl rfl (D_call (pk_start y.N y.s y.m hy (by omega) (y.i : Int)) rfl rfl rfl rfl (by repeat (first | exact Pulls.nil | exact Pulls.all | (apply Pulls.cons; (repeat (first | exact Pull.head | apply Pull.tail | apply Pull.assoc | apply Pull.app))) | apply Pulls.assocX | (apply Pulls.chunk; (repeat (first | exact PullA.here | exact PullA.all | apply PullA.tail | apply PullA.assoc | apply PullA.app))) | exact Pulls.appE _ _ | apply Pulls.skip | apply Pulls.assoc | apply Pulls.skipA))) ?_
      rintro _ _ ⟨_, ⟨m1, rfl, rfl, hp1, h1⟩, rfl⟩
      have hst := q_step hi0 hqm
      rw [hst] at h1
      rw [← hp1]
      have hi1 : (y.s.sm.set y.i 1)[y.i]? = some 1 := by rw [List.getElem?_set, if_pos rfl, if_pos hil]
      refine WL_val rfl rfl rfl (R_neq rfl rfl rfl) ?_
      refine WL_set (s := 79) (v := .bool false) rfl (by simp [stepR_ok hi0]) ?_
      refine WL_val rfl rfl rfl (R_move rfl rfl) ?_
      refine WL_val rfl rfl rfl (R_move rfl rfl) ?_
      refine WL_val rfl rfl rfl (R_move rfl rfl) ?_
      refine WL_val rfl rfl rfl (R_loadA (vs := [_, _]) rfl ag25 rfl (by repeat (first | exact List.Mem.head _ | refine List.Mem.tail _ ?_ | refine mem_assoc ?_ | refine List.mem_append_right _ ?_)) rfl (by repeat (first | exact At.nil | refine At.cons ?_ | refine At.succ ?_))) ?_
      refine WL_do rfl rfl rfl (D_call (pk_park (y.N + 1) ⟨y.s.sm.set y.i 1, [(y.i : Int)], y.s.W⟩ m1 h1 (by omega) (y.i : Int) two) rfl rfl rfl rfl (by repeat (first | exact Pulls.nil | exact Pulls.all | (apply Pulls.cons; (repeat (first | exact Pull.head | apply Pull.tail | apply Pull.assoc | apply Pull.app))) | apply Pulls.assocX | (apply Pulls.chunk; (repeat (first | exact PullA.here | exact PullA.all | apply PullA.tail | apply PullA.assoc | apply PullA.app))) | exact Pulls.appE _ _ | apply Pulls.skip | apply Pulls.assoc | apply Pulls.skipA))) ?_
      rintro _ _ ⟨_, ⟨m2, rfl, rfl, hp2, h2⟩, rfl⟩
      obtain ⟨e9, e8⟩ := park_ok' (s := ⟨y.s.sm.set y.i 1, [(y.i : Int)], y.s.W⟩) (at_ := two) h1.ps hi1 hv2
      rw [e8, q_add (s := ⟨y.s.sm.set y.i 1, [(y.i : Int)], y.s.W⟩) hi1 rfl] at h2
      rw [← hp2]
      refine WL_val rfl rfl rfl (R_neq rfl rfl rfl) ?_
      refine WL_set (s := 85) (v := .bool false) rfl (by simp [e9]) ?_
      refine WL_val rfl rfl rfl (R_pickF rfl rfl rfl) ?_
      refine WL_nil ?_
      refine WQ_code ?_
      refine WC_F rfl ?_
      refine WC_skip ?_
      refine WQ_code ?_
      refine WC_seq ?_
      refine WC_region ?_
      refine WL_val rfl rfl rfl (R_move rfl rfl) ?_
      refine WL_val rfl rfl rfl (R_move rfl rfl) ?_
      refine WL_do rfl rfl rfl (D_call (pk_where (y.N + 1 + 1) ⟨(y.s.sm.set y.i 1).set y.i 2, [], y.s.W ++ [⟨y.i, two⟩]⟩ m2 h2 (y.i : Int)) rfl rfl rfl rfl (by repeat (first | exact Pulls.nil | exact Pulls.all | (apply Pulls.cons; (repeat (first | exact Pull.head | apply Pull.tail | apply Pull.assoc | apply Pull.app))) | apply Pulls.assocX | (apply Pulls.chunk; (repeat (first | exact PullA.here | exact PullA.all | apply PullA.tail | apply PullA.assoc | apply PullA.app))) | exact Pulls.appE _ _ | apply Pulls.skip | apply Pulls.assoc | apply Pulls.skipA))) ?_
      rintro _ _ ⟨_, ⟨rfl, rfl⟩, rfl⟩
      have e7 := h2.ps.whr_yes (w := ⟨y.i, two⟩) (List.mem_append_right _ (List.mem_singleton.2 rfl))
      dsimp only at e7
      rw [e7]
      refine WL_val rfl rfl rfl (R_move rfl rfl) ?_
      refine WL_val rfl rfl rfl (R_extract rfl rfl rfl) ?_
      refine WL_val rfl rfl rfl (R_extract rfl rfl rfl) ?_
      refine WL_do rfl rfl rfl (D_alloc rfl zv25) ?_
      rintro _ _ ⟨b6, rfl, rfl⟩
      refine WL_do0 rfl rfl (D_store (vs := [_, _]) rfl Try.sizeOf25 rfl rfl rfl rfl rfl (by repeat (first | exact Pull.head | apply Pull.tail | apply Pull.assoc | apply Pull.app)) (by exact Nat.le_of_ble_eq_true rfl)) ?_
      rintro _ _ rfl
      refine WL_val rfl rfl rfl (R_assign rfl rfl) ?_
      refine WL_nil ?_
      refine WQ_code ?_
      refine WC_seq ?_
      refine WC_region ?_
      refine WL_val rfl rfl rfl (R_loadA (vs := [_, _]) rfl ag25 rfl (by repeat (first | exact List.Mem.head _ | refine List.Mem.tail _ ?_ | refine mem_assoc ?_ | refine List.mem_append_right _ ?_)) rfl (by repeat (first | exact At.nil | refine At.cons ?_ | refine At.succ ?_))) ?_
      refine WL_val rfl rfl rfl (R_loadA (vs := [_, _]) rfl ag25 rfl (by repeat (first | exact List.Mem.head _ | refine List.Mem.tail _ ?_ | refine mem_assoc ?_ | refine List.mem_append_right _ ?_)) rfl (by repeat (first | exact At.nil | refine At.cons ?_ | refine At.succ ?_))) ?_
      refine WL_val rfl rfl rfl (R_sne25 rfl rfl rfl rfl) ?_
      refine WL_set (s := 95) (v := .bool false) rfl (by simp) ?_
      refine WL_val rfl rfl rfl (R_move rfl rfl) ?_
      refine WL_val rfl rfl rfl (R_move rfl rfl) ?_
      refine WL_val rfl rfl rfl (R_neq rfl rfl rfl) ?_
      refine WL_set (s := 98) (v := .bool false) rfl (by simp) ?_
      refine WL_val rfl rfl rfl (R_pickF rfl rfl rfl) ?_
      refine WL_nil ?_
      refine WQ_code ?_
      refine WC_F rfl ?_
      refine WC_skip ?_
      refine WQ_code ?_
      refine WC_region ?_
      refine WL_val rfl rfl rfl (R_move rfl rfl) ?_
      refine WL_val rfl rfl rfl (R_add rfl rfl rfl (by omega)) ?_
      refine WL_val rfl rfl rfl (R_assign rfl rfl) ?_
      refine WL_nil ?_
      refine WQ_nextF (⟨y.i + 1, y.N + 1 + 1, ⟨(y.s.sm.set y.i 1).set y.i 2, [], y.s.W ++ [⟨y.i, two⟩]⟩, m2, y.A, y.oa, y.ca, y.ta, y.B ++ [((y.i : Nat) : Int)], ob5, cap5, tl5⟩) (⟨by dsimp only; omega, h2, by dsimp only; omega, rfl, rfl, fun k hk1 hk2 => by dsimp only at hk1 ⊢; rw [List.getElem?_set, if_neg (by omega), List.getElem?_set, if_neg (by omega)]; exact hz0 k (by omega) hk2, by dsimp only; rw [wAt_snoc, if_neg hab.symm, List.append_nil]; exact hA, by dsimp only; rw [wAt_snoc, if_pos rfl, hB], hoa, own5⟩) (by dsimp only; omega) (Le.lq (by repeat (first | exact Le.nil | refine Le.cons rfl (by first | rfl | (congr 1; omega)) ?_))) (by repeat (first | exact Pushed.refl | refine Pushed.push rfl ?_)) rfl (by repeat (first | exact Pulls.nil | exact Pulls.all | (apply Pulls.cons; (repeat (first | exact Pull.head | apply Pull.tail | apply Pull.assoc | apply Pull.app))) | apply Pulls.assocX | (apply Pulls.chunk; (repeat (first | exact PullA.here | exact PullA.all | apply PullA.tail | apply PullA.assoc | apply PullA.app))) | exact Pulls.appE _ _ | apply Pulls.skip | apply Pulls.assoc | apply Pulls.skipA))
    · refine WC_region ?_
      refine WL_val rfl rfl rfl (R_move rfl rfl) ?_
      refine WL_val rfl rfl rfl (R_move rfl rfl) ?_
      refine WL_do rfl rfl rfl (D_buildSlice rfl si32 rfl rfl rfl) ?_
      rintro _ _ ⟨b7, rfl, rfl⟩
      refine WL_do rfl rfl rfl (D_append rfl si32 rfl (hoa) (by repeat (first | exact Pull.head | apply Pull.tail | apply Pull.assoc | apply Pull.app)) rfl (by repeat (first | exact List.Mem.head _ | refine List.Mem.tail _ ?_ | refine mem_assoc ?_ | refine List.mem_append_right _ ?_)) ((by repeat (first | exact At.nil | refine At.cons ?_ | refine At.succ ?_) : At _ 0 [_])) (rfl) (rfl) (by omega) (by omega)) ?_
      rintro _ _ ⟨ob8, cap8, tl8, rfl, own8, rfl⟩
      rw [show ivs y.A ++ [Value.int .i64 ((y.i : Nat) : Int)] = ivs (y.A ++ [((y.i : Nat) : Int)]) from by simp, show y.A.length + 1 = (y.A ++ [((y.i : Nat) : Int)]).length from by simp] at *
      refine WL_val rfl rfl rfl (R_assign rfl rfl) ?_
      refine WL_nil ?_
      refine WQ_code ?_
      refine WC_seq ?_
      refine WC_seq ?_
      refine WC_region ?_
      refine WL_val rfl rfl rfl (R_move rfl rfl) ?_
      refine WL_val rfl rfl rfl (R_move rfl rfl) ?_
      refine WL_do rfl rfl rfl (D_call (pk_start y.N y.s y.m hy (by omega) (y.i : Int)) rfl rfl rfl rfl (by repeat (first | exact Pulls.nil | exact Pulls.all | (apply Pulls.cons; (repeat (first | exact Pull.head | apply Pull.tail | apply Pull.assoc | apply Pull.app))) | apply Pulls.assocX | (apply Pulls.chunk; (repeat (first | exact PullA.here | exact PullA.all | apply PullA.tail | apply PullA.assoc | apply PullA.app))) | exact Pulls.appE _ _ | apply Pulls.skip | apply Pulls.assoc | apply Pulls.skipA))) ?_
      rintro _ _ ⟨_, ⟨m1, rfl, rfl, hp1, h1⟩, rfl⟩
      have hst := q_step hi0 hqm
      rw [hst] at h1
      rw [← hp1]
      have hi1 : (y.s.sm.set y.i 1)[y.i]? = some 1 := by rw [List.getElem?_set, if_pos rfl, if_pos hil]
      refine WL_val rfl rfl rfl (R_neq rfl rfl rfl) ?_
      refine WL_set (s := 79) (v := .bool false) rfl (by simp [stepR_ok hi0]) ?_
      refine WL_val rfl rfl rfl (R_move rfl rfl) ?_
      refine WL_val rfl rfl rfl (R_move rfl rfl) ?_
      refine WL_val rfl rfl rfl (R_move rfl rfl) ?_
      refine WL_val rfl rfl rfl (R_loadA (vs := [_, _]) rfl ag25 rfl (by repeat (first | exact List.Mem.head _ | refine List.Mem.tail _ ?_ | refine mem_assoc ?_ | refine List.mem_append_right _ ?_)) rfl (by repeat (first | exact At.nil | refine At.cons ?_ | refine At.succ ?_))) ?_
      refine WL_do rfl rfl rfl (D_call (pk_park (y.N + 1) ⟨y.s.sm.set y.i 1, [(y.i : Int)], y.s.W⟩ m1 h1 (by omega) (y.i : Int) one) rfl rfl rfl rfl (by repeat (first | exact Pulls.nil | exact Pulls.all | (apply Pulls.cons; (repeat (first | exact Pull.head | apply Pull.tail | apply Pull.assoc | apply Pull.app))) | apply Pulls.assocX | (apply Pulls.chunk; (repeat (first | exact PullA.here | exact PullA.all | apply PullA.tail | apply PullA.assoc | apply PullA.app))) | exact Pulls.appE _ _ | apply Pulls.skip | apply Pulls.assoc | apply Pulls.skipA))) ?_
      rintro _ _ ⟨_, ⟨m2, rfl, rfl, hp2, h2⟩, rfl⟩
      obtain ⟨e9, e8⟩ := park_ok' (s := ⟨y.s.sm.set y.i 1, [(y.i : Int)], y.s.W⟩) (at_ := one) h1.ps hi1 hv1
      rw [e8, q_add (s := ⟨y.s.sm.set y.i 1, [(y.i : Int)], y.s.W⟩) hi1 rfl] at h2
      rw [← hp2]
      refine WL_val rfl rfl rfl (R_neq rfl rfl rfl) ?_
      refine WL_set (s := 85) (v := .bool false) rfl (by simp [e9]) ?_
      refine WL_val rfl rfl rfl (R_pickF rfl rfl rfl) ?_
      refine WL_nil ?_
      refine WQ_code ?_
      refine WC_F rfl ?_
      refine WC_skip ?_
      refine WQ_code ?_
      refine WC_seq ?_
      refine WC_region ?_
      refine WL_val rfl rfl rfl (R_move rfl rfl) ?_
      refine WL_val rfl rfl rfl (R_move rfl rfl) ?_
      refine WL_do rfl rfl rfl (D_call (pk_where (y.N + 1 + 1) ⟨(y.s.sm.set y.i 1).set y.i 2, [], y.s.W ++ [⟨y.i, one⟩]⟩ m2 h2 (y.i : Int)) rfl rfl rfl rfl (by repeat (first | exact Pulls.nil | exact Pulls.all | (apply Pulls.cons; (repeat (first | exact Pull.head | apply Pull.tail | apply Pull.assoc | apply Pull.app))) | apply Pulls.assocX | (apply Pulls.chunk; (repeat (first | exact PullA.here | exact PullA.all | apply PullA.tail | apply PullA.assoc | apply PullA.app))) | exact Pulls.appE _ _ | apply Pulls.skip | apply Pulls.assoc | apply Pulls.skipA))) ?_
      rintro _ _ ⟨_, ⟨rfl, rfl⟩, rfl⟩
      have e7 := h2.ps.whr_yes (w := ⟨y.i, one⟩) (List.mem_append_right _ (List.mem_singleton.2 rfl))
      dsimp only at e7
      rw [e7]
      refine WL_val rfl rfl rfl (R_move rfl rfl) ?_
      refine WL_val rfl rfl rfl (R_extract rfl rfl rfl) ?_
      refine WL_val rfl rfl rfl (R_extract rfl rfl rfl) ?_
      refine WL_do rfl rfl rfl (D_alloc rfl zv25) ?_
      rintro _ _ ⟨b9, rfl, rfl⟩
      refine WL_do0 rfl rfl (D_store (vs := [_, _]) rfl Try.sizeOf25 rfl rfl rfl rfl rfl (by repeat (first | exact Pull.head | apply Pull.tail | apply Pull.assoc | apply Pull.app)) (by exact Nat.le_of_ble_eq_true rfl)) ?_
      rintro _ _ rfl
      refine WL_val rfl rfl rfl (R_assign rfl rfl) ?_
      refine WL_nil ?_
      refine WQ_code ?_
      refine WC_seq ?_
      refine WC_region ?_
      refine WL_val rfl rfl rfl (R_loadA (vs := [_, _]) rfl ag25 rfl (by repeat (first | exact List.Mem.head _ | refine List.Mem.tail _ ?_ | refine mem_assoc ?_ | refine List.mem_append_right _ ?_)) rfl (by repeat (first | exact At.nil | refine At.cons ?_ | refine At.succ ?_))) ?_
      refine WL_val rfl rfl rfl (R_loadA (vs := [_, _]) rfl ag25 rfl (by repeat (first | exact List.Mem.head _ | refine List.Mem.tail _ ?_ | refine mem_assoc ?_ | refine List.mem_append_right _ ?_)) rfl (by repeat (first | exact At.nil | refine At.cons ?_ | refine At.succ ?_))) ?_
      refine WL_val rfl rfl rfl (R_sne25 rfl rfl rfl rfl) ?_
      refine WL_set (s := 95) (v := .bool false) rfl (by simp) ?_
      refine WL_val rfl rfl rfl (R_move rfl rfl) ?_
      refine WL_val rfl rfl rfl (R_move rfl rfl) ?_
      refine WL_val rfl rfl rfl (R_neq rfl rfl rfl) ?_
      refine WL_set (s := 98) (v := .bool false) rfl (by simp) ?_
      refine WL_val rfl rfl rfl (R_pickF rfl rfl rfl) ?_
      refine WL_nil ?_
      refine WQ_code ?_
      refine WC_F rfl ?_
      refine WC_skip ?_
      refine WQ_code ?_
      refine WC_region ?_
      refine WL_val rfl rfl rfl (R_move rfl rfl) ?_
      refine WL_val rfl rfl rfl (R_add rfl rfl rfl (by omega)) ?_
      refine WL_val rfl rfl rfl (R_assign rfl rfl) ?_
      refine WL_nil ?_
      refine WQ_nextF (⟨y.i + 1, y.N + 1 + 1, ⟨(y.s.sm.set y.i 1).set y.i 2, [], y.s.W ++ [⟨y.i, one⟩]⟩, m2, y.A ++ [((y.i : Nat) : Int)], ob8, cap8, tl8, y.B, y.ob, y.cb, y.tb⟩) (⟨by dsimp only; omega, h2, by dsimp only; omega, rfl, rfl, fun k hk1 hk2 => by dsimp only at hk1 ⊢; rw [List.getElem?_set, if_neg (by omega), List.getElem?_set, if_neg (by omega)]; exact hz0 k (by omega) hk2, by dsimp only; rw [wAt_snoc, if_pos rfl, hA], by dsimp only; rw [wAt_snoc, if_neg hab, List.append_nil]; exact hB, own8, hob⟩) (by dsimp only; omega) (Le.lq (by repeat (first | exact Le.nil | refine Le.cons rfl (by first | rfl | (congr 1; omega)) ?_))) (by repeat (first | exact Pushed.refl | refine Pushed.push rfl ?_)) rfl (by repeat (first | exact Pulls.nil | exact Pulls.all | (apply Pulls.cons; (repeat (first | exact Pull.head | apply Pull.tail | apply Pull.assoc | apply Pull.app))) | apply Pulls.assocX | (apply Pulls.chunk; (repeat (first | exact PullA.here | exact PullA.all | apply PullA.tail | apply PullA.assoc | apply PullA.app))) | exact Pulls.appE _ _ | apply Pulls.skip | apply Pulls.assoc | apply Pulls.skipA))
  · refine WC_exit ?_
    refine WQ_code ?_
    refine WC_seq ?_
    refine WC_seq ?_
    refine WC_region ?_
    refine WL_val rfl rfl rfl (R_move rfl rfl) ?_
    refine WL_val rfl rfl rfl (R_loadA (vs := [_, _]) rfl ag25 rfl (by repeat (first | exact List.Mem.head _ | refine List.Mem.tail _ ?_ | refine mem_assoc ?_ | refine List.mem_append_right _ ?_)) rfl (by repeat (first | exact At.nil | refine At.cons ?_ | refine At.succ ?_))) ?_
    refine WL_val rfl rfl rfl (R_move rfl rfl) ?_
    refine WL_do rfl rfl rfl (D_call (lwaits_ok y.N y.s y.m hy one hv1 y.A ((waiting_v hv1).trans hA) y.oa y.ca y.ta hoa) rfl rfl rfl rfl (by repeat (first | exact Pulls.nil | exact Pulls.all | (apply Pulls.cons; (repeat (first | exact Pull.head | apply Pull.tail | apply Pull.assoc | apply Pull.app))) | apply Pulls.assocX | (apply Pulls.chunk; (repeat (first | exact PullA.here | exact PullA.all | apply PullA.tail | apply PullA.assoc | apply PullA.app))) | exact Pulls.appE _ _ | apply Pulls.skip | apply Pulls.assoc | apply Pulls.skipA))) ?_
    rintro _ _ ⟨_, ⟨rfl, rfl⟩, rfl⟩
    refine WL_val rfl rfl rfl (R_not rfl rfl) ?_
    refine WL_val rfl rfl rfl (R_move rfl rfl) ?_
    refine WL_val rfl rfl rfl (R_move rfl rfl) ?_
    refine WL_val rfl rfl rfl (R_loadA (vs := [_, _]) rfl ag25 rfl (by repeat (first | exact List.Mem.head _ | refine List.Mem.tail _ ?_ | refine mem_assoc ?_ | refine List.mem_append_right _ ?_)) rfl (by repeat (first | exact At.nil | refine At.cons ?_ | refine At.succ ?_))) ?_
    refine WL_val rfl rfl rfl (R_move rfl rfl) ?_
    refine WL_do rfl rfl rfl (D_call (lwaits_ok y.N y.s y.m hy two hv2 y.B ((waiting_v hv2).trans hB) y.ob y.cb y.tb hob) rfl rfl rfl rfl (by repeat (first | exact Pulls.nil | exact Pulls.all | (apply Pulls.cons; (repeat (first | exact Pull.head | apply Pull.tail | apply Pull.assoc | apply Pull.app))) | apply Pulls.assocX | (apply Pulls.chunk; (repeat (first | exact PullA.here | exact PullA.all | apply PullA.tail | apply PullA.assoc | apply PullA.app))) | exact Pulls.appE _ _ | apply Pulls.skip | apply Pulls.assoc | apply Pulls.skipA))) ?_
    rintro _ _ ⟨_, ⟨rfl, rfl⟩, rfl⟩
    refine WL_val rfl rfl rfl (R_not rfl rfl) ?_
    refine WL_val rfl rfl rfl (R_pickF rfl rfl rfl) ?_
    refine WL_val rfl rfl rfl (R_move rfl rfl) ?_
    refine WL_val rfl rfl rfl (R_move rfl rfl) ?_
    refine WL_do rfl rfl rfl (D_call (pk_ready y.N y.s y.m hy) rfl rfl rfl rfl (by repeat (first | exact Pulls.nil | exact Pulls.all | (apply Pulls.cons; (repeat (first | exact Pull.head | apply Pull.tail | apply Pull.assoc | apply Pull.app))) | apply Pulls.assocX | (apply Pulls.chunk; (repeat (first | exact PullA.here | exact PullA.all | apply PullA.tail | apply PullA.assoc | apply PullA.app))) | exact Pulls.appE _ _ | apply Pulls.skip | apply Pulls.assoc | apply Pulls.skipA))) ?_
    rintro _ _ ⟨_, ⟨o2, c2, t2, rfl, own2, rfl⟩, rfl⟩
    refine WL_val rfl rfl rfl (R_len rfl Try.underlying32 rfl) ?_
    refine WL_val rfl rfl rfl (R_neq rfl rfl rfl) ?_
    refine WL_set (s := 116) (v := .bool false) rfl (by simp [hqm]) ?_
    refine WL_val rfl rfl rfl (R_pickF rfl rfl rfl) ?_
    refine WL_nil ?_
    refine WQ_code ?_
    refine WC_F rfl ?_
    refine WC_skip ?_
    refine WQ_code ?_
    refine WC_seq ?_
    refine WC_region ?_
    refine WL_val rfl rfl rfl (R_move rfl rfl) ?_
    refine WL_val rfl rfl rfl (R_loadA (vs := [_, _]) rfl ag25 rfl (by repeat (first | exact List.Mem.head _ | refine List.Mem.tail _ ?_ | refine mem_assoc ?_ | refine List.mem_append_right _ ?_)) rfl (by repeat (first | exact At.nil | refine At.cons ?_ | refine At.succ ?_))) ?_
    refine WL_do rfl rfl rfl (D_call (pk_wakeall y.N y.s y.m hy (by omega) two) rfl rfl rfl rfl (by repeat (first | exact Pulls.nil | exact Pulls.all | (apply Pulls.cons; (repeat (first | exact Pull.head | apply Pull.tail | apply Pull.assoc | apply Pull.app))) | apply Pulls.assocX | (apply Pulls.chunk; (repeat (first | exact PullA.here | exact PullA.all | apply PullA.tail | apply PullA.assoc | apply PullA.app))) | exact Pulls.appE _ _ | apply Pulls.skip | apply Pulls.assoc | apply Pulls.skipA))) ?_
    rintro _ _ ⟨_, ⟨m3, o3, c3, t3, rfl, own3, rfl, hp3, h3⟩, rfl⟩
    have hwB : y.s.waiting two = y.B := (waiting_v hv2).trans hB
    have hA3 : (y.s.wakeAll two).waiting one = y.A := by rw [waiting_v hv1, wakeAll_eq, wakes_other hy.ps hab.symm _ (Nat.le_refl _)]; exact hA
    have hq3 : (y.s.wakeAll two).qm = y.B := by rw [wakeAll_eq, (wakes_qm hy.ps hy.rdy two _ (Nat.le_refl _)).1, hqm, List.take_length, List.nil_append]; exact hwB
    rw [hwB] at own3 ⊢
    rw [hsp2, ← hp3]
    refine WL_val rfl rfl rfl (R_move rfl rfl) ?_
    refine WL_val rfl rfl rfl (R_extract rfl rfl rfl) ?_
    refine WL_val rfl rfl rfl (R_extract rfl rfl rfl) ?_
    refine WL_val rfl rfl rfl (R_assign rfl rfl) ?_
    refine WL_val rfl rfl rfl (R_assign rfl rfl) ?_
    refine WL_nil ?_
    refine WQ_code ?_
    refine WC_seq ?_
    refine WC_seq ?_
    refine WC_region ?_
    refine WL_val rfl rfl rfl (R_move rfl rfl) ?_
    refine WL_val rfl rfl rfl (R_neq rfl rfl rfl) ?_
    refine WL_set (s := 125) (v := .bool false) rfl (by simp) ?_
    refine WL_val rfl rfl rfl (R_move rfl rfl) ?_
    refine WL_val rfl rfl rfl (R_move rfl rfl) ?_
    refine WL_val rfl rfl rfl (R_move rfl rfl) ?_
    refine WL_do rfl rfl rfl (D_call (same_ok y.B (by omega) o3 c3 t3 y.ob y.cb y.tb own3 hob) rfl rfl rfl rfl (by repeat (first | exact Pulls.nil | exact Pulls.all | (apply Pulls.cons; (repeat (first | exact Pull.head | apply Pull.tail | apply Pull.assoc | apply Pull.app))) | apply Pulls.assocX | (apply Pulls.chunk; (repeat (first | exact PullA.here | exact PullA.all | apply PullA.tail | apply PullA.assoc | apply PullA.app))) | exact Pulls.appE _ _ | apply Pulls.skip | apply Pulls.assoc | apply Pulls.skipA))) ?_
    rintro _ _ ⟨_, ⟨rfl, rfl⟩, rfl⟩
    refine WL_val rfl rfl rfl (R_not rfl rfl) ?_
    refine WL_val rfl rfl rfl (R_pickF rfl rfl rfl) ?_
    refine WL_val rfl rfl rfl (R_move rfl rfl) ?_
    refine WL_val rfl rfl rfl (R_move rfl rfl) ?_
    refine WL_val rfl rfl rfl (R_loadA (vs := [_, _]) rfl ag25 rfl (by repeat (first | exact List.Mem.head _ | refine List.Mem.tail _ ?_ | refine mem_assoc ?_ | refine List.mem_append_right _ ?_)) rfl (by repeat (first | exact At.nil | refine At.cons ?_ | refine At.succ ?_))) ?_
    refine WL_val rfl rfl rfl (R_move rfl rfl) ?_
    refine WL_do rfl rfl rfl (D_call (lwaits_ok (y.N + 64) (y.s.wakeAll two) m3 h3 one hv1 y.A hA3 y.oa y.ca y.ta hoa) rfl rfl rfl rfl (by repeat (first | exact Pulls.nil | exact Pulls.all | (apply Pulls.cons; (repeat (first | exact Pull.head | apply Pull.tail | apply Pull.assoc | apply Pull.app))) | apply Pulls.assocX | (apply Pulls.chunk; (repeat (first | exact PullA.here | exact PullA.all | apply PullA.tail | apply PullA.assoc | apply PullA.app))) | exact Pulls.appE _ _ | apply Pulls.skip | apply Pulls.assoc | apply Pulls.skipA))) ?_
    rintro _ _ ⟨_, ⟨rfl, rfl⟩, rfl⟩
    refine WL_val rfl rfl rfl (R_not rfl rfl) ?_
    refine WL_val rfl rfl rfl (R_pickF rfl rfl rfl) ?_
    refine WL_val rfl rfl rfl (R_move rfl rfl) ?_
    refine WL_val rfl rfl rfl (R_move rfl rfl) ?_
    refine WL_do rfl rfl rfl (D_call (pk_ready (y.N + 64) (y.s.wakeAll two) m3 h3) rfl rfl rfl rfl (by repeat (first | exact Pulls.nil | exact Pulls.all | (apply Pulls.cons; (repeat (first | exact Pull.head | apply Pull.tail | apply Pull.assoc | apply Pull.app))) | apply Pulls.assocX | (apply Pulls.chunk; (repeat (first | exact PullA.here | exact PullA.all | apply PullA.tail | apply PullA.assoc | apply PullA.app))) | exact Pulls.appE _ _ | apply Pulls.skip | apply Pulls.assoc | apply Pulls.skipA))) ?_
    rintro _ _ ⟨_, ⟨o4, c4, t4, rfl, own4, rfl⟩, rfl⟩
    rw [hq3] at own4 ⊢
    refine WL_val rfl rfl rfl (R_move rfl rfl) ?_
    refine WL_do rfl rfl rfl (D_call (same_ok y.B (by omega) o4 c4 t4 y.ob y.cb y.tb own4 hob) rfl rfl rfl rfl (by repeat (first | exact Pulls.nil | exact Pulls.all | (apply Pulls.cons; (repeat (first | exact Pull.head | apply Pull.tail | apply Pull.assoc | apply Pull.app))) | apply Pulls.assocX | (apply Pulls.chunk; (repeat (first | exact PullA.here | exact PullA.all | apply PullA.tail | apply PullA.assoc | apply PullA.app))) | exact Pulls.appE _ _ | apply Pulls.skip | apply Pulls.assoc | apply Pulls.skipA))) ?_
    rintro _ _ ⟨_, ⟨rfl, rfl⟩, rfl⟩
    refine WL_val rfl rfl rfl (R_not rfl rfl) ?_
    refine WL_val rfl rfl rfl (R_pickF rfl rfl rfl) ?_
    refine WL_nil ?_
    refine WQ_code ?_
    refine WC_F rfl ?_
    refine WC_skip ?_
    refine WQ_code ?_
    refine WC_seq ?_
    refine WC_seq ?_
    refine WC_region ?_
    refine WL_val rfl rfl rfl (R_move rfl rfl) ?_
    refine WL_val rfl rfl rfl (R_len rfl Try.underlying32 rfl) ?_
    refine WL_val rfl rfl rfl (R_move rfl rfl) ?_
    refine WL_nil ?_
    refine WQ_code ?_
    refine WC_block ?_
    refine WC_loopF (G := Q2) [8, 19, 20, 21, 148, 149, 150, 151, 152, 153, 154, 155, 156, 157, 158, 159, 160, 161, 162, 163, 164, 165] (fun x => x.k ≤ y.A.length ∧ PkIs (y.N + 64 + x.k) ((y.A.take x.k).foldl PS.out (y.s.wakeAll two)) x.m ∧ x.m.p = m3.p) (fun x => [(148, .int .i64 (x.k : Int))]) (fun x => pkH x.m) (fun x => y.A.length - x.k) (⟨0, m3⟩) (⟨Nat.zero_le _, h3, rfl⟩) (Le.lq (by repeat (first | exact Le.nil | refine Le.cons rfl (by first | rfl | (congr 1; omega)) ?_))) (by repeat (first | exact Pulls.nil | exact Pulls.all | (apply Pulls.cons; (repeat (first | exact Pull.head | apply Pull.tail | apply Pull.assoc | apply Pull.app))) | apply Pulls.assocX | (apply Pulls.chunk; (repeat (first | exact PullA.here | exact PullA.all | apply PullA.tail | apply PullA.assoc | apply PullA.app))) | exact Pulls.appE _ _ | apply Pulls.skip | apply Pulls.assoc | apply Pulls.skipA)) ?_
    rintro x ⟨hxk0, hx, hxp⟩
    rw [← hxp]
    refine WC_seq ?_
    refine WC_region ?_
    refine WL_val rfl rfl rfl (R_lss rfl rfl rfl) ?_
    refine WL_nil ?_
    refine WQ_code ?_
    refine WC_seq ?_
    refine WC_dec rfl (fun c3 => ?_) (fun c3 => ?_)
    · refine WC_skip ?_
      refine WQ_code ?_
      refine WC_seq ?_
      refine WC_block ?_
      refine WC_seq ?_
      refine WC_region ?_
      obtain ⟨v, hv⟩ := exE (T := y.A) (i := x.k) (by omega)
      obtain ⟨wb, hwb⟩ := hoa.some_of (by omega)
      have hwo := wakes_ok h3.ps one x.k (by rw [← waiting_v hv1, hA3]; omega)
      rw [← waiting_v hv1, hA3] at hwo
      have e9 := wakeR_some ((y.A.take x.k).foldl PS.out (y.s.wakeAll two)) hv1 (v := v) (by rw [hwo.2.1, List.getElem?_drop]; exact hv)
      have ew : PS.wake ((y.A.take x.k).foldl PS.out (y.s.wakeAll two)) one = ((y.A.take (x.k + 1)).foldl PS.out (y.s.wakeAll two)) := by unfold PS.wake; rw [e9, if_pos rfl, take_get hv, List.foldl_append]; rfl
      refine WL_val rfl rfl rfl (R_idxO hwb rfl Try.underlying32 Try.sizeOf3 rfl rfl (by omega)) ?_
      refine WL_val rfl rfl rfl (R_loadO (v := .int .i64 v) hwb rfl sc3 rfl (by repeat (first | exact List.Mem.head _ | refine List.Mem.tail _ ?_ | refine mem_assoc ?_ | refine List.mem_append_right _ ?_)) (fm_get0 encI1 hv (j := 0) (by omega))) ?_
      refine WL_val rfl rfl rfl (R_assign rfl rfl) ?_
      refine WL_nil ?_
      refine WQ_code ?_
      refine WC_seq ?_
      refine WC_region ?_
      refine WL_val rfl rfl rfl (R_move rfl rfl) ?_
      refine WL_val rfl rfl rfl (R_loadA (vs := [_, _]) rfl ag25 rfl (by repeat (first | exact List.Mem.head _ | refine List.Mem.tail _ ?_ | refine mem_assoc ?_ | refine List.mem_append_right _ ?_)) rfl (by repeat (first | exact At.nil | refine At.cons ?_ | refine At.succ ?_))) ?_
      refine WL_do rfl rfl rfl (D_call (pk_wake (y.N + 64 + x.k) ((y.A.take x.k).foldl PS.out (y.s.wakeAll two)) x.m hx (by omega) one) rfl rfl rfl rfl (by repeat (first | exact Pulls.nil | exact Pulls.all | (apply Pulls.cons; (repeat (first | exact Pull.head | apply Pull.tail | apply Pull.assoc | apply Pull.app))) | apply Pulls.assocX | (apply Pulls.chunk; (repeat (first | exact PullA.here | exact PullA.all | apply PullA.tail | apply PullA.assoc | apply PullA.app))) | exact Pulls.appE _ _ | apply Pulls.skip | apply Pulls.assoc | apply Pulls.skipA))) ?_
      rintro _ _ ⟨_, ⟨m5, rfl, rfl, hp5, h5⟩, rfl⟩
      rw [ew] at h5
      rw [e9, ← hp5]
      refine WL_val rfl rfl rfl (R_move rfl rfl) ?_
      refine WL_val rfl rfl rfl (R_extract rfl rfl rfl) ?_
      refine WL_val rfl rfl rfl (R_extract rfl rfl rfl) ?_
      refine WL_val rfl rfl rfl (R_assign rfl rfl) ?_
      refine WL_val rfl rfl rfl (R_assign rfl rfl) ?_
      refine WL_nil ?_
      refine WQ_code ?_
      refine WC_seq ?_
      refine WC_region ?_
      refine WL_val rfl rfl rfl (R_move rfl rfl) ?_
      refine WL_val rfl rfl rfl (R_move rfl rfl) ?_
      refine WL_val rfl rfl rfl (R_neq rfl rfl rfl) ?_
      refine WL_set (s := 160) (v := .bool false) rfl (by simp) ?_
      refine WL_val rfl rfl rfl (R_move rfl rfl) ?_
      refine WL_val rfl rfl rfl (R_move rfl rfl) ?_
      refine WL_val rfl rfl rfl (R_neq rfl rfl rfl) ?_
      refine WL_set (s := 163) (v := .bool false) rfl (by simp) ?_
      refine WL_val rfl rfl rfl (R_pickF rfl rfl rfl) ?_
      refine WL_nil ?_
      refine WQ_code ?_
      refine WC_F rfl ?_
      refine WC_skip ?_
      refine WQ_code ?_
      refine WC_region ?_
      refine WL_val rfl rfl rfl (R_add rfl rfl rfl (by omega)) ?_
      refine WL_val rfl rfl rfl (R_move rfl rfl) ?_
      refine WL_nil ?_
      refine WQ_nextF (⟨x.k + 1, m5⟩) (⟨by dsimp only; omega, h5, rfl⟩) (by dsimp only; omega) (Le.lq (by repeat (first | exact Le.nil | refine Le.cons rfl (by first | rfl | (congr 1; omega)) ?_))) (by repeat (first | exact Pushed.refl | refine Pushed.push rfl ?_)) rfl (by repeat (first | exact Pulls.nil | exact Pulls.all | (apply Pulls.cons; (repeat (first | exact Pull.head | apply Pull.tail | apply Pull.assoc | apply Pull.app))) | apply Pulls.assocX | (apply Pulls.chunk; (repeat (first | exact PullA.here | exact PullA.all | apply PullA.tail | apply PullA.assoc | apply PullA.app))) | exact Pulls.appE _ _ | apply Pulls.skip | apply Pulls.assoc | apply Pulls.skipA))
    · have hxk : x.k = y.A.length := by omega
      have hwo := wakes_ok h3.ps one x.k (by rw [← waiting_v hv1, hA3]; omega)
      rw [← waiting_v hv1, hA3] at hwo
      have e10 := wakeR_none ((y.A.take x.k).foldl PS.out (y.s.wakeAll two)) hv1 (by rw [hwo.2.1, hxk, List.drop_length])
      have ewn : PS.wake ((y.A.take x.k).foldl PS.out (y.s.wakeAll two)) one = ((y.A.take x.k).foldl PS.out (y.s.wakeAll two)) := by unfold PS.wake; rw [e10, if_neg (by decide)]
      refine WC_exit ?_
      refine WQ_code ?_
      refine WC_seq ?_
      refine WC_region ?_
      refine WL_val rfl rfl rfl (R_move rfl rfl) ?_
      refine WL_val rfl rfl rfl (R_loadA (vs := [_, _]) rfl ag25 rfl (by repeat (first | exact List.Mem.head _ | refine List.Mem.tail _ ?_ | refine mem_assoc ?_ | refine List.mem_append_right _ ?_)) rfl (by repeat (first | exact At.nil | refine At.cons ?_ | refine At.succ ?_))) ?_
      refine WL_do rfl rfl rfl (D_call (pk_wake (y.N + 64 + x.k) ((y.A.take x.k).foldl PS.out (y.s.wakeAll two)) x.m hx (by omega) one) rfl rfl rfl rfl (by repeat (first | exact Pulls.nil | exact Pulls.all | (apply Pulls.cons; (repeat (first | exact Pull.head | apply Pull.tail | apply Pull.assoc | apply Pull.app))) | apply Pulls.assocX | (apply Pulls.chunk; (repeat (first | exact PullA.here | exact PullA.all | apply PullA.tail | apply PullA.assoc | apply PullA.app))) | exact Pulls.appE _ _ | apply Pulls.skip | apply Pulls.assoc | apply Pulls.skipA))) ?_
      rintro _ _ ⟨_, ⟨m6, rfl, rfl, hp6, h6⟩, rfl⟩
      rw [ewn] at h6
      rw [e10, ← hp6]
      refine WL_val rfl rfl rfl (R_move rfl rfl) ?_
      refine WL_val rfl rfl rfl (R_extract rfl rfl rfl) ?_
      refine WL_val rfl rfl rfl (R_extract rfl rfl rfl) ?_
      refine WL_val rfl rfl rfl (R_assign rfl rfl) ?_
      refine WL_nil ?_
      refine WQ_code ?_
      refine WC_seq ?_
      refine WC_region ?_
      refine WL_val rfl rfl rfl (R_move rfl rfl) ?_
      refine WL_val rfl rfl rfl (R_eql rfl rfl rfl) ?_
      refine WL_set (s := 173) (v := .bool true) rfl (by simp) ?_
      refine WL_val rfl rfl rfl (R_move rfl rfl) ?_
      refine WL_val rfl rfl rfl (R_move rfl rfl) ?_
      refine WL_do rfl rfl rfl (D_call (pk_ready _ _ m6 h6) rfl rfl rfl rfl (by repeat (first | exact Pulls.nil | exact Pulls.all | (apply Pulls.cons; (repeat (first | exact Pull.head | apply Pull.tail | apply Pull.assoc | apply Pull.app))) | apply Pulls.assocX | (apply Pulls.chunk; (repeat (first | exact PullA.here | exact PullA.all | apply PullA.tail | apply PullA.assoc | apply PullA.app))) | exact Pulls.appE _ _ | apply Pulls.skip | apply Pulls.assoc | apply Pulls.skipA))) ?_
      rintro _ _ ⟨_, ⟨o7, c7, t7, rfl, own7, rfl⟩, rfl⟩
      have hq6 : ((y.A.take x.k).foldl PS.out (y.s.wakeAll two)).qm = y.B ++ y.A := by rw [hxk, ← hA3, (wakes_qm h3.ps h3.rdy one _ (Nat.le_refl _)).1, hq3, List.take_length]
      rw [hq6] at own7 ⊢
      refine WL_val rfl rfl rfl (R_move rfl rfl) ?_
      refine WL_val rfl rfl rfl (R_move rfl rfl) ?_
      refine WL_do rfl rfl rfl (D_appendO rfl si32 rfl hob (by repeat (first | exact Pull.head | apply Pull.tail | apply Pull.assoc | apply Pull.app)) rfl hoa (by repeat (first | exact List.Mem.head _ | refine List.Mem.tail _ ?_ | refine mem_assoc ?_ | refine List.mem_append_right _ ?_)) (ivs_one _) (by omega) (by omega)) ?_
      rintro _ _ ⟨ob9, cap9, tl9, rfl, own9, rfl⟩
      rw [show ivs y.B ++ ivs y.A = ivs (y.B ++ y.A) from by simp, show y.B.length + y.A.length = (y.B ++ y.A).length from by simp] at *
      refine WL_do rfl rfl rfl (D_call (same_ok (y.B ++ y.A) (by rw [List.length_append]; omega) o7 c7 t7 ob9 cap9 tl9 own7 own9) rfl rfl rfl rfl (by repeat (first | exact Pulls.nil | exact Pulls.all | (apply Pulls.cons; (repeat (first | exact Pull.head | apply Pull.tail | apply Pull.assoc | apply Pull.app))) | apply Pulls.assocX | (apply Pulls.chunk; (repeat (first | exact PullA.here | exact PullA.all | apply PullA.tail | apply PullA.assoc | apply PullA.app))) | exact Pulls.appE _ _ | apply Pulls.skip | apply Pulls.assoc | apply Pulls.skipA))) ?_
      rintro _ _ ⟨_, ⟨rfl, rfl⟩, rfl⟩
      refine WL_val rfl rfl rfl (R_pickT rfl rfl rfl) ?_
      refine WL_val rfl rfl rfl (R_move rfl rfl) ?_
      refine WL_do rfl rfl rfl (D_call (known_ok) rfl rfl rfl rfl (by repeat (first | exact Pulls.nil | exact Pulls.all | (apply Pulls.cons; (repeat (first | exact Pull.head | apply Pull.tail | apply Pull.assoc | apply Pull.app))) | apply Pulls.assocX | (apply Pulls.chunk; (repeat (first | exact PullA.here | exact PullA.all | apply PullA.tail | apply PullA.assoc | apply PullA.app))) | exact Pulls.appE _ _ | apply Pulls.skip | apply Pulls.assoc | apply Pulls.skipA))) ?_
      rintro _ _ ⟨_, ⟨rfl, rfl⟩, rfl⟩
      refine WL_val rfl rfl rfl (R_pickT rfl rfl rfl) ?_
      refine WL_val rfl rfl rfl (R_assign rfl rfl) ?_
      refine WL_nil ?_
      refine WQ_code ?_
      refine WC_ret ?_
      refine WQ_ret rfl rfl (.cons (.tmp rfl) .nil) rfl (by
          exact ⟨rfl, rfl⟩) (by repeat (first | exact Pulls.nil | exact Pulls.all | (apply Pulls.cons; (repeat (first | exact Pull.head | apply Pull.tail | apply Pull.assoc | apply Pull.app))) | apply Pulls.assocX | (apply Pulls.chunk; (repeat (first | exact PullA.here | exact PullA.all | apply PullA.tail | apply PullA.assoc | apply PullA.app))) | exact Pulls.appE _ _ | apply Pulls.skip | apply Pulls.assoc | apply Pulls.skipA))

end Go.Proofs.Ytljmeemgjbcgeaa
