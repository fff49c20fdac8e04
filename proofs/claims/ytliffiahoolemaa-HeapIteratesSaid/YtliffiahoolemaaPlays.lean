/-
  Chapter 02 (heap), part Plays: contracts of functions that the laws call, each for the heap it names.
-/
import Derived.Test.YtliffiahoolemaaRows
import Derived.Test.YtliffiahoolemaaSLPhase
import Derived.Test.YtliffiahoolemaaSLInt
import Derived.Test.YtliffiahoolemaaTab
import Derived.Test.YtliffiahoolemaaDo
import Derived.Test.YtliffiahoolemaaLooks
import Derived.Test.YtliffiahoolemaaKnown
set_option linter.unusedVariables false
set_option maxRecDepth 20000
set_option maxHeartbeats 8000000
namespace Go.Proofs.Ytliffiahoolemaa


structure PW where
  k : Nat
  y : DY

theorem plays_long (oa : Option Addr) (n c : Nat) (hb : (n : Int) ≤ 9223372036854775807) (h : 60 < n) : Spec Try.prog 6 [.slice oa n c] [] (fun r H' => r = .bool true ∧ H' = []) := by
  refine Spec.of (E := [(0, .slice oa n c)]) Try.func6 rfl (by kernel_rfl) Try.ntmps6 rfl rfl (fun w => ?_)
  refine WC_seq ?_
  refine WC_region ?_
  refine WL_val rfl rfl rfl (R_assign rfl rfl) ?_
  refine WL_nil ?_
  refine WQ_code ?_
  refine WC_seq ?_
  refine WC_seq ?_
  refine WC_region ?_
  refine WL_val rfl rfl rfl (R_move rfl rfl) ?_
  refine WL_val rfl rfl rfl (R_len rfl Try.underlying33 rfl) ?_
  refine WL_val rfl rfl rfl (R_gtr rfl rfl rfl) ?_
  refine WL_nil ?_
  refine WQ_code ?_
  refine WC_dT rfl (by omega) ?_
  refine WC_seq ?_
  refine WC_region ?_
  refine WL_do rfl rfl rfl (D_call (known_ok) rfl rfl rfl rfl (by repeat (first | exact Pulls.nil | exact Pulls.all | (apply Pulls.cons; (repeat (first | exact Pull.head | apply Pull.tail))) | apply Pulls.skip))) ?_
  rintro _ _ ⟨_, ⟨rfl, rfl⟩, rfl⟩
  refine WL_val rfl rfl rfl (R_assign rfl rfl) ?_
  refine WL_nil ?_
  refine WQ_code ?_
  refine WC_ret ?_
  refine WQ_ret rfl rfl (.cons (.tmp rfl) .nil) rfl (by
      exact ⟨rfl, rfl⟩) (by repeat (first | exact Pulls.nil | exact Pulls.all | (apply Pulls.cons; (repeat (first | exact Pull.head | apply Pull.tail))) | apply Pulls.skip))
theorem plays_ok (oa : Option Addr) (ent : Ent) (l : List Ac) (c : Nat) (ha : Arg oa ent 4 encA l) (hOk : ∀ a ∈ l, OkA a) (h : l.length ≤ 60) : Spec Try.prog 6 [.slice oa l.length c] [ent] (fun r H' => r = .bool true ∧ H' = [ent]) := by
  refine Spec.of (E := [(0, .slice oa l.length c)]) Try.func6 rfl (by kernel_rfl) Try.ntmps6 rfl rfl (fun w => ?_)
  refine WC_seq ?_
  refine WC_region ?_
  refine WL_val rfl rfl rfl (R_assign rfl rfl) ?_
  refine WL_nil ?_
  refine WQ_code ?_
  refine WC_seq ?_
  refine WC_seq ?_
  refine WC_region ?_
  refine WL_val rfl rfl rfl (R_move rfl rfl) ?_
  refine WL_val rfl rfl rfl (R_len rfl Try.underlying33 rfl) ?_
  refine WL_val rfl rfl rfl (R_gtr rfl rfl rfl) ?_
  refine WL_nil ?_
  refine WQ_code ?_
  refine WC_dF rfl (by omega) ?_
  refine WC_skip ?_
  refine WQ_code ?_
  refine WC_seq ?_
  refine WC_region ?_
  refine WL_do rfl rfl rfl (D_call (hnew_ok) rfl rfl rfl rfl (by repeat (first | exact Pulls.nil | exact Pulls.all | (apply Pulls.cons; (repeat (first | exact Pull.head | apply Pull.tail))) | apply Pulls.skip))) ?_
  rintro _ _ ⟨_, ⟨m0, rfl, rfl, g0, n0⟩, rfl⟩
  refine WL_val rfl rfl rfl (R_build rfl zv46 pl46 rfl rfl) ?_
  refine WL_do rfl rfl rfl (D_alloc rfl zv46) ?_
  rintro _ _ ⟨b1, rfl, rfl⟩
  refine WL_val rfl rfl rfl (R_assign rfl rfl) ?_
  refine WL_do0 rfl rfl (D_store (vs := [_]) rfl Try.sizeOf46 rfl rfl rfl rfl rfl (by repeat (first | exact Pull.head | apply Pull.tail)) (by exact Nat.le_of_ble_eq_true rfl)) ?_
  rintro _ _ rfl
  refine WL_nil ?_
  refine WQ_code ?_
  refine WC_seq ?_
  refine WC_seq ?_
  refine WC_region ?_
  refine WL_val rfl rfl rfl (R_move rfl rfl) ?_
  refine WL_val rfl rfl rfl (R_ptrEqNil rfl Try.underlying23 rfl) ?_
  refine WL_nil ?_
  refine WQ_code ?_
  refine WC_F rfl ?_
  refine WC_skip ?_
  refine WQ_code ?_
  refine WC_seq ?_
  refine WC_seq ?_
  refine WC_region ?_
  refine WL_val rfl rfl rfl (R_move rfl rfl) ?_
  refine WL_val rfl rfl rfl (R_len rfl Try.underlying33 rfl) ?_
  refine WL_val rfl rfl rfl (R_move rfl rfl) ?_
  refine WL_nil ?_
  refine WQ_code ?_
  refine WC_block ?_
  refine WC_none 80 ?_
  refine WC_loopF (G := PW) [2, 3, 6, 7, 18, 19, 20, 21, 22, 23, 24, 25, 26, 27, 28, 29, 30, 31, 32, 33, 34, 35, 36, 37, 38] (fun y => y.k ≤ l.length ∧ DyOk y.y ∧ y.y.g.n ≤ y.k) (fun y => [(18, .int .i64 (y.k : Int)), (3, ptrH y.y.g.p)]) (fun y => ⟨some b1, cl [slV y.y.o y.y.W.length y.y.c] 46⟩ :: (gH y.y.g ++ [⟨y.y.o, cl (y.y.W.flatMap encW ++ y.y.t) 80⟩])) (fun y => l.length - y.k) (⟨0, ⟨[], m0, none, 0, []⟩⟩) (⟨Nat.zero_le _, ⟨g0, Own.empty 3⟩, by dsimp only; omega⟩) (Le.lq (by repeat (first | exact Le.nil | refine Le.cons rfl (by first | rfl | (congr 1; omega)) ?_))) (by repeat (first | exact Pulls.nil | exact Pulls.all | (apply Pulls.cons; (repeat (first | exact Pull.head | apply Pull.tail))) | apply Pulls.skip)) ?_
  rintro y ⟨hyk, hy, hyn⟩
  refine WC_seq ?_
  refine WC_region ?_
  refine WL_val rfl rfl rfl (R_lss rfl rfl rfl) ?_
  refine WL_nil ?_
  refine WQ_code ?_
  refine WC_seq ?_
  refine WC_dec rfl (fun c1 => ?_) (fun c1 => ?_)
  · refine WC_skip ?_
    refine WQ_code ?_
    refine WC_seq ?_
    refine WC_block ?_
    refine WC_seq ?_
    refine WC_region ?_
    obtain ⟨a, hak⟩ := exE (T := l) (i := y.k) (by omega)
    obtain ⟨lb, lk, lcs, le, lfr, rfl, rfl, hat⟩ := ha.some (by omega)
    have hok := hOk a (List.mem_of_getElem? hak)
    refine WL_val rfl rfl rfl (R_indexAddrN rfl Try.underlying33 Try.sizeOf36 rfl rfl (by omega)) ?_
    refine WL_val rfl rfl rfl (R_loadAG (vs := encA a) rfl ag36 rfl (by repeat (first | exact List.Mem.head _ | refine List.Mem.tail _ ?_)) rfl (hat y.k a hak)) ?_
    refine WL_do rfl rfl rfl (D_alloc rfl zv36) ?_
    rintro _ _ ⟨b2, rfl, rfl⟩
    refine WL_do0 rfl rfl (D_store (vs := [_, _, _, _]) rfl Try.sizeOf36 rfl rfl rfl rfl rfl (by repeat (first | exact Pull.head | apply Pull.tail)) (by exact Nat.le_of_ble_eq_true rfl)) ?_
    rintro _ _ rfl
    refine WL_nil ?_
    refine WQ_code ?_
    refine WC_seq ?_
    refine WC_region ?_
    refine WL_val rfl rfl rfl (R_assign rfl rfl) ?_
    refine WL_nil ?_
    refine WQ_code ?_
    refine WC_seq ?_
    refine WC_region ?_
    refine WL_val rfl rfl rfl (R_move rfl rfl) ?_
    refine WL_val rfl rfl rfl (R_loadA (vs := [_]) rfl ag46 rfl (by repeat (first | exact List.Mem.head _ | refine List.Mem.tail _ ?_)) rfl (by repeat (first | exact At.nil | refine At.cons ?_ | refine At.succ ?_))) ?_
    refine WL_val rfl rfl rfl (R_loadA (vs := [_, _, _, _]) rfl ag36 rfl (by repeat (first | exact List.Mem.head _ | refine List.Mem.tail _ ?_)) rfl (by repeat (first | exact At.nil | refine At.cons ?_ | refine At.succ ?_))) ?_
    refine WL_do rfl rfl rfl (D_call (do_law y.y.W y.y.o y.y.c y.y.t hy.ow (by have := hy.hg.len; omega) y.y.g hy.hg (by omega) a hok) rfl rfl rfl rfl (by repeat (first | exact Pulls.nil | exact Pulls.all | (apply Pulls.cons; (repeat (first | exact Pull.head | apply Pull.tail))) | apply Pulls.skip))) ?_
    rintro _ _ ⟨_, ⟨y2, rfl, hy2, hyn2, rfl⟩, rfl⟩
    refine WL_val rfl rfl rfl (R_move rfl rfl) ?_
    refine WL_val rfl rfl rfl (R_extract rfl rfl rfl) ?_
    refine WL_val rfl rfl rfl (R_extract rfl rfl rfl) ?_
    refine WL_val rfl rfl rfl (R_extract rfl rfl rfl) ?_
    refine WL_val rfl rfl rfl (R_assign rfl rfl) ?_
    refine WL_do0 rfl rfl (D_store (vs := [_]) rfl Try.sizeOf46 rfl rfl rfl rfl rfl (by repeat (first | exact Pull.head | apply Pull.tail)) (by exact Nat.le_of_ble_eq_true rfl)) ?_
    rintro _ _ rfl
    refine WL_val rfl rfl rfl (R_assign rfl rfl) ?_
    refine WL_nil ?_
    refine WQ_code ?_
    refine WC_seq ?_
    refine WC_region ?_
    refine WL_val rfl rfl rfl (R_move rfl rfl) ?_
    refine WL_val rfl rfl rfl (R_not rfl rfl) ?_
    refine WL_val rfl rfl rfl (R_move rfl rfl) ?_
    refine WL_val rfl rfl rfl (R_move rfl rfl) ?_
    refine WL_val rfl rfl rfl (R_loadA (vs := [_]) rfl ag46 rfl (by repeat (first | exact List.Mem.head _ | refine List.Mem.tail _ ?_)) rfl (by repeat (first | exact At.nil | refine At.cons ?_ | refine At.succ ?_))) ?_
    refine WL_do rfl rfl rfl (D_call (looks_ok y2.W y2.o y2.c y2.t hy2.ow (by have := hy2.hg.len; omega) y2.g hy2.hg) rfl rfl rfl rfl (by repeat (first | exact Pulls.nil | exact Pulls.all | (apply Pulls.cons; (repeat (first | exact Pull.head | apply Pull.tail))) | apply Pulls.skip))) ?_
    rintro _ _ ⟨_, ⟨rfl, rfl⟩, rfl⟩
    refine WL_val rfl rfl rfl (R_not rfl rfl) ?_
    refine WL_val rfl rfl rfl (R_pickF rfl rfl rfl) ?_
    refine WL_nil ?_
    refine WQ_code ?_
    refine WC_F rfl ?_
    refine WC_skip ?_
    refine WQ_code ?_
    refine WC_region ?_
    refine WL_val rfl rfl rfl (R_add rfl rfl rfl (by omega)) ?_
    refine WL_val rfl rfl rfl (R_move rfl rfl) ?_
    refine WL_nil ?_
    refine WQ_nextF (⟨y.k + 1, y2⟩) (⟨by dsimp only; omega, hy2, by dsimp only; omega⟩) (by dsimp only; omega) (Le.lq (by repeat (first | exact Le.nil | refine Le.cons rfl (by first | rfl | (congr 1; omega)) ?_))) (by repeat (first | exact Pushed.refl | refine Pushed.push rfl ?_)) rfl (by repeat (first | exact Pulls.nil | exact Pulls.all | (apply Pulls.cons; (repeat (first | exact Pull.head | apply Pull.tail))) | apply Pulls.skip))
  · refine WC_exit ?_
    refine WQ_code ?_
    refine WC_seq ?_
    refine WC_region ?_
    refine WL_do rfl rfl rfl (D_call (known_ok) rfl rfl rfl rfl (by repeat (first | exact Pulls.nil | exact Pulls.all | (apply Pulls.cons; (repeat (first | exact Pull.head | apply Pull.tail))) | apply Pulls.skip))) ?_
    rintro _ _ ⟨_, ⟨rfl, rfl⟩, rfl⟩
    refine WL_val rfl rfl rfl (R_assign rfl rfl) ?_
    refine WL_nil ?_
    refine WQ_code ?_
    refine WC_ret ?_
    refine WQ_ret rfl rfl (.cons (.tmp rfl) .nil) rfl (by
        exact ⟨rfl, rfl⟩) (by repeat (first | exact Pulls.nil | exact Pulls.all | (apply Pulls.cons; (repeat (first | exact Pull.head | apply Pull.tail))) | apply Pulls.skip))

end Go.Proofs.Ytliffiahoolemaa
