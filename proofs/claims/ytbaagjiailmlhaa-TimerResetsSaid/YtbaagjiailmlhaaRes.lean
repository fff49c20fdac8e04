/-
  Chapter 03 (timer), part Res: contracts of functions that the laws call, each for the heap it names.
-/
import Derived.Test.YtbaagjiailmlhaaRows
import Derived.Test.YtbaagjiailmlhaaSLPhase
import Derived.Test.YtbaagjiailmlhaaSLInt
import Derived.Test.YtbaagjiailmlhaaTab
import Derived.Test.YtbaagjiailmlhaaResL
import Derived.Test.YtbaagjiailmlhaaKnown
import Derived.Test.YtbaagjiailmlhaaSLMore
set_option linter.unusedVariables false
set_option maxRecDepth 20000
set_option maxHeartbeats 8000000
namespace Go.Proofs.Ytbaagjiailmlhaa


theorem same_n (n : Nat) (l : List Tm) (hn : l.length = n) (hl : n ≤ 1000000) (o1 : Option Nat) (c1 : Nat) (t1 : List Value) (o2 : Option Nat) (c2 : Nat) (t2 : List Value) (h1 : Own o1 n c1 4 (l.flatMap encDu) t1) (h2 : Own o2 n c2 4 (l.flatMap encDu) t2) :
    Spec Try.prog 17 [slV o1 n c1, slV o2 n c2] [⟨o1, cl (l.flatMap encDu ++ t1) 40⟩, ⟨o2, cl (l.flatMap encDu ++ t2) 40⟩] (fun r H' => r = .bool true ∧ H' = [⟨o1, cl (l.flatMap encDu ++ t1) 40⟩, ⟨o2, cl (l.flatMap encDu ++ t2) 40⟩]) := by
  subst hn
  exact same_ok l hl o1 c1 t1 o2 c2 t2 h1 h2
theorem eL_all_gt {L : List Tm} {now : Nat} (h : ∀ t ∈ L, t.gone = false → now < t.tm) : eL now L = (L, []) := by
  cases hf : fstP L with
  | none => exact eL_none hf
  | some x =>
    obtain ⟨i, t⟩ := x
    have hs := fstP_some hf
    have := h t (List.mem_of_getElem? hs.at_) hs.g
    exact eL_gt hf (by omega)

theorem resets_bad (oa : Option Addr) (n c : Nat) (hb : (n : Int) ≤ 9223372036854775807) (o : Int) (h : 60 < n ∨ o = 18446744073709551615) : Spec Try.prog 4 [.slice oa n c, .int .u64 o] [] (fun r H' => r = .bool true ∧ H' = []) := by
  refine Spec.of (E := [(0, .slice oa n c), (1, .int .u64 o)]) Try.func4 rfl (by kernel_rfl) Try.ntmps4 rfl rfl (fun w => ?_)
  refine WC_seq ?_
  refine WC_region ?_
  refine WL_val rfl rfl rfl (R_assign rfl rfl) ?_
  refine WL_nil ?_
  refine WQ_code ?_
  refine WC_seq ?_
  refine WC_seq ?_
  refine WC_region ?_
  refine WL_val rfl rfl rfl (R_move rfl rfl) ?_
  refine WL_val rfl rfl rfl (R_len rfl Try.underlying37 rfl) ?_
  refine WL_val rfl rfl rfl (R_gtr rfl rfl rfl) ?_
  refine WL_val rfl rfl rfl (R_move rfl rfl) ?_
  refine WL_splitD (s := 15) rfl (fun c1 => ?_) (fun c1 => ?_)
  · refine WL_skip rfl rfl rfl ?_
    refine WL_skip rfl rfl rfl ?_
    refine WL_val rfl rfl rfl (R_pickT rfl rfl rfl) ?_
    refine WL_nil ?_
    refine WQ_code ?_
    refine WC_T rfl ?_
    refine WC_seq ?_
    refine WC_region ?_
    refine WL_do rfl rfl rfl (D_call (known_ok) rfl rfl rfl rfl (by repeat (first | exact Pulls.nil | exact Pulls.all | (apply Pulls.cons; (repeat (first | exact Pull.head | apply Pull.tail))) | apply Pulls.skip))) ?_
    rintro _ _ ⟨_, ⟨rfl, rfl⟩, rfl⟩
    refine WL_val rfl rfl rfl (R_assign rfl rfl) ?_
    refine WL_nil ?_
    refine WQ_code ?_
    refine WC_ret ?_
    refine WQ_ret rfl rfl (.cons (.tmp rfl) .nil) rfl (by
        exact ⟨rfl, rfl⟩) (by repeat (first | exact Pulls.nil | exact Pulls.all | (apply Pulls.cons; (repeat (first | exact Pull.head | apply Pull.tail))) | apply Pulls.skip))
  · refine WL_val rfl rfl rfl (R_move rfl rfl) ?_
    refine WL_val rfl rfl rfl (R_eql rfl rfl rfl) ?_
    refine WL_val rfl rfl rfl (R_pickF rfl rfl rfl) ?_
    refine WL_nil ?_
    refine WQ_code ?_
    refine WC_dec rfl (fun c2 => ?_) (fun c2 => ?_)
    · refine WC_seq ?_
      refine WC_region ?_
      refine WL_do rfl rfl rfl (D_call (known_ok) rfl rfl rfl rfl (by repeat (first | exact Pulls.nil | exact Pulls.all | (apply Pulls.cons; (repeat (first | exact Pull.head | apply Pull.tail))) | apply Pulls.skip))) ?_
      rintro _ _ ⟨_, ⟨rfl, rfl⟩, rfl⟩
      refine WL_val rfl rfl rfl (R_assign rfl rfl) ?_
      refine WL_nil ?_
      refine WQ_code ?_
      refine WC_ret ?_
      refine WQ_ret rfl rfl (.cons (.tmp rfl) .nil) rfl (by
          exact ⟨rfl, rfl⟩) (by repeat (first | exact Pulls.nil | exact Pulls.all | (apply Pulls.cons; (repeat (first | exact Pull.head | apply Pull.tail))) | apply Pulls.skip))
    · exfalso; revert h; simp_all <;> omega
theorem resets_ok (at_ : Nat) (hat : at_ < 18446744073709551615) (oa : Option Addr) (ent : Ent) (l : List Nat) (c : Nat) (ha : Arg oa ent 1 encT l) (hOk : ∀ a ∈ l, a ≤ 18446744073709551615) (h : l.length ≤ 60) :
    Spec Try.prog 4 [.slice oa l.length c, .int .u64 (at_ : Int)] [ent] (fun r H' => r = .bool true ∧ H' = [ent]) := by
  refine Spec.of (E := [(0, .slice oa l.length c), (1, .int .u64 (at_ : Int))]) Try.func4 rfl (by kernel_rfl) Try.ntmps4 rfl rfl (fun w => ?_)
  refine WC_seq ?_
  refine WC_region ?_
  refine WL_val rfl rfl rfl (R_assign rfl rfl) ?_
  refine WL_nil ?_
  refine WQ_code ?_
  refine WC_seq ?_
  refine WC_seq ?_
  refine WC_region ?_
  refine WL_val rfl rfl rfl (R_move rfl rfl) ?_
  refine WL_val rfl rfl rfl (R_len rfl Try.underlying37 rfl) ?_
  refine WL_val rfl rfl rfl (R_gtr rfl rfl rfl) ?_
  refine WL_set (s := 14) (v := .bool false) rfl (by simp; omega) ?_
  refine WL_val rfl rfl rfl (R_move rfl rfl) ?_
  refine WL_val rfl rfl rfl (R_move rfl rfl) ?_
  refine WL_val rfl rfl rfl (R_eql rfl rfl rfl) ?_
  refine WL_set (s := 17) (v := .bool false) rfl (by simp; omega) ?_
  refine WL_val rfl rfl rfl (R_pickF rfl rfl rfl) ?_
  refine WL_nil ?_
  refine WQ_code ?_
  refine WC_F rfl ?_
  refine WC_skip ?_
  refine WQ_code ?_
  refine WC_seq ?_
  refine WC_region ?_
  refine WL_do rfl rfl rfl (D_call (mnew_ok) rfl rfl rfl rfl (by repeat (first | exact Pulls.nil | exact Pulls.all | (apply Pulls.cons; (repeat (first | exact Pull.head | apply Pull.tail))) | apply Pulls.skip))) ?_
  rintro _ _ ⟨_, ⟨m0, rfl, rfl, g0, n0⟩, rfl⟩
  refine WL_val rfl rfl rfl (R_assign rfl rfl) ?_
  refine WL_nil ?_
  refine WQ_code ?_
  refine WC_seq ?_
  refine WC_seq ?_
  refine WC_region ?_
  refine WL_val rfl rfl rfl (R_move rfl rfl) ?_
  refine WL_val rfl rfl rfl (R_ptrEqNil rfl Try.underlying23 rfl) ?_
  refine WL_nil ?_
  refine WQ_code ?_
  refine WC_F rfl ?_
  refine WC_skip ?_
  refine WQ_code ?_
  refine WC_seq ?_
  refine WC_region ?_
  refine WL_val rfl rfl rfl (R_assign rfl rfl) ?_
  refine WL_nil ?_
  refine WQ_code ?_
  refine WC_seq ?_
  refine WC_seq ?_
  refine WC_region ?_
  refine WL_val rfl rfl rfl (R_move rfl rfl) ?_
  refine WL_val rfl rfl rfl (R_len rfl Try.underlying37 rfl) ?_
  refine WL_val rfl rfl rfl (R_move rfl rfl) ?_
  refine WL_nil ?_
  refine WQ_code ?_
  refine WC_block ?_
  refine WC_none 40 ?_
  refine WC_loopF (G := RW3) [4, 6, 7, 8, 9, 10, 25, 26, 27, 28, 29, 30, 31, 32, 33, 34, 35, 36, 37, 38, 39, 40, 41, 42, 43, 44, 45, 46, 47, 48, 49, 50] (fun y => y.k ≤ l.length ∧ TIs y.L y.m ∧ y.m.pt = m0.pt ∧ y.m.g.n ≤ y.k ∧ (∀ t ∈ y.L, t.gone = false) ∧ Own y.ow y.L.length y.cw 4 ((y.L.map (setT at_)).flatMap encDu) y.tw) (fun y => [(25, .int .i64 (y.k : Int)), (6, slV y.ow y.L.length y.cw)]) (fun y => ⟨y.ow, cl ((y.L.map (setT at_)).flatMap encDu ++ y.tw) 40⟩ :: tmH y.m) (fun y => l.length - y.k) (⟨0, [], m0, none, 0, []⟩) (⟨Nat.zero_le _, g0, rfl, by dsimp only; omega, fun t ht => (by cases ht), Own.empty 4⟩) (Le.lq (by repeat (first | exact Le.nil | refine Le.cons rfl (by first | rfl | (congr 1; omega)) ?_))) (by repeat (first | exact Pulls.nil | exact Pulls.all | (apply Pulls.cons; (repeat (first | exact Pull.head | apply Pull.tail))) | apply Pulls.skip)) ?_
  rintro y ⟨hyk, hy, hyp, hyn, hyl, hyo⟩
  rw [← hyp]
  have htl0 := hy.r.ln
  refine WC_seq ?_
  refine WC_region ?_
  refine WL_val rfl rfl rfl (R_lss rfl rfl rfl) ?_
  refine WL_nil ?_
  refine WQ_code ?_
  refine WC_seq ?_
  refine WC_dec rfl (fun c1 => ?_) (fun c1 => ?_)
  · refine WC_skip ?_
    refine WQ_code ?_
    refine WC_seq ?_
    refine WC_block ?_
    refine WC_seq ?_
    refine WC_region ?_
    obtain ⟨a, hak⟩ := exE (T := l) (i := y.k) (by omega)
    obtain ⟨lb, lk, lcs, le, lfr, rfl, rfl, hat2⟩ := ha.some (by omega)
    have hok := hOk a (List.mem_of_getElem? hak)
    have hll : (live y.L).length ≤ y.L.length := List.length_filter_le _ _
    refine WL_val rfl rfl rfl (R_move rfl rfl) ?_
    refine WL_val rfl rfl rfl (R_indexAddrN rfl Try.underlying37 Try.sizeOf31 rfl rfl (by omega)) ?_
    refine WL_val rfl rfl rfl (R_loadG rfl sc31 rfl (by repeat (first | exact List.Mem.head _ | refine List.Mem.tail _ ?_)) (hat2 y.k a hak 0 _ rfl)) ?_
    refine WL_val rfl rfl rfl (R_assign rfl rfl) ?_
    refine WL_val rfl rfl rfl (R_assign rfl rfl) ?_
    refine WL_nil ?_
    refine WQ_code ?_
    refine WC_seq ?_
    refine WC_region ?_
    refine WL_val rfl rfl rfl (R_move rfl rfl) ?_
    refine WL_val rfl rfl rfl (R_move rfl rfl) ?_
    refine WL_val rfl rfl rfl (R_move rfl rfl) ?_
    refine WL_do rfl rfl rfl (D_call (mset_any y.L y.m hy (by omega) a hok (y.k : Int)) rfl rfl rfl rfl (by repeat (first | exact Pulls.nil | exact Pulls.all | (apply Pulls.cons; (repeat (first | exact Pull.head | apply Pull.tail))) | apply Pulls.skip))) ?_
    rintro _ _ ⟨_, ⟨m', L', n1, g1, e, rfl, rfl, hmp, hmn, hm', hcase⟩, rfl⟩
    refine WL_val rfl rfl rfl (R_move rfl rfl) ?_
    refine WL_val rfl rfl rfl (R_extract rfl rfl rfl) ?_
    refine WL_val rfl rfl rfl (R_extract rfl rfl rfl) ?_
    refine WL_do rfl rfl rfl (D_alloc rfl zv26) ?_
    rintro _ _ ⟨b1, rfl, rfl⟩
    refine WL_do0 rfl rfl (D_store (vs := [_, _]) rfl Try.sizeOf26 rfl rfl rfl rfl rfl (by repeat (first | exact Pull.head | apply Pull.tail)) (by exact Nat.le_of_ble_eq_true rfl)) ?_
    rintro _ _ rfl
    refine WL_val rfl rfl rfl (R_assign rfl rfl) ?_
    refine WL_nil ?_
    refine WQ_code ?_
    refine WC_seq ?_
    refine WC_seq ?_
    refine WC_region ?_
    refine WL_val rfl rfl rfl (R_move rfl rfl) ?_
    refine WL_val rfl rfl rfl (R_eql rfl rfl rfl) ?_
    refine WL_nil ?_
    refine WQ_code ?_
    refine WC_dec rfl (fun c2 => ?_) (fun c2 => ?_)
    · have hcs : e = 2 ∧ L' = y.L := by rcases hcase with ⟨_, h1, h2⟩ | ⟨h0, _⟩ | ⟨h0, _⟩; exact ⟨h1, h2⟩; omega; omega
      obtain ⟨rfl, rfl⟩ := hcs
      refine WC_seq ?_
      refine WC_seq ?_
      refine WC_region ?_
      refine WL_val rfl rfl rfl (R_move rfl rfl) ?_
      refine WL_val rfl rfl rfl (R_neq rfl rfl rfl) ?_
      refine WL_nil ?_
      refine WQ_code ?_
      refine WC_dF rfl (by simp) ?_
      refine WC_skip ?_
      refine WQ_code ?_
      refine WC_exit ?_
      refine WQ_code ?_
      refine WC_region ?_
      refine WL_val rfl rfl rfl (R_add rfl rfl rfl (by omega)) ?_
      refine WL_val rfl rfl rfl (R_move rfl rfl) ?_
      refine WL_nil ?_
      refine WQ_nextF (⟨y.k + 1, y.L, m', y.ow, y.cw, y.tw⟩) (⟨by dsimp only; omega, hm', hmp, by dsimp only; omega, hyl, hyo⟩) (by dsimp only; omega) (Le.lq (by repeat (first | exact Le.nil | refine Le.cons rfl (by first | rfl | (congr 1; omega)) ?_))) (by repeat (first | exact Pushed.refl | refine Pushed.push rfl ?_)) rfl (by repeat (first | exact Pulls.nil | exact Pulls.all | (apply Pulls.cons; (repeat (first | exact Pull.head | apply Pull.tail))) | apply Pulls.skip))
    · obtain ⟨_, hlt, rfl, hfree, rfl, rfl⟩ : a < 18446744073709551615 ∧ (live y.L).length < 1024 ∧ e = 0 ∧ IsFree (wl y.L) n1 ∧ g1 = cnt y.L n1 ∧ L' = _ := by rcases hcase with ⟨h0, _⟩ | ⟨_, h0, _⟩ | h0; omega; omega; exact h0
      refine WC_skip ?_
      refine WQ_code ?_
      refine WC_seq ?_
      refine WC_seq ?_
      refine WC_region ?_
      refine WL_val rfl rfl rfl (R_move rfl rfl) ?_
      refine WL_val rfl rfl rfl (R_neq rfl rfl rfl) ?_
      refine WL_nil ?_
      refine WQ_code ?_
      refine WC_dF rfl (by simp) ?_
      refine WC_skip ?_
      refine WQ_code ?_
      refine WC_region ?_
      refine WL_val rfl rfl rfl (R_move rfl rfl) ?_
      refine WL_val rfl rfl rfl (R_loadA (vs := [_, _]) rfl ag26 rfl (by repeat (first | exact List.Mem.head _ | refine List.Mem.tail _ ?_)) rfl (by repeat (first | exact At.nil | refine At.cons ?_ | refine At.succ ?_))) ?_
      refine WL_val rfl rfl rfl (R_move rfl rfl) ?_
      refine WL_val rfl rfl rfl (R_move rfl rfl) ?_
      refine WL_val rfl rfl rfl (R_build rfl zv40 pl40 rfl rfl) ?_
      refine WL_do rfl rfl rfl (D_buildSlice rfl si38 rfl rfl rfl) ?_
      rintro _ _ ⟨b2, rfl, rfl⟩
      refine WL_do rfl rfl rfl (D_append rfl si38 rfl (hyo) (by repeat (first | exact Pull.head | apply Pull.tail)) rfl (by repeat (first | exact List.Mem.head _ | refine List.Mem.tail _ ?_)) ((by repeat (first | exact At.nil | refine At.cons ?_ | refine At.succ ?_) : At _ 0 [_, _, _, _])) (rfl) (rfl) (by omega) (by omega)) ?_
      rintro _ _ ⟨ob3, cap3, tl3, rfl, own3, rfl⟩
      rw [show (y.L.map (setT at_)).flatMap encDu ++ [Value.int .i64 (n1 : Int), Value.int .i64 ((cnt y.L n1 : Nat) : Int), Value.int .i64 (y.k : Int), Value.int .u64 (at_ : Int)] = ((y.L ++ [(⟨n1, cnt y.L n1, (y.k : Int), a, false, y.m.g.n + 1⟩ : Tm)]).map (setT at_)).flatMap encDu from by rw [List.map_append, List.flatMap_append]; rfl, show y.L.length + 1 = (y.L ++ [(⟨n1, cnt y.L n1, (y.k : Int), a, false, y.m.g.n + 1⟩ : Tm)]).length from by simp] at *
      refine WL_val rfl rfl rfl (R_assign rfl rfl) ?_
      refine WL_nil ?_
      refine WQ_code ?_
      refine WC_region ?_
      refine WL_val rfl rfl rfl (R_add rfl rfl rfl (by omega)) ?_
      refine WL_val rfl rfl rfl (R_move rfl rfl) ?_
      refine WL_nil ?_
      refine WQ_nextF (⟨y.k + 1, y.L ++ [⟨n1, cnt y.L n1, (y.k : Int), a, false, y.m.g.n + 1⟩], m', ob3, cap3, tl3⟩) (⟨by dsimp only; omega, hm', hmp, by dsimp only; omega, fun t ht => (by rcases List.mem_append.1 ht with ht | ht; exact hyl t ht; (rw [List.mem_singleton] at ht; rw [ht])), own3⟩) (by dsimp only; omega) (Le.lq (by repeat (first | exact Le.nil | refine Le.cons rfl (by first | rfl | (congr 1; omega)) ?_))) (by repeat (first | exact Pushed.refl | refine Pushed.push rfl ?_)) rfl (by repeat (first | exact Pulls.nil | exact Pulls.all | (apply Pulls.cons; (repeat (first | exact Pull.head | apply Pull.tail))) | apply Pulls.skip))
  · refine WC_exit ?_
    refine WQ_code ?_
    refine WC_seq ?_
    refine WC_seq ?_
    refine WC_region ?_
    refine WL_val rfl rfl rfl (R_move rfl rfl) ?_
    refine WL_val rfl rfl rfl (R_len rfl Try.underlying38 rfl) ?_
    refine WL_val rfl rfl rfl (R_move rfl rfl) ?_
    refine WL_nil ?_
    refine WQ_code ?_
    refine WC_block ?_
    refine WC_loopF (G := RX3) [4, 11, 53, 54, 55, 56, 57, 58, 59, 60, 61, 62, 63, 64, 65, 66, 67, 68, 69] (fun z => z.i ≤ y.L.length ∧ TIs (rsL y.L at_ z.i) z.m ∧ z.m.pt = y.m.pt) (fun z => [(53, .int .i64 (z.i : Int))]) (fun z => tmH z.m) (fun z => y.L.length - z.i) (⟨0, y.m⟩) (⟨Nat.zero_le _, by rw [rsL_zero]; exact hy, rfl⟩) (Le.lq (by repeat (first | exact Le.nil | refine Le.cons rfl (by first | rfl | (congr 1; omega)) ?_))) (by repeat (first | exact Pulls.nil | exact Pulls.all | (apply Pulls.cons; (repeat (first | exact Pull.head | apply Pull.tail))) | apply Pulls.skip)) ?_
    rintro z ⟨hzi, hz, hzp⟩
    rw [← hzp]
    refine WC_seq ?_
    refine WC_region ?_
    refine WL_val rfl rfl rfl (R_lss rfl rfl rfl) ?_
    refine WL_nil ?_
    refine WQ_code ?_
    refine WC_seq ?_
    refine WC_dec rfl (fun c3 => ?_) (fun c3 => ?_)
    · refine WC_skip ?_
      refine WQ_code ?_
      refine WC_seq ?_
      refine WC_block ?_
      refine WC_seq ?_
      refine WC_region ?_
      refine WL_val rfl rfl rfl (R_move rfl rfl) ?_
      refine WL_val rfl rfl rfl (R_assign rfl rfl) ?_
      refine WL_nil ?_
      refine WQ_code ?_
      refine WC_seq ?_
      refine WC_region ?_
      obtain ⟨t, ht⟩ := exE (T := y.L) (i := y.L.length - 1 - z.i) (by omega)
      have htg := hyl t (List.mem_of_getElem? ht)
      have hx : (y.L.map (setT at_))[y.L.length - 1 - z.i]? = some (setT at_ t) := by rw [List.getElem?_map, ht]; rfl
      obtain ⟨bw, hbw⟩ := hyo.some_of (by omega)
      rw [hbw]
      have hrt : (rsL y.L at_ z.i)[y.L.length - 1 - z.i]? = some t := by rw [rsL_get, if_pos (by omega)]; exact ht
      refine WL_val rfl rfl rfl (R_move rfl rfl) ?_
      refine WL_val rfl rfl rfl (R_move rfl rfl) ?_
      refine WL_val rfl rfl rfl (R_move rfl rfl) ?_
      refine WL_val rfl rfl rfl (R_len rfl Try.underlying38 rfl) ?_
      refine WL_val rfl rfl rfl (R_subR (r := ((y.L.length - 1 : Nat) : Int)) rfl rfl rfl (by rw [IntWalk.i64_in _ (by omega)]; omega)) ?_
      refine WL_val rfl rfl rfl (R_move rfl rfl) ?_
      refine WL_val rfl rfl rfl (R_subR (r := ((y.L.length - 1 - z.i : Nat) : Int)) rfl rfl rfl (by rw [IntWalk.i64_in _ (by omega)]; omega)) ?_
      refine WL_val rfl rfl rfl (R_indexAddrN rfl Try.underlying38 Try.sizeOf40 rfl rfl (by omega)) ?_
      refine WL_val rfl rfl rfl (R_fieldAddr rfl fa40_0 rfl) ?_
      refine WL_val rfl rfl rfl (R_loadA (vs := [.int .i64 (t.n : Int), .int .i64 (t.gen : Int)]) rfl ag26 rfl (by repeat (first | exact List.Mem.head _ | refine List.Mem.tail _ ?_)) rfl (fm_at0 encDu4 hx (j := 0) (vs := [.int .i64 (t.n : Int), .int .i64 (t.gen : Int)]) (fun j v h => by rw [Nat.zero_add]; cases j with | zero => exact h | succ j => cases j with | zero => exact h | succ j => cases h) (Nat.le_of_ble_eq_true rfl))) ?_
      refine WL_val rfl rfl rfl (R_move rfl rfl) ?_
      refine WL_do rfl rfl rfl (D_call (mreset_ok (rsL y.L at_ z.i) z.m hz t (List.mem_of_getElem? hrt) htg at_ hat) rfl rfl rfl rfl (by repeat (first | exact Pulls.nil | exact Pulls.all | (apply Pulls.cons; (repeat (first | exact Pull.head | apply Pull.tail))) | apply Pulls.skip))) ?_
      rintro _ _ ⟨_, ⟨m', rfl, rfl, hmp, hmn, hm'⟩, rfl⟩
      refine WL_val rfl rfl rfl (R_neq rfl rfl rfl) ?_
      refine WL_nil ?_
      refine WQ_code ?_
      refine WC_dF rfl (by simp) ?_
      refine WC_skip ?_
      refine WQ_code ?_
      refine WC_region ?_
      refine WL_val rfl rfl rfl (R_add rfl rfl rfl (by omega)) ?_
      refine WL_val rfl rfl rfl (R_move rfl rfl) ?_
      refine WL_nil ?_
      refine WQ_nextF (⟨z.i + 1, m'⟩) (⟨by dsimp only; omega, by rw [← rsL_step hz.r (by omega) ht htg]; exact hm', hmp⟩) (by dsimp only; omega) (Le.lq (by repeat (first | exact Le.nil | refine Le.cons rfl (by first | rfl | (congr 1; omega)) ?_))) (by repeat (first | exact Pushed.refl | refine Pushed.push rfl ?_)) rfl (by repeat (first | exact Pulls.nil | exact Pulls.all | (apply Pulls.cons; (repeat (first | exact Pull.head | apply Pull.tail))) | apply Pulls.skip))
    · refine WC_exit ?_
      refine WQ_code ?_
      refine WC_seq ?_
      refine WC_seq ?_
      refine WC_region ?_
      have hzl : z.i = y.L.length := by omega
      rw [hzl, rsL_all] at hz
      obtain ⟨hmap, hlv⟩ := map_set_mem (at_ := at_) hyl
      obtain ⟨hd1, hd2⟩ := eL_same (now := at_) _ _ _ _ hz.r rfl (fun t ht _ => (hmap t ht).2)
      rw [hlv] at hd1
      have he0 : 0 < at_ → (eL (at_ - 1) (y.L.map (setT at_))) = (y.L.map (setT at_), []) := fun h0 => eL_all_gt (fun t ht _ => by rw [(hmap t ht).2]; omega)
      refine WL_val rfl rfl rfl (R_move rfl rfl) ?_
      refine WL_val rfl rfl rfl (R_gtr rfl rfl rfl) ?_
      refine WL_val rfl rfl rfl (R_move rfl rfl) ?_
      refine WL_splitD (s := 72) rfl (fun c4 => ?_) (fun c4 => ?_)
      · have h0 : 0 < at_ := by omega
        have he0 := he0 h0
        refine WL_val rfl rfl rfl (R_move rfl rfl) ?_
        refine WL_val rfl rfl rfl (R_move rfl rfl) ?_
        refine WL_val rfl rfl rfl (R_subR (r := ((at_ - 1 : Nat) : Int)) rfl rfl rfl (by rw [w64 (by omega)]; omega)) ?_
        refine WL_do rfl rfl rfl (D_call (mexp_e (y.L.map (setT at_)) z.m hz (at_ - 1) (by omega)) rfl rfl rfl rfl (by repeat (first | exact Pulls.nil | exact Pulls.all | (apply Pulls.cons; (repeat (first | exact Pull.head | apply Pull.tail))) | apply Pulls.skip))) ?_
        rintro _ _ ⟨_, ⟨o1, c1, t1, m1, rfl, w1, rfl, p1, n1, g1⟩, rfl⟩
        rw [← p1]
        refine WL_val rfl rfl rfl (R_len rfl Try.underlying38 rfl) ?_
        refine WL_val rfl rfl rfl (R_neq rfl rfl rfl) ?_
        refine WL_set (s := 78) (v := .bool false) rfl (by rw [he0]; simp) ?_
        refine WL_val rfl rfl rfl (R_pickT rfl rfl rfl) ?_
        refine WL_nil ?_
        refine WQ_code ?_
        refine WC_F rfl ?_
        refine WC_skip ?_
        refine WQ_code ?_
        refine WC_seq ?_
        refine WC_region ?_
        refine WL_val rfl rfl rfl (R_move rfl rfl) ?_
        refine WL_val rfl rfl rfl (R_move rfl rfl) ?_
        refine WL_do rfl rfl rfl (D_call (mexp_e (y.L.map (setT at_)) m1 (by have := g1; rw [he0] at this; exact this) at_ hat) rfl rfl rfl rfl (by repeat (first | exact Pulls.nil | exact Pulls.all | (apply Pulls.cons; (repeat (first | exact Pull.head | apply Pull.tail))) | apply Pulls.skip))) ?_
        rintro _ _ ⟨_, ⟨o2, c2, t2, m2, rfl, w2, rfl, p2, n2, g2⟩, rfl⟩
        rw [← p2, hd1]
        rw [show (y.L.map (setT at_)).length = y.L.length from List.length_map ..]
        refine WL_val rfl rfl rfl (R_move rfl rfl) ?_
        refine WL_do rfl rfl rfl (D_call (same_n y.L.length (y.L.map (setT at_)) (List.length_map ..) (by omega) o2 c2 t2 y.ow y.cw y.tw (by have := w2; rw [hd1, List.length_map] at this; exact this) hyo) rfl rfl rfl rfl (by repeat (first | exact Pulls.nil | exact Pulls.all | (apply Pulls.cons; (repeat (first | exact Pull.head | apply Pull.tail))) | apply Pulls.skip))) ?_
        rintro _ _ ⟨_, ⟨rfl, rfl⟩, rfl⟩
        refine WL_val rfl rfl rfl (R_move rfl rfl) ?_
        refine WL_val rfl rfl rfl (R_move rfl rfl) ?_
        refine WL_do rfl rfl rfl (D_call (mlen_ok _ m2 g2) rfl rfl rfl rfl (by repeat (first | exact Pulls.nil | exact Pulls.all | (apply Pulls.cons; (repeat (first | exact Pull.head | apply Pull.tail))) | apply Pulls.skip))) ?_
        rintro _ _ ⟨_, ⟨rfl, rfl⟩, rfl⟩
        refine WL_val rfl rfl rfl (R_eql rfl rfl rfl) ?_
        refine WL_set (s := 88) (v := .bool true) rfl (by rw [hd2]; simp) ?_
        refine WL_val rfl rfl rfl (R_pickT rfl rfl rfl) ?_
        refine WL_val rfl rfl rfl (R_move rfl rfl) ?_
        refine WL_do rfl rfl rfl (D_call (known_ok) rfl rfl rfl rfl (by repeat (first | exact Pulls.nil | exact Pulls.all | (apply Pulls.cons; (repeat (first | exact Pull.head | apply Pull.tail))) | apply Pulls.skip))) ?_
        rintro _ _ ⟨_, ⟨rfl, rfl⟩, rfl⟩
        refine WL_val rfl rfl rfl (R_pickT rfl rfl rfl) ?_
        refine WL_val rfl rfl rfl (R_assign rfl rfl) ?_
        refine WL_nil ?_
        refine WQ_code ?_
        refine WC_ret ?_
        refine WQ_ret rfl rfl (.cons (.tmp rfl) .nil) rfl (by
            exact ⟨rfl, rfl⟩) (by repeat (first | exact Pulls.nil | exact Pulls.all | (apply Pulls.cons; (repeat (first | exact Pull.head | apply Pull.tail))) | apply Pulls.skip))
      · have h0 : ¬ 0 < at_ := by omega
        refine WL_skip rfl rfl rfl ?_
        refine WL_skip rfl rfl rfl ?_
        refine WL_skip rfl rfl rfl ?_
        refine WL_skip rfl rfl rfl ?_
        refine WL_skip rfl rfl rfl ?_
        refine WL_skip rfl rfl rfl ?_
        refine WL_val rfl rfl rfl (R_pickF rfl rfl rfl) ?_
        refine WL_nil ?_
        refine WQ_code ?_
        refine WC_F rfl ?_
        refine WC_skip ?_
        refine WQ_code ?_
        refine WC_seq ?_
        refine WC_region ?_
        refine WL_val rfl rfl rfl (R_move rfl rfl) ?_
        refine WL_val rfl rfl rfl (R_move rfl rfl) ?_
        refine WL_do rfl rfl rfl (D_call (mexp_e (y.L.map (setT at_)) z.m hz at_ hat) rfl rfl rfl rfl (by repeat (first | exact Pulls.nil | exact Pulls.all | (apply Pulls.cons; (repeat (first | exact Pull.head | apply Pull.tail))) | apply Pulls.skip))) ?_
        rintro _ _ ⟨_, ⟨o2, c2, t2, m2, rfl, w2, rfl, p2, n2, g2⟩, rfl⟩
        rw [← p2, hd1]
        rw [show (y.L.map (setT at_)).length = y.L.length from List.length_map ..]
        refine WL_val rfl rfl rfl (R_move rfl rfl) ?_
        refine WL_do rfl rfl rfl (D_call (same_n y.L.length (y.L.map (setT at_)) (List.length_map ..) (by omega) o2 c2 t2 y.ow y.cw y.tw (by have := w2; rw [hd1, List.length_map] at this; exact this) hyo) rfl rfl rfl rfl (by repeat (first | exact Pulls.nil | exact Pulls.all | (apply Pulls.cons; (repeat (first | exact Pull.head | apply Pull.tail))) | apply Pulls.skip))) ?_
        rintro _ _ ⟨_, ⟨rfl, rfl⟩, rfl⟩
        refine WL_val rfl rfl rfl (R_move rfl rfl) ?_
        refine WL_val rfl rfl rfl (R_move rfl rfl) ?_
        refine WL_do rfl rfl rfl (D_call (mlen_ok _ m2 g2) rfl rfl rfl rfl (by repeat (first | exact Pulls.nil | exact Pulls.all | (apply Pulls.cons; (repeat (first | exact Pull.head | apply Pull.tail))) | apply Pulls.skip))) ?_
        rintro _ _ ⟨_, ⟨rfl, rfl⟩, rfl⟩
        refine WL_val rfl rfl rfl (R_eql rfl rfl rfl) ?_
        refine WL_set (s := 88) (v := .bool true) rfl (by rw [hd2]; simp) ?_
        refine WL_val rfl rfl rfl (R_pickT rfl rfl rfl) ?_
        refine WL_val rfl rfl rfl (R_move rfl rfl) ?_
        refine WL_do rfl rfl rfl (D_call (known_ok) rfl rfl rfl rfl (by repeat (first | exact Pulls.nil | exact Pulls.all | (apply Pulls.cons; (repeat (first | exact Pull.head | apply Pull.tail))) | apply Pulls.skip))) ?_
        rintro _ _ ⟨_, ⟨rfl, rfl⟩, rfl⟩
        refine WL_val rfl rfl rfl (R_pickT rfl rfl rfl) ?_
        refine WL_val rfl rfl rfl (R_assign rfl rfl) ?_
        refine WL_nil ?_
        refine WQ_code ?_
        refine WC_ret ?_
        refine WQ_ret rfl rfl (.cons (.tmp rfl) .nil) rfl (by
            exact ⟨rfl, rfl⟩) (by repeat (first | exact Pulls.nil | exact Pulls.all | (apply Pulls.cons; (repeat (first | exact Pull.head | apply Pull.tail))) | apply Pulls.skip))

end Go.Proofs.Ytbaagjiailmlhaa
