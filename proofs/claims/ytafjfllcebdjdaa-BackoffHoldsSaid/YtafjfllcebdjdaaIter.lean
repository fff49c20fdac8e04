/-
  Chapter 47 (backoff), part Iter: contracts of functions that the laws call, each for the heap it names.
-/
import Derived.Test.YtafjfllcebdjdaaRows
import Derived.Test.YtafjfllcebdjdaaSLMarks
import Derived.Test.YtafjfllcebdjdaaSLInt
import Derived.Test.YtafjfllcebdjdaaSLBirth
import Derived.Test.YtafjfllcebdjdaaTab
import Derived.Test.YtafjfllcebdjdaaFull
set_option linter.unusedVariables false
set_option maxRecDepth 20000
namespace Go.Proofs.Ytafjfllcebdjdaa


def encD (x : Nat × Nat) : List Value := [.int .i64 (x.1 : Int), .int .u64 (x.2 : Int)]
def dlTo (p : Plan) (n : Nat) : List (Nat × Nat) := (List.range n).map fun k => (k, delayN p k)
abbrev dl (p : Plan) : List (Nat × Nat) := dlTo p p.tries.toNat
theorem dlTo_len (p : Plan) (n : Nat) : (dlTo p n).length = n := by simp [dlTo]
theorem dlTo_succ (p : Plan) (n : Nat) : dlTo p (n + 1) = dlTo p n ++ [(n, delayN p n)] := by simp [dlTo, List.range_succ]
theorem dlTo_get (p : Plan) {n k : Nat} (h : k < n) : (dlTo p n)[k]? = some (k, delayN p k) := by simp [dlTo, h]
theorem dlTo_pre (p : Plan) {n k : Nat} (h : k ≤ n) : ∃ r, dlTo p n = dlTo p k ++ r := by
  refine ⟨((List.range (n - k)).map fun j => (k + j, delayN p (k + j))), ?_⟩
  obtain ⟨d, rfl⟩ : ∃ d, n = k + d := ⟨n - k, by omega⟩
  simp only [dlTo, List.range_add, List.map_append, List.map_map, Nat.add_sub_cancel_left]
  rfl
theorem dl_dec (p : Plan) {k : Nat} (h : k < p.tries.toNat) : ∃ r, dl p = dlTo p k ++ (k, delayN p k) :: r := by
  obtain ⟨r, hr⟩ := dlTo_pre p (show k + 1 ≤ p.tries.toNat from h)
  exact ⟨r, by rw [dl, hr, dlTo_succ, List.append_assoc]; rfl⟩
theorem dl_at {p : Plan} {n : Nat} {pre suf : List (Nat × Nat)} {x : Nat × Nat} (h : dlTo p n = pre ++ x :: suf) : x = (pre.length, delayN p pre.length) ∧ pre.length < n ∧ pre = dlTo p pre.length := by
  have hl : pre.length < n := by have := congrArg List.length h; rw [dlTo_len, List.length_append, List.length_cons] at this; omega
  have h1 : (dlTo p n)[pre.length]? = some x := by rw [h]; simp
  rw [dlTo_get p hl] at h1
  refine ⟨(Option.some.inj h1).symm, hl, ?_⟩
  obtain ⟨r, hr⟩ := dlTo_pre p (Nat.le_of_lt hl)
  rw [h] at hr
  exact (List.append_inj hr (by rw [dlTo_len])).1
theorem delays_ok (p : Plan) : Spec Try.prog 26 [.agg (pl p).toArray] [] (fun r H' => ∃ b, r = .func (.func 39) #[] #[.pointer (some ⟨b, 0, none⟩)] ∧ H' = [⟨some b, cl (pl p) 26⟩]) := by
  refine Spec.of (E := [(0, .agg (pl p).toArray)]) Try.func26 rfl (by kernel_rfl) Try.ntmps26 rfl rfl (fun w => ?_)
  refine WC_seq ?_
  refine WC_region ?_
  refine WL_do rfl rfl rfl (D_box (cs := [_, _, _, _, _, _, _]) rfl rfl rfl) ?_
  rintro _ _ ⟨b1, rfl, rfl⟩
  refine WL_val rfl rfl rfl (R_assign rfl rfl) ?_
  refine WL_nil ?_
  refine WQ_code ?_
  refine WC_seq ?_
  refine WC_region ?_
  refine WL_val rfl rfl rfl (R_makeFunc rfl rfl rfl) ?_
  refine WL_val rfl rfl rfl (R_assign rfl rfl) ?_
  refine WL_nil ?_
  refine WQ_code ?_
  refine WC_ret ?_
  refine WQ_ret rfl rfl (.cons (.tmp rfl) .nil) rfl (by
      exact ⟨_, rfl, rfl⟩) (by repeat (first | exact Pulls.nil | exact Pulls.all | (apply Pulls.cons; (repeat (first | exact Pull.head | apply Pull.tail))) | apply Pulls.skip))
theorem iter_ok (p : Plan) (hp : OkP p) (hs : p.seed < 4294967296) (bc : Nat) : IterSpec Try.prog 39 [.pointer (some ⟨bc, 0, none⟩)] [⟨some bc, cl (pl p) 26⟩] encD (dl p) := by
  intro l J Jx hY hj h0
  have hq := hp
  obtain ⟨q1, q2, q3, q4, q5, q6, q7, q8, q9, q10⟩ := hq
  obtain ⟨r0, hr0⟩ := dl_dec p (k := 0) (by omega)
  refine Spec.of (E := [(0, yieldV l), (1, .pointer (some ⟨bc, 0, none⟩))]) Try.func39 rfl (by kernel_rfl) Try.ntmps39 rfl rfl (fun w => ?_)
  refine WC_seq ?_
  refine WC_seq ?_
  refine WC_region ?_
  refine WL_val rfl rfl rfl (R_move rfl rfl) ?_
  refine WL_do rfl rfl rfl (D_yield (F := [_]) (hY [] (0, 0) r0 hj hr0 h0) rfl rfl rfl rfl (List.Perm.refl _)) ?_
  rintro _ _ ⟨hj2, (⟨rfl, hJ2⟩ | ⟨rfl, hJ2⟩), rfl⟩
  · refine WL_val rfl rfl rfl (R_not rfl rfl) ?_
    refine WL_nil ?_
    refine WQ_code ?_
    refine WC_F rfl ?_
    refine WC_skip ?_
    refine WQ_code ?_
    refine WC_seq ?_
    refine WC_region ?_
    refine WL_val rfl rfl rfl (R_fieldAddr rfl fa26_0 rfl) ?_
    refine WL_val rfl rfl rfl (R_load rfl sc23 rfl (by repeat (first | exact List.Mem.head _ | refine List.Mem.tail _ ?_)) rfl) ?_
    refine WL_val rfl rfl rfl (R_assign rfl rfl) ?_
    refine WL_nil ?_
    refine WQ_code ?_
    refine WC_seq ?_
    refine WC_region ?_
    refine WL_val rfl rfl rfl (R_assign rfl rfl) ?_
    refine WL_nil ?_
    refine WQ_code ?_
    refine WC_block ?_
    refine WC_loopH (G := Nat × Heap) [3, 4, 5, 11, 12, 13, 14, 15, 16, 17, 18, 19, 20, 21, 22, 23, 24, 25, 26, 27, 28, 29, 30, 31, 32, 33, 34, 35, 36, 37, 38, 39, 40, 41, 42, 43, 44, 45, 46] (fun g => g.1 < p.tries.toNat ∧ J (dlTo p (g.1 + 1)) g.2) (fun g => [(4, .int .i64 ((g.1 + 1 : Nat) : Int)), (3, .int .u64 ((fullN p g.1 : Nat) : Int))]) (fun g => ⟨some bc, cl (pl p) 26⟩ :: g.2) (fun g => p.tries.toNat - g.1) ((0, hj2)) (⟨by dsimp only; omega, hJ2⟩) (Le.lq (by repeat (first | exact Le.nil | refine Le.cons rfl (by first | rfl | (congr 1; omega)) ?_))) (by repeat (first | exact Pulls.nil | exact Pulls.all | (apply Pulls.cons; (repeat (first | exact Pull.head | apply Pull.tail))) | apply Pulls.skip)) ?_
    rintro g ⟨hk, hJ⟩
    obtain ⟨i, hj⟩ := g
    simp only at hk hJ ⊢
    have hfl := fullN_le hp i
    have hj9 := full_jit hp i
    have hn9 := full_num hp i
    have hz := full_nz hp i
    have hle := lessN_le hp i
    refine WC_seq ?_
    refine WC_seq ?_
    refine WC_region ?_
    refine WL_val rfl rfl rfl (R_move rfl rfl) ?_
    refine WL_val rfl rfl rfl (R_fieldAddr rfl fa26_4 rfl) ?_
    refine WL_val rfl rfl rfl (R_load rfl sc3 rfl (by repeat (first | exact List.Mem.head _ | refine List.Mem.tail _ ?_)) rfl) ?_
    refine WL_val rfl rfl rfl (R_lss rfl rfl rfl) ?_
    refine WL_nil ?_
    refine WQ_code ?_
    refine WC_dec rfl (fun c1 => ?_) (fun c1 => ?_)
    · refine WC_skip ?_
      refine WQ_code ?_
      refine WC_seq ?_
      refine WC_block ?_
      refine WC_seq ?_
      refine WC_draw _ [(0, true), (1, true), (2, true), (3, true), (4, true), (5, true), (6, true), (7, true), (8, false), (9, true), (10, true), (11, true)] followsMixed rfl rfl (by kernel_rfl) .all ?_
      refine WM_val rfl rfl rfl rfl (R_move rfl rfl) ?_
      refine WM_val rfl rfl rfl rfl (R_fieldAddr rfl fa26_5 rfl) ?_
      refine WM_val rfl rfl rfl rfl (R_load rfl sc3 rfl (by repeat (first | exact List.Mem.head _ | refine List.Mem.tail _ ?_)) rfl) ?_
      refine WM_val rfl rfl rfl rfl (R_conv (r := ((p.jit.toNat : Nat) : Int)) rfl Try.underlying3 Try.underlying22 rfl (by rw [w64 (by omega)]; omega)) ?_
      refine WM_val rfl rfl rfl rfl (R_mulR (r := ((fullN p i * p.jit.toNat : Nat) : Int)) rfl rfl rfl (by rw [← Int.natCast_mul]; exact w64 ⟨by omega, by omega⟩)) ?_
      refine WM_val rfl rfl rfl rfl (R_fieldAddr rfl fa26_6 rfl) ?_
      refine WM_val rfl rfl rfl rfl (R_load rfl sc24 rfl (by repeat (first | exact List.Mem.head _ | refine List.Mem.tail _ ?_)) rfl) ?_
      refine WM_val rfl rfl rfl rfl (R_move rfl rfl) ?_
      refine WM_do rfl rfl rfl rfl (D_call (noise_ok p.seed (i + 1) hs (by omega)) rfl rfl rfl rfl (by repeat (first | exact Pulls.nil | exact Pulls.all | (apply Pulls.cons; (repeat (first | exact Pull.head | apply Pull.tail))) | apply Pulls.skip))) ?_
      rintro _ _ ⟨_, ⟨rfl, rfl⟩, rfl⟩
      refine ⟨⟨_, by repeat (first | exact Pulls.nil | exact Pulls.all | (apply Pulls.cons; (repeat (first | exact Pull.head | apply Pull.tail))) | apply Pulls.skip)⟩, ?_⟩
      refine WM_val rfl rfl rfl rfl (R_mulR (r := ((fullN p i * p.jit.toNat * nz p.seed (i + 1) : Nat) : Int)) rfl rfl rfl (by rw [← Int.natCast_mul]; exact w64 ⟨by omega, by omega⟩)) ?_
      refine WM_val rfl rfl rfl rfl (R_quoR (r := ((lessN p i : Nat) : Int)) rfl rfl rfl (by omega) (quoN (b := 6553600) (by omega) (by omega))) ?_
      refine WM_val rfl rfl rfl rfl (R_assign rfl rfl) ?_
      refine WM_nil ?_
      refine WQ_code ?_
      refine WC_seq ?_
      refine WC_seq ?_
      refine WC_region ?_
      refine WL_val rfl rfl rfl (R_move rfl rfl) ?_
      refine WL_val rfl rfl rfl (R_move rfl rfl) ?_
      refine WL_val rfl rfl rfl (R_move rfl rfl) ?_
      refine WL_val rfl rfl rfl (R_move rfl rfl) ?_
      refine WL_val rfl rfl rfl (R_subR (r := ((delayN p (i + 1) : Nat) : Int)) rfl rfl rfl (by rw [w64 ⟨by omega, by omega⟩]; simp only [delayN]; omega)) ?_
      obtain ⟨r1, hdec⟩ := dl_dec p (k := i + 1) (by omega)
      refine WL_do rfl rfl rfl (D_yield (F := [_]) (hY (dlTo p (i + 1)) (i + 1, delayN p (i + 1)) r1 hj hdec hJ) rfl rfl rfl rfl (List.Perm.refl _)) ?_
      rintro _ _ ⟨hj2, (⟨rfl, hJ2⟩ | ⟨rfl, hJ2⟩), rfl⟩
      · refine WL_val rfl rfl rfl (R_not rfl rfl) ?_
        refine WL_nil ?_
        refine WQ_code ?_
        refine WC_F rfl ?_
        refine WC_skip ?_
        refine WQ_code ?_
        refine WC_draw _ [(0, true), (1, true), (2, true), (3, true), (4, true), (5, true), (6, true), (7, true), (8, true), (9, true), (10, true), (11, true), (12, true)] followsMixed rfl rfl (by kernel_rfl) .all ?_
        refine WM_val rfl rfl rfl rfl (R_fieldAddr rfl fa26_1 rfl) ?_
        refine WM_val rfl rfl rfl rfl (R_load rfl sc23 rfl (by repeat (first | exact List.Mem.head _ | refine List.Mem.tail _ ?_)) rfl) ?_
        refine WM_val rfl rfl rfl rfl (R_move rfl rfl) ?_
        refine WM_val rfl rfl rfl rfl (R_fieldAddr rfl fa26_2 rfl) ?_
        refine WM_val rfl rfl rfl rfl (R_load rfl sc3 rfl (by repeat (first | exact List.Mem.head _ | refine List.Mem.tail _ ?_)) rfl) ?_
        refine WM_val rfl rfl rfl rfl (R_conv (r := ((p.num.toNat : Nat) : Int)) rfl Try.underlying3 Try.underlying22 rfl (by rw [w64 (by omega)]; omega)) ?_
        refine WM_val rfl rfl rfl rfl (R_mulR (r := ((fullN p i * p.num.toNat : Nat) : Int)) rfl rfl rfl (by rw [← Int.natCast_mul]; exact w64 ⟨by omega, by omega⟩)) ?_
        refine WM_val rfl rfl rfl rfl (R_fieldAddr rfl fa26_3 rfl) ?_
        refine WM_val rfl rfl rfl rfl (R_load rfl sc3 rfl (by repeat (first | exact List.Mem.head _ | refine List.Mem.tail _ ?_)) rfl) ?_
        refine WM_val rfl rfl rfl rfl (R_conv (r := ((p.den.toNat : Nat) : Int)) rfl Try.underlying3 Try.underlying22 rfl (by rw [w64 (by omega)]; omega)) ?_
        refine WM_val rfl rfl rfl rfl (R_quoR (r := ((fullN p i * p.num.toNat / p.den.toNat : Nat) : Int)) rfl rfl rfl (by omega) (quoN (by omega) (by omega))) ?_
        refine WM_val rfl rfl rfl rfl (R_minR (r := ((fullN p (i + 1) : Nat) : Int)) rfl rfl rfl (by simp only [fullN]; omega)) ?_
        refine WM_val rfl rfl rfl rfl (R_assign rfl rfl) ?_
        refine WM_nil ?_
        refine WQ_code ?_
        refine WC_region ?_
        refine WL_val rfl rfl rfl (R_move rfl rfl) ?_
        refine WL_val rfl rfl rfl (R_add rfl rfl rfl (by omega)) ?_
        refine WL_val rfl rfl rfl (R_assign rfl rfl) ?_
        refine WL_nil ?_
        refine WQ_nextH (gg := (i, hj)) ((i + 1, hj2)) (⟨by dsimp only; omega, by (show J (dlTo p (i + 1 + 1)) _); rw [dlTo_succ p (i + 1)]; exact hJ2⟩) (by (show p.tries.toNat - (i + 1) < p.tries.toNat - i); omega) (Le.lq (by repeat (first | exact Le.nil | refine Le.cons rfl (by first | rfl | (congr 1; omega)) ?_))) (by repeat (first | exact Pushed.refl | refine Pushed.push rfl ?_)) rfl (by repeat (first | exact Pulls.nil | exact Pulls.all | (apply Pulls.cons; (repeat (first | exact Pull.head | apply Pull.tail))) | apply Pulls.skip))
      · refine WL_val rfl rfl rfl (R_not rfl rfl) ?_
        refine WL_nil ?_
        refine WQ_code ?_
        refine WC_T rfl ?_
        refine WC_ret ?_
        refine WQ_ret rfl rfl .nil rfl (by
            first | exact ⟨_, .inr ⟨_, hJ2⟩, rfl⟩ | (rw [show i + 1 = p.tries.toNat from (by omega)] at hJ; exact ⟨_, .inl hJ, rfl⟩)) (by repeat (first | exact Pulls.nil | exact Pulls.all | (apply Pulls.cons; (repeat (first | exact Pull.head | apply Pull.tail))) | apply Pulls.skip))
    · refine WC_exit ?_
      refine WQ_ret rfl rfl .nil rfl (by
          first | exact ⟨_, .inr ⟨_, hJ2⟩, rfl⟩ | (rw [show i + 1 = p.tries.toNat from (by omega)] at hJ; exact ⟨_, .inl hJ, rfl⟩)) (by repeat (first | exact Pulls.nil | exact Pulls.all | (apply Pulls.cons; (repeat (first | exact Pull.head | apply Pull.tail))) | apply Pulls.skip))
  · refine WL_val rfl rfl rfl (R_not rfl rfl) ?_
    refine WL_nil ?_
    refine WQ_code ?_
    refine WC_T rfl ?_
    refine WC_ret ?_
    refine WQ_ret rfl rfl .nil rfl (by
        first | exact ⟨_, .inr ⟨_, hJ2⟩, rfl⟩ | (rw [show i + 1 = p.tries.toNat from (by omega)] at hJ; exact ⟨_, .inl hJ, rfl⟩)) (by repeat (first | exact Pulls.nil | exact Pulls.all | (apply Pulls.cons; (repeat (first | exact Pull.head | apply Pull.tail))) | apply Pulls.skip))

end Go.Proofs.Ytafjfllcebdjdaa
