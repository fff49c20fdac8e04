/-
  Chapter 09 (park), part TaskC: contracts of functions that the laws call, each for the heap it names.
-/
import Derived.Test.YtljmeemgjbcgeaaRows
import Derived.Test.YtljmeemgjbcgeaaZSLQueue
import Derived.Test.YtljmeemgjbcgeaaTab
import Derived.Test.YtljmeemgjbcgeaaTaskF
set_option linter.unusedVariables false
set_option maxRecDepth 20000
set_option maxHeartbeats 1000000
namespace Go.Proofs.Ytljmeemgjbcgeaa


abbrev encI (x : Int) : List Value := [.int .i64 x]
abbrev ivs (l : List Int) : List Value := l.flatMap encI
theorem encI1 (x : Int) : (encI x).length = 1 := rfl
theorem state_nil (i : Int) : Spec Try.prog 42 [.pointer none, .int .i64 i] [] (fun r H' => r = .tuple #[.int .i64 0, .int .i64 1] ∧ H' = []) := by
  refine Spec.of (E := [(0, .pointer none), (1, .int .i64 i)]) Try.func42 rfl (by kernel_rfl) Try.ntmps42 rfl rfl (fun w => ?_)
  refine WC_seq ?_
  refine WC_region ?_
  refine WL_val rfl rfl rfl (R_assign rfl rfl) ?_
  refine WL_val rfl rfl rfl (R_assign rfl rfl) ?_
  refine WL_nil ?_
  refine WQ_code ?_
  refine WC_seq ?_
  refine WC_seq ?_
  refine WC_region ?_
  refine WL_val rfl rfl rfl (R_move rfl rfl) ?_
  refine WL_val rfl rfl rfl (R_move rfl rfl) ?_
  refine WL_do rfl rfl rfl (D_call (check_nil i) rfl rfl rfl rfl (pqZ)) ?_
  rintro _ _ ⟨_, ⟨rfl, rfl⟩, rfl⟩
  refine WL_val rfl rfl rfl (R_assign rfl rfl) ?_
  refine WL_nil ?_
  refine WQ_code ?_
  refine WC_seq ?_
  refine WC_region ?_
  refine WL_val rfl rfl rfl (R_move rfl rfl) ?_
  refine WL_val rfl rfl rfl (R_neq rfl rfl rfl) ?_
  refine WL_nil ?_
  refine WQ_code ?_
  refine WC_dT rfl (by simp) ?_
  refine WC_seq ?_
  refine WC_region ?_
  refine WL_val rfl rfl rfl (R_move rfl rfl) ?_
  refine WL_val rfl rfl rfl (R_assign rfl rfl) ?_
  refine WL_val rfl rfl rfl (R_assign rfl rfl) ?_
  refine WL_nil ?_
  refine WQ_code ?_
  refine WC_ret ?_
  refine WQ_ret rfl rfl (.cons (.tmp rfl) (.cons (.tmp rfl) .nil)) rfl (by
      exact ⟨rfl, rfl⟩) (pqZ)
theorem state_zero (p : Nat) (i : Int) : Spec Try.prog 42 [ptrQ p, .int .i64 i] [⟨some p, cl [.slice none 0 0, .pointer none] 107⟩] (fun r H' => r = .tuple #[.int .i64 0, .int .i64 1] ∧ H' = [⟨some p, cl [.slice none 0 0, .pointer none] 107⟩]) := by
  refine Spec.of (E := [(0, ptrQ p), (1, .int .i64 i)]) Try.func42 rfl (by kernel_rfl) Try.ntmps42 rfl rfl (fun w => ?_)
  refine WC_seq ?_
  refine WC_region ?_
  refine WL_val rfl rfl rfl (R_assign rfl rfl) ?_
  refine WL_val rfl rfl rfl (R_assign rfl rfl) ?_
  refine WL_nil ?_
  refine WQ_code ?_
  refine WC_seq ?_
  refine WC_seq ?_
  refine WC_region ?_
  refine WL_val rfl rfl rfl (R_move rfl rfl) ?_
  refine WL_val rfl rfl rfl (R_move rfl rfl) ?_
  refine WL_do rfl rfl rfl (D_call (check_zero p i) rfl rfl rfl rfl (pqZ)) ?_
  rintro _ _ ⟨_, ⟨rfl, rfl⟩, rfl⟩
  refine WL_val rfl rfl rfl (R_assign rfl rfl) ?_
  refine WL_nil ?_
  refine WQ_code ?_
  refine WC_seq ?_
  refine WC_region ?_
  refine WL_val rfl rfl rfl (R_move rfl rfl) ?_
  refine WL_val rfl rfl rfl (R_neq rfl rfl rfl) ?_
  refine WL_nil ?_
  refine WQ_code ?_
  refine WC_dT rfl (by simp) ?_
  refine WC_seq ?_
  refine WC_region ?_
  refine WL_val rfl rfl rfl (R_move rfl rfl) ?_
  refine WL_val rfl rfl rfl (R_assign rfl rfl) ?_
  refine WL_val rfl rfl rfl (R_assign rfl rfl) ?_
  refine WL_nil ?_
  refine WQ_code ?_
  refine WC_ret ?_
  refine WQ_ret rfl rfl (.cons (.tmp rfl) (.cons (.tmp rfl) .nil)) rfl (by
      exact ⟨rfl, rfl⟩) (pqZ)
theorem state_ok (p pe pq : Nat) (S : List (Int × Nat)) (c : Nat) (tl : List Value) (hl : S.length ≤ 64) (i : Int) : Spec Try.prog 42 [ptrQ p, .int .i64 i] (tR p pe pq S c tl)
    (fun r H' => ∃ s e, r = .tuple #[.int .i64 s, .int .i64 e] ∧ H' = tR p pe pq S c tl ∧ (((i < 0 ∨ (S.length : Int) ≤ i) ∧ s = 0 ∧ e = 2) ∨ ∃ (j : Nat) (t : Nat), i = (j : Int) ∧ S[j]? = some (s, t) ∧ e = 0)) := by
  refine Spec.of (E := [(0, ptrQ p), (1, .int .i64 i)]) Try.func42 rfl (by kernel_rfl) Try.ntmps42 rfl rfl (fun w => ?_)
  refine WC_seq ?_
  refine WC_region ?_
  refine WL_val rfl rfl rfl (R_assign rfl rfl) ?_
  refine WL_val rfl rfl rfl (R_assign rfl rfl) ?_
  refine WL_nil ?_
  refine WQ_code ?_
  refine WC_seq ?_
  refine WC_seq ?_
  refine WC_region ?_
  refine WL_val rfl rfl rfl (R_move rfl rfl) ?_
  refine WL_val rfl rfl rfl (R_move rfl rfl) ?_
  refine WL_do rfl rfl rfl (D_call (check_ok p pe pq S c tl i) rfl rfl rfl rfl (pqZ)) ?_
  rintro _ _ ⟨_, ⟨rfl, rfl⟩, rfl⟩
  refine WL_val rfl rfl rfl (R_assign rfl rfl) ?_
  refine WL_nil ?_
  refine WQ_code ?_
  refine WC_seq ?_
  refine WC_region ?_
  refine WL_val rfl rfl rfl (R_move rfl rfl) ?_
  refine WL_val rfl rfl rfl (R_neq rfl rfl rfl) ?_
  refine WL_nil ?_
  refine WQ_code ?_
  refine WC_dec rfl (fun c1 => ?_) (fun c1 => ?_)
  · have hr : i < 0 ∨ (S.length : Int) ≤ i := by by_cases h9 : i < 0 ∨ (S.length : Int) ≤ i; exact h9; exact absurd (if_neg h9) c1
    refine WC_seq ?_
    refine WC_region ?_
    refine WL_val rfl rfl rfl (R_move rfl rfl) ?_
    refine WL_val rfl rfl rfl (R_assign rfl rfl) ?_
    refine WL_val rfl rfl rfl (R_assign rfl rfl) ?_
    refine WL_nil ?_
    refine WQ_code ?_
    refine WC_ret ?_
    refine WQ_ret rfl rfl (.cons (.tmp rfl) (.cons (.tmp rfl) .nil)) rfl (by
        exact ⟨_, _, rfl, rfl, .inl ⟨hr, rfl, if_pos hr⟩⟩) (pqZ)
  · have hr : ¬ (i < 0 ∨ (S.length : Int) ≤ i) := fun h9 => c1 (by rw [if_pos h9]; decide)
    obtain ⟨i, rfl⟩ := Int.eq_ofNat_of_zero_le (show 0 ≤ i by omega)
    obtain ⟨⟨x, t⟩, hi⟩ := exE (T := S) (i := i) (by omega)
    refine WC_skip ?_
    refine WQ_code ?_
    refine WC_seq ?_
    refine WC_region ?_
    refine WL_val rfl rfl rfl (R_move rfl rfl) ?_
    refine WL_val rfl rfl rfl (R_nilCheck rfl rfl) ?_
    refine WL_val rfl rfl rfl (R_fieldAddr rfl fa107_0 rfl) ?_
    refine WL_val rfl rfl rfl (R_load rfl sc105 rfl (mmZ) rfl) ?_
    refine WL_val rfl rfl rfl (R_move rfl rfl) ?_
    refine WL_val rfl rfl rfl (R_indexAddrN rfl Try.underlying105 Try.sizeOf120 rfl rfl (by omega)) ?_
    refine WL_val rfl rfl rfl (R_fieldAddr rfl fa120_0 rfl) ?_
    refine WL_val rfl rfl rfl (R_load rfl sc49 rfl (mmZ) (fm_get0 encE2 hi (j := 0) (by omega))) ?_
    refine WL_val rfl rfl rfl (R_assign rfl rfl) ?_
    refine WL_val rfl rfl rfl (R_assign rfl rfl) ?_
    refine WL_nil ?_
    refine WQ_code ?_
    refine WC_ret ?_
    refine WQ_ret rfl rfl (.cons (.tmp rfl) (.cons (.tmp rfl) .nil)) rfl (by
        exact ⟨x, _, rfl, rfl, .inr ⟨i, t, rfl, hi, rfl⟩⟩) (pqZ)
theorem ready_nil : Spec Try.prog 37 [.pointer none] [] (fun r H' => r = .slice none 0 0 ∧ H' = []) := by
  refine Spec.ofM (E := [(0, .pointer none)]) Try.func37 rfl (by kernel_rfl) Try.ntmps37 rfl rfl (fun w => ?_)
  refine WC_seq ?_
  refine WC_region ?_
  refine WL_val rfl rfl rfl (R_assign rfl rfl) ?_
  refine WL_nil ?_
  refine WQ_code ?_
  refine WC_seq ?_
  refine WC_seq ?_
  refine WC_region ?_
  refine WL_val rfl rfl rfl (R_move rfl rfl) ?_
  refine WL_val rfl rfl rfl (R_ptrEqNil rfl Try.underlying65 rfl) ?_
  refine WL_nil ?_
  refine WQ_code ?_
  refine WC_T rfl ?_
  refine WC_seq ?_
  refine WC_region ?_
  refine WL_val rfl rfl rfl (R_assign rfl rfl) ?_
  refine WL_nil ?_
  refine WQ_code ?_
  refine WC_ret ?_
  refine WQ_retM0 rfl rfl (.cons (.tmp rfl) .nil) rfl (by
      exact ⟨rfl, rfl⟩) (pqZ)
theorem ready_zero (p : Nat) : Spec Try.prog 37 [ptrQ p] [⟨some p, cl [.slice none 0 0, .pointer none] 107⟩] (fun r H' => r = .slice none 0 0 ∧ H' = [⟨some p, cl [.slice none 0 0, .pointer none] 107⟩]) := by
  refine Spec.ofM (E := [(0, ptrQ p)]) Try.func37 rfl (by kernel_rfl) Try.ntmps37 rfl rfl (fun w => ?_)
  refine WC_seq ?_
  refine WC_region ?_
  refine WL_val rfl rfl rfl (R_assign rfl rfl) ?_
  refine WL_nil ?_
  refine WQ_code ?_
  refine WC_seq ?_
  refine WC_seq ?_
  refine WC_region ?_
  refine WL_val rfl rfl rfl (R_move rfl rfl) ?_
  refine WL_val rfl rfl rfl (R_ptrEqNil rfl Try.underlying65 rfl) ?_
  refine WL_nil ?_
  refine WQ_code ?_
  refine WC_F rfl ?_
  refine WC_skip ?_
  refine WQ_code ?_
  refine WC_seq ?_
  refine WC_region ?_
  refine WL_do rfl rfl rfl (D_alloc rfl zv32) ?_
  rintro _ _ ⟨b1, rfl, rfl⟩
  refine WL_nil ?_
  refine WQ_code ?_
  refine WC_seq ?_
  refine WC_seq ?_
  refine WC_region ?_
  refine WL_val rfl rfl rfl (R_move rfl rfl) ?_
  refine WL_val rfl rfl rfl (R_nilCheck rfl rfl) ?_
  refine WL_val rfl rfl rfl (R_fieldAddr rfl fa107_1 rfl) ?_
  refine WL_val rfl rfl rfl (R_load rfl sc76 rfl (mmZ) rfl) ?_
  refine WL_do rfl rfl rfl (D_call (qall_nil) rfl rfl rfl rfl (pqZ)) ?_
  rintro _ _ ⟨_, ⟨bc, rfl, rfl⟩, rfl⟩
  refine WL_nil ?_
  refine WQ_code ?_
  refine WC_block ?_
  refine WC_range (G := Unit) (GX := Unit) (qiter_none bc) rfl rfl (fun _ => rfl) rfl (fun pre _ => True) (fun _ => []) (fun _ _ _ => False) (fun _ => []) (()) (trivial) (pqZ) (pqZ) ?_ ?_ ?_
  · intro l pre x suf gg hx hI w2
    simp at hx
  · intro dl gg hI
    refine WQ_code ?_
    refine WC_seq ?_
    refine WC_region ?_
    refine WL_val rfl rfl rfl (R_load rfl sc32 rfl (mmZ) rfl) ?_
    refine WL_val rfl rfl rfl (R_assign rfl rfl) ?_
    refine WL_nil ?_
    refine WQ_code ?_
    refine WC_ret ?_
    refine WQ_retM rfl (plZ) rfl (.cons (.tmp rfl) .nil) rfl (by
        exact ⟨rfl, rfl⟩) (pqZ)
  · intro dl c pre gx hIx
    exact hIx.elim
structure RS where
  l : List Int
  ob : Option Nat
  c : Nat
  tl : List Value
theorem ready_ok (p pe pq pm : Nat) (S : List (Int × Nat)) (c : Nat) (tl : List Value) (Q : List (Nat × Int)) (n : Nat) (es : Array MapEntry) (mc : Nat) (hk : Tk S Q n) (hM : Mp (.int .u64) ekQ evQ es (nds 0 0 Q)) : Spec Try.prog 37 [ptrQ p] (tH p pe pq pm S c tl Q n es mc)
    (fun r H' => ∃ ob c' tl', r = slV ob Q.length c' ∧ Own ob Q.length c' 1 (ivs (Q.map (·.2))) tl' ∧ H' = ⟨ob, cl (ivs (Q.map (·.2)) ++ tl') 3⟩ :: (tH p pe pq pm S c tl Q n es mc)) := by
  have hroom := hk.room
  refine Spec.ofM (E := [(0, ptrQ p)]) Try.func37 rfl (by kernel_rfl) Try.ntmps37 rfl rfl (fun w => ?_)
  refine WC_seq ?_
  refine WC_region ?_
  refine WL_val rfl rfl rfl (R_assign rfl rfl) ?_
  refine WL_nil ?_
  refine WQ_code ?_
  refine WC_seq ?_
  refine WC_seq ?_
  refine WC_region ?_
  refine WL_val rfl rfl rfl (R_move rfl rfl) ?_
  refine WL_val rfl rfl rfl (R_ptrEqNil rfl Try.underlying65 rfl) ?_
  refine WL_nil ?_
  refine WQ_code ?_
  refine WC_F rfl ?_
  refine WC_skip ?_
  refine WQ_code ?_
  refine WC_seq ?_
  refine WC_region ?_
  refine WL_do rfl rfl rfl (D_alloc rfl zv32) ?_
  rintro _ _ ⟨b1, rfl, rfl⟩
  refine WL_nil ?_
  refine WQ_code ?_
  refine WC_seq ?_
  refine WC_seq ?_
  refine WC_region ?_
  refine WL_val rfl rfl rfl (R_move rfl rfl) ?_
  refine WL_val rfl rfl rfl (R_nilCheck rfl rfl) ?_
  refine WL_val rfl rfl rfl (R_fieldAddr rfl fa107_1 rfl) ?_
  refine WL_val rfl rfl rfl (R_load rfl sc76 rfl (mmZ) rfl) ?_
  refine WL_do rfl rfl rfl (D_call (qall_ok pq pm Q n es mc) rfl rfl rfl rfl (pqZ)) ?_
  rintro _ _ ⟨_, ⟨bc, p2, m2, rfl, rfl⟩, rfl⟩
  refine WL_nil ?_
  refine WQ_code ?_
  refine WC_block ?_
  refine WC_none 3 ?_
  refine WC_range (G := RS) (GX := Unit) (qiter_ok bc p2 m2 Q n es mc hk.qk hM) rfl rfl (fun _ => rfl) rfl (fun pre g => g.l = pre.map (·.2) ∧ pre.length ≤ Q.length ∧ Own g.ob g.l.length g.c 1 (ivs g.l) g.tl) (fun g => [⟨some b1, cl [slV g.ob g.l.length g.c] 32⟩, ⟨g.ob, cl (ivs g.l ++ g.tl) 3⟩]) (fun _ _ _ => False) (fun _ => []) (⟨[], none, 0, []⟩) (⟨rfl, Nat.zero_le _, Own.empty 1⟩) (pqZ) (pqZ) ?_ ?_ ?_
  · intro l pre x suf gg hx hI w2
    obtain ⟨hgl, hgn, hown⟩ := hI
    have hlt : pre.length < Q.length := by rw [hx, List.length_append, List.length_cons]; omega
    have hgl2 : gg.l.length = pre.length := by rw [hgl, List.length_map]
    refine WC_region ?_
    refine WL_val rfl rfl rfl (R_assign rfl rfl) ?_
    refine WL_nil ?_
    refine WQ_begin (fun w3 => ?_)
    refine WC_block ?_
    refine WC_region ?_
    refine WL_val rfl rfl rfl (R_load rfl sc32 rfl (mmZ) rfl) ?_
    refine WL_val rfl rfl rfl (R_move rfl rfl) ?_
    refine WL_do rfl rfl rfl (D_buildSlice rfl si32 rfl rfl rfl) ?_
    rintro _ _ ⟨b2, rfl, rfl⟩
    refine WL_do rfl rfl rfl (D_append rfl si32 rfl (hown) (plZ) rfl (mmZ) ((atZ : At _ 0 [_])) (rfl) (rfl) (by omega) (by omega)) ?_
    rintro _ _ ⟨ob3, cap3, tl3, rfl, own3, rfl⟩
    have hsn : ivs gg.l ++ [Value.int .i64 x.2] = ivs (gg.l ++ [x.2]) := by simp
    rw [hsn] at own3 ⊢
    refine WL_do0 rfl rfl (D_store (vs := [_]) rfl Try.sizeOf32 rfl rfl rfl rfl rfl (plZ) (by exact Nat.le_of_ble_eq_true rfl)) ?_
    rintro _ _ rfl
    refine WL_nil ?_
    rw [show gg.l.length + 1 = (gg.l ++ [x.2]).length from by rw [List.length_append, List.length_singleton]]
    refine WQ_rnd (⟨gg.l ++ [x.2], ob3, cap3, tl3⟩) ?_ (pqZ)
    exact (⟨by rw [hgl, List.map_append]; rfl, by rw [List.length_append, List.length_singleton]; omega, by rw [List.length_append, List.length_singleton]; exact own3⟩)
  · intro dl gg hI
    obtain ⟨hgl, hgn, hown⟩ := hI
    have hgl2 : gg.l.length = Q.length := by rw [hgl, List.length_map]
    rw [hgl2, hgl]
    rw [hgl2, hgl] at hown
    refine WQ_code ?_
    refine WC_seq ?_
    refine WC_region ?_
    refine WL_val rfl rfl rfl (R_load rfl sc32 rfl (mmZ) rfl) ?_
    refine WL_val rfl rfl rfl (R_assign rfl rfl) ?_
    refine WL_nil ?_
    refine WQ_code ?_
    refine WC_ret ?_
    refine WQ_retM rfl (plZ) rfl (.cons (.tmp rfl) .nil) rfl (by
        exact ⟨gg.ob, gg.c, gg.tl, rfl, hown, rfl⟩) (pqZ)
  · intro dl c pre gx hIx
    exact hIx.elim
def nxt (Q : List (Nat × Int)) : Int × Int := match Q with
  | [] => (0, 9)
  | (_, v) :: _ => (v, 0)
theorem clone_ok (pe c : Nat) (tl : List Value) (S : List (Int × Nat)) (hl : 1 ≤ S.length ∧ S.length ≤ 64) : Spec Try.prog 70 [.slice (some ⟨pe, 0, none⟩) S.length c] [⟨some pe, cl (S.flatMap encE ++ tl) 120⟩]
    (fun r H' => ∃ b c2 tl2, r = .slice (some ⟨b, 0, none⟩) S.length c2 ∧ H' = [⟨some b, cl (S.flatMap encE ++ tl2) 120⟩, ⟨some pe, cl (S.flatMap encE ++ tl) 120⟩]) := by
  refine Spec.of (E := [(0, .slice (some ⟨pe, 0, none⟩) S.length c)]) Try.func70 rfl (by kernel_rfl) Try.ntmps70 rfl rfl (fun w => ?_)
  refine WC_seq ?_
  refine WC_region ?_
  refine WL_val rfl rfl rfl (R_assign rfl rfl) ?_
  refine WL_nil ?_
  refine WQ_code ?_
  refine WC_seq ?_
  refine WC_seq ?_
  refine WC_region ?_
  refine WL_val rfl rfl rfl (R_move rfl rfl) ?_
  refine WL_val rfl rfl rfl (R_sliceEqNil rfl Try.underlying105 rfl) ?_
  refine WL_nil ?_
  refine WQ_code ?_
  refine WC_F rfl ?_
  refine WC_skip ?_
  refine WQ_code ?_
  refine WC_seq ?_
  refine WC_region ?_
  refine WL_do rfl rfl rfl (D_buildSlice rfl si105 rfl rfl rfl) ?_
  rintro _ _ ⟨b1, rfl, rfl⟩
  refine WL_val rfl rfl rfl (R_move rfl rfl) ?_
  refine WL_do rfl rfl rfl (D_append rfl si105 rfl ((⟨by simp, by simp, by simp, by simp, fun h => by cases h⟩ : Own (some b1) 0 0 2 [] [])) (plZ) rfl (mmZ) ((fun j v hj => by rw [Nat.zero_add, List.getElem?_append_left (List.getElem?_eq_some_iff.1 hj).1]; exact hj : At (S.flatMap encE ++ tl) 0 (S.flatMap encE))) (fm_length encE2 S) (fm_all encE_one S) (by omega) (by omega)) ?_
  rintro _ _ ⟨ob2, cap2, tl2, rfl, own2, rfl⟩
  obtain ⟨b9, rfl⟩ := own2.some_of (by omega)
  rw [show 0 + S.length = S.length from by omega, List.nil_append]
  refine WL_val rfl rfl rfl (R_assign rfl rfl) ?_
  refine WL_nil ?_
  refine WQ_code ?_
  refine WC_ret ?_
  refine WQ_ret rfl rfl (.cons (.tmp rfl) .nil) rfl (by
      exact ⟨b9, cap2, tl2, rfl, rfl⟩) (pqZ)
theorem copy_nil : Spec Try.prog 55 [.pointer none] [] (fun r H' => r = .pointer none ∧ H' = []) := by
  refine Spec.of (E := [(0, .pointer none)]) Try.func55 rfl (by kernel_rfl) Try.ntmps55 rfl rfl (fun w => ?_)
  refine WC_seq ?_
  refine WC_region ?_
  refine WL_val rfl rfl rfl (R_assign rfl rfl) ?_
  refine WL_nil ?_
  refine WQ_code ?_
  refine WC_seq ?_
  refine WC_seq ?_
  refine WC_region ?_
  refine WL_val rfl rfl rfl (R_move rfl rfl) ?_
  refine WL_val rfl rfl rfl (R_ptrEqNil rfl Try.underlying65 rfl) ?_
  refine WL_val rfl rfl rfl (R_move rfl rfl) ?_
  refine WL_skip rfl rfl rfl ?_
  refine WL_skip rfl rfl rfl ?_
  refine WL_skip rfl rfl rfl ?_
  refine WL_skip rfl rfl rfl ?_
  refine WL_skip rfl rfl rfl ?_
  refine WL_val rfl rfl rfl (R_pickT rfl rfl rfl) ?_
  refine WL_nil ?_
  refine WQ_code ?_
  refine WC_T rfl ?_
  refine WC_seq ?_
  refine WC_region ?_
  refine WL_val rfl rfl rfl (R_assign rfl rfl) ?_
  refine WL_nil ?_
  refine WQ_code ?_
  refine WC_ret ?_
  refine WQ_ret rfl rfl (.cons (.tmp rfl) .nil) rfl (by
      exact ⟨rfl, rfl⟩) (pqZ)
theorem copy_zero (p : Nat) : Spec Try.prog 55 [ptrQ p] [⟨some p, cl [.slice none 0 0, .pointer none] 107⟩] (fun r H' => r = .pointer none ∧ H' = [⟨some p, cl [.slice none 0 0, .pointer none] 107⟩]) := by
  refine Spec.of (E := [(0, ptrQ p)]) Try.func55 rfl (by kernel_rfl) Try.ntmps55 rfl rfl (fun w => ?_)
  refine WC_seq ?_
  refine WC_region ?_
  refine WL_val rfl rfl rfl (R_assign rfl rfl) ?_
  refine WL_nil ?_
  refine WQ_code ?_
  refine WC_seq ?_
  refine WC_seq ?_
  refine WC_region ?_
  refine WL_val rfl rfl rfl (R_move rfl rfl) ?_
  refine WL_val rfl rfl rfl (R_ptrEqNil rfl Try.underlying65 rfl) ?_
  refine WL_val rfl rfl rfl (R_move rfl rfl) ?_
  refine WL_val rfl rfl rfl (R_move rfl rfl) ?_
  refine WL_val rfl rfl rfl (R_nilCheck rfl rfl) ?_
  refine WL_val rfl rfl rfl (R_fieldAddr rfl fa107_1 rfl) ?_
  refine WL_val rfl rfl rfl (R_load rfl sc76 rfl (mmZ) rfl) ?_
  refine WL_val rfl rfl rfl (R_ptrEqNil rfl Try.underlying76 rfl) ?_
  refine WL_val rfl rfl rfl (R_pickF rfl rfl rfl) ?_
  refine WL_nil ?_
  refine WQ_code ?_
  refine WC_T rfl ?_
  refine WC_seq ?_
  refine WC_region ?_
  refine WL_val rfl rfl rfl (R_assign rfl rfl) ?_
  refine WL_nil ?_
  refine WQ_code ?_
  refine WC_ret ?_
  refine WQ_ret rfl rfl (.cons (.tmp rfl) .nil) rfl (by
      exact ⟨rfl, rfl⟩) (pqZ)
theorem copy_ok (p pe pq pm : Nat) (S : List (Int × Nat)) (c : Nat) (tl : List Value) (Q : List (Nat × Int)) (n : Nat) (es : Array MapEntry) (mc : Nat) (hl : 1 ≤ S.length ∧ S.length ≤ 64) : Spec Try.prog 55 [ptrQ p] (tH p pe pq pm S c tl Q n es mc) (fun r H' => ∃ p2 pe2 pq2 pm2 c2 tl2, r = ptrQ p2 ∧ H' = tH p2 pe2 pq2 pm2 S c2 tl2 Q n es mc ++ tH p pe pq pm S c tl Q n es mc) := by
  refine Spec.of (E := [(0, ptrQ p)]) Try.func55 rfl (by kernel_rfl) Try.ntmps55 rfl rfl (fun w => ?_)
  refine WC_seq ?_
  refine WC_region ?_
  refine WL_val rfl rfl rfl (R_assign rfl rfl) ?_
  refine WL_nil ?_
  refine WQ_code ?_
  refine WC_seq ?_
  refine WC_seq ?_
  refine WC_region ?_
  refine WL_val rfl rfl rfl (R_move rfl rfl) ?_
  refine WL_val rfl rfl rfl (R_ptrEqNil rfl Try.underlying65 rfl) ?_
  refine WL_val rfl rfl rfl (R_move rfl rfl) ?_
  refine WL_val rfl rfl rfl (R_move rfl rfl) ?_
  refine WL_val rfl rfl rfl (R_nilCheck rfl rfl) ?_
  refine WL_val rfl rfl rfl (R_fieldAddr rfl fa107_1 rfl) ?_
  refine WL_val rfl rfl rfl (R_load rfl sc76 rfl (mmZ) rfl) ?_
  refine WL_val rfl rfl rfl (R_ptrEqNil rfl Try.underlying76 rfl) ?_
  refine WL_val rfl rfl rfl (R_pickF rfl rfl rfl) ?_
  refine WL_nil ?_
  refine WQ_code ?_
  refine WC_F rfl ?_
  refine WC_skip ?_
  refine WQ_code ?_
  refine WC_seq ?_
  refine WC_draw _ [(0, true), (1, true), (2, true), (3, true), (5, true), (6, true), (7, true), (8, true), (4, false), (9, false), (10, true), (11, false), (12, true)] followsMixed rfl rfl (by kernel_rfl) .all ?_
  refine WM_val rfl rfl rfl rfl (R_move rfl rfl) ?_
  refine WM_val rfl rfl rfl rfl (R_nilCheck rfl rfl) ?_
  refine WM_val rfl rfl rfl rfl (R_fieldAddr rfl fa107_0 rfl) ?_
  refine WM_val rfl rfl rfl rfl (R_load rfl sc105 rfl (mmZ) rfl) ?_
  refine WM_val rfl rfl rfl rfl (R_move rfl rfl) ?_
  refine WM_val rfl rfl rfl rfl (R_nilCheck rfl rfl) ?_
  refine WM_val rfl rfl rfl rfl (R_fieldAddr rfl fa107_1 rfl) ?_
  refine WM_val rfl rfl rfl rfl (R_load rfl sc76 rfl (mmZ) rfl) ?_
  refine WM_do rfl rfl rfl rfl (D_call (clone_ok pe c tl S hl) rfl rfl rfl rfl (pqZ)) ?_
  rintro _ _ ⟨_, ⟨pe2, c2, tl2, rfl, rfl⟩, rfl⟩
  refine ⟨⟨_, pqZ⟩, ?_⟩
  refine WM_do rfl rfl rfl rfl (D_call (qcopy_ok pq pm Q n es mc) rfl rfl rfl rfl (pqZ)) ?_
  rintro _ _ ⟨_, ⟨pq2, pm2, rfl, rfl⟩, rfl⟩
  refine ⟨⟨_, pqZ⟩, ?_⟩
  refine WM_val rfl rfl rfl rfl (R_build rfl zv107 pl107 rfl rfl) ?_
  refine WM_do rfl rfl rfl rfl (D_box (cs := [_, _]) rfl rfl rfl) ?_
  rintro _ _ ⟨b1, rfl, rfl⟩
  refine ⟨⟨_, pqZ⟩, ?_⟩
  refine WM_val rfl rfl rfl rfl (R_assign rfl rfl) ?_
  refine WM_nil ?_
  refine WQ_code ?_
  refine WC_ret ?_
  refine WQ_ret rfl rfl (.cons (.tmp rfl) .nil) rfl (by
      exact ⟨_, pe2, pq2, pm2, c2, tl2, rfl, rfl⟩) (pqZ)
theorem same_ok (l : List Int) (hl : l.length ≤ 1000000) (o1 : Option Nat) (c1 : Nat) (t1 : List Value) (o2 : Option Nat) (c2 : Nat) (t2 : List Value) (h1 : Own o1 l.length c1 1 (ivs l) t1) (h2 : Own o2 l.length c2 1 (ivs l) t2) :
    Spec Try.prog 17 [slV o1 l.length c1, slV o2 l.length c2] [⟨o1, cl (ivs l ++ t1) 3⟩, ⟨o2, cl (ivs l ++ t2) 3⟩] (fun r H' => r = .bool true ∧ H' = [⟨o1, cl (ivs l ++ t1) 3⟩, ⟨o2, cl (ivs l ++ t2) 3⟩]) := by
  refine Spec.of (E := [(0, slV o1 l.length c1), (1, slV o2 l.length c2)]) Try.func17 rfl (by kernel_rfl) Try.ntmps17 rfl rfl (fun w => ?_)
  refine WC_seq ?_
  refine WC_region ?_
  refine WL_val rfl rfl rfl (R_assign rfl rfl) ?_
  refine WL_nil ?_
  refine WQ_code ?_
  refine WC_seq ?_
  refine WC_seq ?_
  refine WC_region ?_
  refine WL_val rfl rfl rfl (R_move rfl rfl) ?_
  refine WL_val rfl rfl rfl (R_len rfl Try.underlying32 rfl) ?_
  refine WL_val rfl rfl rfl (R_move rfl rfl) ?_
  refine WL_val rfl rfl rfl (R_len rfl Try.underlying32 rfl) ?_
  refine WL_val rfl rfl rfl (R_neq rfl rfl rfl) ?_
  refine WL_nil ?_
  refine WQ_code ?_
  refine WC_dF rfl (by simp) ?_
  refine WC_skip ?_
  refine WQ_code ?_
  refine WC_seq ?_
  refine WC_seq ?_
  refine WC_region ?_
  refine WL_val rfl rfl rfl (R_assign rfl rfl) ?_
  refine WL_nil ?_
  refine WQ_code ?_
  refine WC_block ?_
  refine WC_loopF (G := Nat) [4, 5, 11, 12, 13, 14, 15, 16, 17, 18, 19, 20, 21, 22, 23, 24, 25] (fun k => k ≤ l.length) (fun k => [(5, .int .i64 (k : Int))]) (fun k => []) (fun k => l.length - k) (0) (Nat.zero_le _) leZ (pqZ) ?_
  rintro k hk
  refine WC_seq ?_
  refine WC_seq ?_
  refine WC_region ?_
  refine WL_val rfl rfl rfl (R_move rfl rfl) ?_
  refine WL_val rfl rfl rfl (R_move rfl rfl) ?_
  refine WL_val rfl rfl rfl (R_len rfl Try.underlying32 rfl) ?_
  refine WL_val rfl rfl rfl (R_lss rfl rfl rfl) ?_
  refine WL_nil ?_
  refine WQ_code ?_
  refine WC_dec rfl (fun c1 => ?_) (fun c1 => ?_)
  · refine WC_skip ?_
    refine WQ_code ?_
    refine WC_seq ?_
    refine WC_block ?_
    refine WC_seq ?_
    refine WC_draw _ [(0, true), (1, true), (2, true), (3, true), (4, true), (5, true), (6, true), (7, true), (8, true)] followsMixed rfl rfl (by kernel_rfl) .all ?_
    refine WM_val rfl rfl rfl rfl (R_move rfl rfl) ?_
    refine WM_val rfl rfl rfl rfl (R_move rfl rfl) ?_
    obtain ⟨x, hx⟩ := exE (T := l) (i := k) (by omega)
    obtain ⟨wb1, rfl⟩ := h1.some_of (by omega)
    obtain ⟨wb2, rfl⟩ := h2.some_of (by omega)
    refine WM_val rfl rfl rfl rfl (R_indexAddrN rfl Try.underlying32 Try.sizeOf3 rfl rfl (by omega)) ?_
    refine WM_val rfl rfl rfl rfl (R_load (v := .int .i64 x) rfl sc3 rfl (mmZ) (fm_get0 encI1 hx (j := 0) (by omega))) ?_
    refine WM_val rfl rfl rfl rfl (R_move rfl rfl) ?_
    refine WM_val rfl rfl rfl rfl (R_move rfl rfl) ?_
    refine WM_val rfl rfl rfl rfl (R_indexAddrN rfl Try.underlying32 Try.sizeOf3 rfl rfl (by omega)) ?_
    refine WM_val rfl rfl rfl rfl (R_load (v := .int .i64 x) rfl sc3 rfl (mmZ) (fm_get0 encI1 hx (j := 0) (by omega))) ?_
    refine WM_val rfl rfl rfl rfl (R_neq rfl rfl rfl) ?_
    refine WM_nil ?_
    refine WQ_code ?_
    refine WC_dF rfl (by simp) ?_
    refine WC_skip ?_
    refine WQ_code ?_
    refine WC_region ?_
    refine WL_val rfl rfl rfl (R_move rfl rfl) ?_
    refine WL_val rfl rfl rfl (R_add rfl rfl rfl (by omega)) ?_
    refine WL_val rfl rfl rfl (R_assign rfl rfl) ?_
    refine WL_nil ?_
    refine WQ_nextF (k + 1) (by omega) (by omega) leZ (psZ) rfl (pqZ)
  · refine WC_exit ?_
    refine WQ_code ?_
    refine WC_seq ?_
    refine WC_region ?_
    refine WL_val rfl rfl rfl (R_assign rfl rfl) ?_
    refine WL_nil ?_
    refine WQ_code ?_
    refine WC_ret ?_
    refine WQ_ret rfl rfl (.cons (.tmp rfl) .nil) rfl (by
        exact ⟨rfl, rfl⟩) (pqZ)

end Go.Proofs.Ytljmeemgjbcgeaa
