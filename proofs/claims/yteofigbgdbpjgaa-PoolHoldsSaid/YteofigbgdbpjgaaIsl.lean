/-
  Chapter 46 (pool), part Isl: contracts of functions that the laws call, each for the heap it names.
-/
import Derived.Test.YteofigbgdbpjgaaRows
import Derived.Test.YteofigbgdbpjgaaZB
import Derived.Test.YteofigbgdbpjgaaSLMapJ
import Derived.Test.YteofigbgdbpjgaaSLScope
import Derived.Test.YteofigbgdbpjgaaTab
import Derived.Test.YteofigbgdbpjgaaIslL
import Derived.Test.YteofigbgdbpjgaaCmp
import Derived.Test.YteofigbgdbpjgaaSLSliceB
set_option linter.unusedVariables false
set_option maxRecDepth 20000
set_option maxHeartbeats 1000000
namespace Go.Proofs.Yteofigbgdbpjgaa


theorem delf_none (l : List Int) (o : Option Nat) (c : Nat) (tl : List Value) (own : Own o l.length c 1 (ivs l) tl) (gf : Nat) (ca : List Value) (Hc : Heap) (p : Int → Bool) (hf : ∀ v ∈ l, Spec Try.prog gf (.int .i64 v :: ca) Hc (fun r H' => r = .bool (p v) ∧ Hc = H')) (hb : l.length ≤ 1000000) (hn : ∀ v ∈ l, p v = false) : Spec Try.prog 46 [slV o l.length c, .func (.func gf) #[] ca.toArray] (⟨o, cl (ivs l ++ tl) 3⟩ :: Hc) (fun r H' => ∃ (n2 : Nat) (tl2 : List Value), n2 = (l.filter (fun v => !p v)).length ∧ r = slV o n2 c ∧ Own o n2 c 1 (ivs (l.filter (fun v => !p v))) tl2 ∧ H' = ⟨o, cl (ivs (l.filter (fun v => !p v)) ++ tl2) 3⟩ :: Hc) := by
  have hidx := idxF_none hn
  have hfl : l.filter (fun v => !p v) = l := List.filter_eq_self.2 fun v hv => by rw [hn v hv]; rfl
  rw [hfl]
  refine Spec.of (E := [(0, slV o l.length c), (1, .func (.func gf) #[] ca.toArray)]) Try.func46 rfl (by kernel_rfl) Try.ntmps46 rfl rfl (fun w => ?_)
  refine WC_seq ?_
  refine WC_region ?_
  refine WL_val rfl rfl rfl (R_assign rfl rfl) ?_
  refine WL_nil ?_
  refine WQ_code ?_
  refine WC_seq ?_
  refine WC_region ?_
  refine WL_val rfl rfl rfl (R_move rfl rfl) ?_
  refine WL_val rfl rfl rfl (R_move rfl rfl) ?_
  refine WL_do rfl rfl rfl (D_call (idxf_ok l o c tl own gf ca Hc p hf hb) rfl rfl rfl rfl (pqY)) ?_
  rintro _ _ ⟨_, ⟨rfl, rfl⟩, rfl⟩
  refine WL_val rfl rfl rfl (R_assign rfl rfl) ?_
  refine WL_nil ?_
  refine WQ_code ?_
  refine WC_seq ?_
  refine WC_seq ?_
  refine WC_region ?_
  refine WL_val rfl rfl rfl (R_move rfl rfl) ?_
  refine WL_val rfl rfl rfl (R_eql rfl rfl rfl) ?_
  refine WL_nil ?_
  refine WQ_code ?_
  refine WC_dT rfl (by exact hidx) ?_
  refine WC_seq ?_
  refine WC_region ?_
  refine WL_val rfl rfl rfl (R_move rfl rfl) ?_
  refine WL_val rfl rfl rfl (R_assign rfl rfl) ?_
  refine WL_nil ?_
  refine WQ_code ?_
  refine WC_ret ?_
  refine WQ_ret rfl rfl (.cons (.tmp rfl) .nil) rfl (by
      exact ⟨_, tl, rfl, rfl, own, rfl⟩) (pqY)
theorem delf_some (l : List Int) (o : Option Nat) (c : Nat) (tl : List Value) (own : Own o l.length c 1 (ivs l) tl) (gf : Nat) (ca : List Value) (Hc : Heap) (p : Int → Bool) (hf : ∀ v ∈ l, Spec Try.prog gf (.int .i64 v :: ca) Hc (fun r H' => r = .bool (p v) ∧ Hc = H')) (hb : l.length ≤ 1000000) {k : Nat} {x0 : Int} (h0 : ∀ v ∈ l.take k, p v = false) (hx0 : l[k]? = some x0) (hp0 : p x0 = true) : Spec Try.prog 46 [slV o l.length c, .func (.func gf) #[] ca.toArray] (⟨o, cl (ivs l ++ tl) 3⟩ :: Hc) (fun r H' => ∃ (n2 : Nat) (tl2 : List Value), n2 = (l.filter (fun v => !p v)).length ∧ r = slV o n2 c ∧ Own o n2 c 1 (ivs (l.filter (fun v => !p v))) tl2 ∧ H' = ⟨o, cl (ivs (l.filter (fun v => !p v)) ++ tl2) 3⟩ :: Hc) := by
  have hidx := idxF_hit h0 hx0 hp0
  have hkl := (List.getElem?_eq_some_iff.1 hx0).1
  have hlc := own.le
  obtain ⟨wa, rfl⟩ := own.some_of (by omega)
  have hfk : l.take k = (l.take (k + 1)).filter (fun v => !p v) := by rw [flt_next hx0, if_pos hp0, List.append_nil]; exact (List.filter_eq_self.2 fun v hv => by rw [h0 v hv]; rfl).symm
  have hstart : l = l.take k ++ ([x0] ++ l.drop (k + 1)) := by rw [List.singleton_append, ← drop_at hx0, List.take_append_drop]
  refine Spec.of (E := [(0, slV (some wa) l.length c), (1, .func (.func gf) #[] ca.toArray)]) Try.func46 rfl (by kernel_rfl) Try.ntmps46 rfl rfl (fun w => ?_)
  refine WC_seq ?_
  refine WC_region ?_
  refine WL_val rfl rfl rfl (R_assign rfl rfl) ?_
  refine WL_nil ?_
  refine WQ_code ?_
  refine WC_seq ?_
  refine WC_region ?_
  refine WL_val rfl rfl rfl (R_move rfl rfl) ?_
  refine WL_val rfl rfl rfl (R_move rfl rfl) ?_
  refine WL_do rfl rfl rfl (D_call (idxf_ok l (some wa) c tl own gf ca Hc p hf hb) rfl rfl rfl rfl (pqY)) ?_
  rintro _ _ ⟨_, ⟨rfl, rfl⟩, rfl⟩
  refine WL_val rfl rfl rfl (R_assign rfl rfl) ?_
  refine WL_nil ?_
  refine WQ_code ?_
  refine WC_seq ?_
  refine WC_seq ?_
  refine WC_region ?_
  refine WL_val rfl rfl rfl (R_move rfl rfl) ?_
  refine WL_val rfl rfl rfl (R_eql rfl rfl rfl) ?_
  refine WL_nil ?_
  refine WQ_code ?_
  refine WC_dF rfl (by rw [hidx]; omega) ?_
  refine WC_skip ?_
  refine WQ_code ?_
  refine WC_seq ?_
  refine WC_seq ?_
  refine WC_region ?_
  refine WL_val rfl rfl rfl (R_move rfl rfl) ?_
  refine WL_val rfl rfl rfl (R_add rfl rfl rfl (by omega)) ?_
  refine WL_val rfl rfl rfl (R_assign rfl rfl) ?_
  refine WL_nil ?_
  refine WQ_code ?_
  refine WC_block ?_
  refine WC_set (s := 6) (v := .int .i64 ((k + 1 : Nat) : Int)) rfl (by rw [hidx]; rfl) ?_
  refine WC_set (s := 5) (v := .int .i64 (((l.take k).length : Nat) : Int)) rfl (by rw [hidx, List.length_take, Nat.min_eq_left (by omega)]) ?_
  rw [show cl (ivs l ++ tl) 3 = cl (ivs (l.take k ++ ([x0] ++ l.drop (k + 1))) ++ tl) 3 from by rw [← hstart]]
  refine WC_loopF (G := DelW) [5, 6, 7, 16, 17, 18, 19, 20, 21, 22, 23, 24, 25, 26, 27, 28, 29, 30, 31, 32, 33, 34, 35] (fun y => y.j ≤ l.length ∧ y.A = (l.take y.j).filter (fun v => !p v) ∧ y.A.length + y.J.length = y.j ∧ 1 ≤ y.J.length) (fun y => [(6, .int .i64 (y.j : Int)), (5, .int .i64 (y.A.length : Int))]) (fun y => [⟨some wa, cl (ivs (y.A ++ (y.J ++ l.drop y.j)) ++ tl) 3⟩]) (fun y => l.length - y.j) (⟨k + 1, l.take k, [x0]⟩) (⟨by dsimp only; omega, hfk, by dsimp only; rw [List.length_take, Nat.min_eq_left (by omega)]; rfl, Nat.le_refl _⟩) leZ (pqY) ?_
  rintro y ⟨hj, hA, hAJ, hJ⟩
  refine WC_seq ?_
  refine WC_seq ?_
  refine WC_region ?_
  refine WL_val rfl rfl rfl (R_move rfl rfl) ?_
  refine WL_val rfl rfl rfl (R_move rfl rfl) ?_
  refine WL_val rfl rfl rfl (R_len rfl Try.underlying78 rfl) ?_
  refine WL_val rfl rfl rfl (R_lss rfl rfl rfl) ?_
  refine WL_nil ?_
  refine WQ_code ?_
  refine WC_dec rfl (fun c1 => ?_) (fun c1 => ?_)
  · refine WC_skip ?_
    refine WQ_code ?_
    refine WC_seq ?_
    refine WC_block ?_
    refine WC_seq ?_
    refine WC_region ?_
    obtain ⟨x, hx⟩ := getE (T := l) (i := y.j) (by omega)
    have hdx := drop_at hx
    have hxm : (y.A ++ (y.J ++ l.drop y.j))[y.j]? = some x := by rw [hdx]; exact mid_get hAJ
    refine WL_val rfl rfl rfl (R_move rfl rfl) ?_
    refine WL_val rfl rfl rfl (R_move rfl rfl) ?_
    refine WL_val rfl rfl rfl (R_indexAddrN rfl Try.underlying78 Try.sizeOf3 rfl rfl (by omega)) ?_
    refine WL_val rfl rfl rfl (R_load (v := .int .i64 x) rfl sc3 rfl (mmY) (fm_get0 encI1 hxm (j := 0) (by omega))) ?_
    refine WL_val rfl rfl rfl (R_assign rfl rfl) ?_
    refine WL_nil ?_
    refine WQ_code ?_
    refine WC_seq ?_
    refine WC_region ?_
    refine WL_val rfl rfl rfl (R_move rfl rfl) ?_
    refine WL_val rfl rfl rfl (R_move rfl rfl) ?_
    refine WL_do rfl rfl rfl (D_call (hf x (List.mem_of_getElem? hx)) rfl rfl rfl rfl (pqY)) ?_
    rintro _ _ ⟨_, ⟨rfl, rfl⟩, rfl⟩
    refine WL_val rfl rfl rfl (R_not rfl rfl) ?_
    refine WL_nil ?_
    refine WQ_code ?_
    refine WC_if rfl (fun c2 => ?_) (fun c2 => ?_)
    · have hc : p x = false := by simpa using c2
      obtain ⟨y9, J2, hJ2⟩ : ∃ a b, y.J = a :: b := by cases hq : y.J with | nil => rw [hq] at hJ; simp at hJ | cons a b => exact ⟨a, b, rfl⟩
      have hset : (y.A ++ (y.J ++ l.drop y.j)).set y.A.length x = (y.A ++ [x]) ++ ((J2 ++ [x]) ++ l.drop (y.j + 1)) := by rw [hJ2, mid_set, hdx]; simp
      refine WC_seq ?_
      refine WC_region ?_
      refine WL_val rfl rfl rfl (R_move rfl rfl) ?_
      refine WL_val rfl rfl rfl (R_move rfl rfl) ?_
      refine WL_val rfl rfl rfl (R_move rfl rfl) ?_
      refine WL_val rfl rfl rfl (R_indexAddrN rfl Try.underlying78 Try.sizeOf3 rfl rfl (by omega)) ?_
      refine WL_do0 rfl rfl (D_store (vs := [_]) rfl Try.sizeOf3 rfl rfl rfl rfl rfl (plY) (by exact fm_room0 encI1 (show y.A.length < (y.A ++ (y.J ++ l.drop y.j)).length by rw [List.length_append, List.length_append]; omega) (j := 0) (by omega))) ?_
      rintro _ _ rfl
      have hput := fm_put0 encI1 x (show (y.A ++ (y.J ++ l.drop y.j))[y.A.length]? = some y9 by rw [hJ2]; exact mid_at) (j := 0) (vs := [.int .i64 x]) (by simp) rfl (tl := tl)
      rw [Nat.add_zero] at hput
      rw [show ivs (y.A ++ (y.J ++ l.drop y.j)) = (y.A ++ (y.J ++ l.drop y.j)).flatMap encI from rfl, hput]
      refine WL_nil ?_
      refine WQ_code ?_
      refine WC_region ?_
      refine WL_val rfl rfl rfl (R_move rfl rfl) ?_
      refine WL_val rfl rfl rfl (R_add rfl rfl rfl (by omega)) ?_
      refine WL_set (s := 35) (v := .int .i64 (((y.A ++ [x]).length : Nat) : Int)) rfl (by rw [List.length_append]; rfl) ?_
      refine WL_val rfl rfl rfl (R_assign rfl rfl) ?_
      refine WL_nil ?_
      refine WQ_code ?_
      refine WC_region ?_
      refine WL_val rfl rfl rfl (R_move rfl rfl) ?_
      refine WL_val rfl rfl rfl (R_add rfl rfl rfl (by omega)) ?_
      refine WL_val rfl rfl rfl (R_assign rfl rfl) ?_
      refine WL_nil ?_
      rw [hset]
      refine WQ_nextF (⟨y.j + 1, y.A ++ [x], J2 ++ [x]⟩) (⟨by dsimp only; omega, by dsimp only; rw [flt_next hx, if_neg (by rw [hc]; decide), ← hA], by dsimp only; rw [List.length_append, List.length_append]; simp only [List.length_cons, List.length_nil]; rw [hJ2] at hAJ; rw [List.length_cons] at hAJ; omega, by dsimp only; rw [List.length_append]; simp⟩) (by dsimp only; omega) leZ (psZ) rfl (pqY)
    · have hc : p x = true := by simpa using c2
      refine WC_skip ?_
      refine WQ_code ?_
      refine WC_region ?_
      refine WL_val rfl rfl rfl (R_move rfl rfl) ?_
      refine WL_val rfl rfl rfl (R_add rfl rfl rfl (by omega)) ?_
      refine WL_val rfl rfl rfl (R_assign rfl rfl) ?_
      refine WL_nil ?_
      rw [show y.A ++ (y.J ++ l.drop y.j) = y.A ++ ((y.J ++ [x]) ++ l.drop (y.j + 1)) from by rw [hdx]; simp]
      refine WQ_nextF (⟨y.j + 1, y.A, y.J ++ [x]⟩) (⟨by dsimp only; omega, by dsimp only; rw [flt_next hx, if_pos hc, List.append_nil]; exact hA, by dsimp only; rw [List.length_append]; simp only [List.length_cons, List.length_nil]; omega, by dsimp only; rw [List.length_append]; omega⟩) (by dsimp only; omega) leZ (psZ) rfl (pqY)
  · have hjl : y.j = l.length := by omega
    have hdl : l.drop y.j = [] := by rw [hjl, List.drop_length]
    refine WC_exit ?_
    refine WQ_code ?_
    refine WC_seq ?_
    refine WC_region ?_
    refine WL_val rfl rfl rfl (R_move rfl rfl) ?_
    refine WL_val rfl rfl rfl (R_move rfl rfl) ?_
    refine WL_val rfl rfl rfl (R_sliceFromK (m := y.A.length) rfl Try.underlying78 Try.sizeOf3 rfl rfl (by omega)) ?_
    rw [if_neg (by omega)]
    refine WL_do0 rfl rfl (D_clear rfl si78 (fun v hv => by simp at hv; subst hv; rfl) rfl plY (.inr (by rw [hdl, List.append_nil]; (show _ ≤ (ivs (y.A ++ y.J) ++ tl).length); rw [List.length_append, ivs_len, List.length_append]; omega))) ?_
    rintro _ _ ⟨ns, hns, rfl⟩
    rw [hdl, List.append_nil, show putAt (ivs (y.A ++ y.J) ++ tl) (0 + y.A.length * 1) ns = ivs y.A ++ (ns ++ tl) from by rw [show ivs (y.A ++ y.J) = ivs y.A ++ ivs y.J from List.flatMap_append, List.append_assoc, show 0 + y.A.length * 1 = (ivs y.A).length + 0 from by rw [ivs_len]; omega, putAt_append, putAt_eq _ _ _ (by rw [List.length_append, ivs_len]; omega)]; rw [List.take_zero, List.nil_append, Nat.zero_add, List.drop_append_of_le_length (by rw [ivs_len]; omega), List.drop_of_length_le (by rw [ivs_len]; omega), List.nil_append]]
    refine WL_nil ?_
    refine WQ_code ?_
    refine WC_seq ?_
    refine WC_region ?_
    refine WL_val rfl rfl rfl (R_move rfl rfl) ?_
    refine WL_val rfl rfl rfl (R_move rfl rfl) ?_
    refine WL_val rfl rfl rfl (R_sliceTo (m := y.A.length) rfl Try.underlying78 Try.sizeOf3 rfl rfl (by omega)) ?_
    refine WL_val rfl rfl rfl (R_assign rfl rfl) ?_
    refine WL_nil ?_
    refine WQ_code ?_
    refine WC_ret ?_
    rw [hjl, List.take_length] at hA
    rw [← hA]
    refine WQ_ret rfl rfl (.cons (.tmp rfl) .nil) rfl (by
        exact ⟨y.A.length, ns ++ tl, rfl, rfl, ⟨by rw [ivs_len]; omega, by have h8 := own.cap; rw [ivs_len] at h8 ⊢; rw [List.length_append]; omega, by omega, own.big, fun e => by cases e⟩, rfl⟩) (pqY)
theorem delf_ok (l : List Int) (o : Option Nat) (c : Nat) (tl : List Value) (own : Own o l.length c 1 (ivs l) tl) (gf : Nat) (ca : List Value) (Hc : Heap) (p : Int → Bool) (hf : ∀ v ∈ l, Spec Try.prog gf (.int .i64 v :: ca) Hc (fun r H' => r = .bool (p v) ∧ Hc = H')) (hb : l.length ≤ 1000000) : Spec Try.prog 46 [slV o l.length c, .func (.func gf) #[] ca.toArray] (⟨o, cl (ivs l ++ tl) 3⟩ :: Hc) (fun r H' => ∃ (n2 : Nat) (tl2 : List Value), n2 = (l.filter (fun v => !p v)).length ∧ r = slV o n2 c ∧ Own o n2 c 1 (ivs (l.filter (fun v => !p v))) tl2 ∧ H' = ⟨o, cl (ivs (l.filter (fun v => !p v)) ++ tl2) 3⟩ :: Hc) := by
  by_cases hn : ∀ v ∈ l, p v = false
  · exact delf_none l o c tl own gf ca Hc p hf hb hn
  · have key : ∀ (l : List Int), ¬ (∀ v ∈ l, p v = false) → ∃ k x0, (∀ v ∈ l.take k, p v = false) ∧ l[k]? = some x0 ∧ p x0 = true := by
      intro l
      induction l with
      | nil => intro h; exact absurd (fun v hv => by cases hv) h
      | cons a r ih =>
        intro h
        cases hp : p a with
        | true => exact ⟨0, a, fun v hv => by simp at hv, rfl, hp⟩
        | false =>
          obtain ⟨k, x0, h1, h2, h3⟩ := ih fun hr => h fun v hv => by
            rcases List.mem_cons.1 hv with rfl | hv
            · exact hp
            · exact hr v hv
          refine ⟨k + 1, x0, fun v hv => ?_, by simpa using h2, h3⟩
          rw [List.take_succ_cons] at hv
          rcases List.mem_cons.1 hv with rfl | hv
          · exact hp
          · exact h1 v hv
    obtain ⟨k, x0, h1, h2, h3⟩ := key l hn
    exact delf_some l o c tl own gf ca Hc p hf hb h1 h2 h3

end Go.Proofs.Yteofigbgdbpjgaa
