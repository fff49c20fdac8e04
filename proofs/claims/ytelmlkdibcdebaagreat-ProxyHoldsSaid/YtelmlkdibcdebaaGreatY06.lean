/-
 Chapter 49 (proxy), part Few: contracts of functions that the laws call, each for the heap it names.
-/
import Derived.Test.YtelmlkdibcdebaaGreatY05
import Derived.Test.YtelmlkdibcdebaaGreatRows
set_option linter.unusedVariables false
set_option maxRecDepth 20000
set_option maxHeartbeats 16000000
namespace Go.Proofs.YtelmlkdibcdebaaGreat
theorem two_srt {lt : Int → Int → Prop} {A B R : List Int} (hR : R = A ++ B) (h : A = [] ∨ B = []) (pA : A.Pairwise lt) (pB : B.Pairwise lt) : R.Pairwise lt := by
 rcases h with h | h <;> subst h <;> subst hR
 ·exact pB
 ·rw [List.append_nil]; exact pA
theorem sym_G (wa c : Nat) (tl : List Value) (gf : Nat) (ca : List Value) (Hc : Heap) (cf : Int → Int → Int) (lt : Int → Int → Prop) (ho : Sto lt) (N : Nat) (ih : ∀ (X A B Y : List Int) (n : Nat) (hn : X.length + A.length + B.length + Y.length = n) (hn2 : n ≤ 1000000) (hA1 : 1 ≤ A.length) (hB1 : 1 ≤ B.length) (pA : A.Pairwise lt) (pB : B.Pairwise lt) (hcr : CRel cf lt A B) (hf : ∀ a ∈ A, ∀ b ∈ B, Spec Tryz.prog gf (.int .i64 b :: .int .i64 a :: ca) Hc (fun r H' => r = .int .i64 (cf b a) ∧ Hc = H')) (a m b : Nat) (ha : a = X.length) (hm : m = a + A.length) (hb : b = m + B.length) (hN : A.length + B.length ≤ N), Spec Tryz.prog 172 [slV (some wa) n c, .int .i64 (a : Int), .int .i64 (m : Int), .int .i64 (b : Int), .func (.func gf) #[] ca.toArray] (⟨some wa, cl (ivs (X ++ (A ++ (B ++ Y))) ++ tl) 3⟩ :: Hc) (fun r H' => ∃ R, r = .tuple #[] ∧ R.Perm (A ++ B) ∧ R.Pairwise lt ∧ H' = ⟨some wa, cl (ivs (X ++ (R ++ Y)) ++ tl) 3⟩ :: Hc)) (X A B Y : List Int) (n : Nat) (hn : X.length + A.length + B.length + Y.length = n) (hn2 : n ≤ 1000000) (hA1 : 1 ≤ A.length) (hB1 : 1 ≤ B.length) (pA : A.Pairwise lt) (pB : B.Pairwise lt) (hcr : CRel cf lt A B) (hf : ∀ a ∈ A, ∀ b ∈ B, Spec Tryz.prog gf (.int .i64 b :: .int .i64 a :: ca) Hc (fun r H' => r = .int .i64 (cf b a) ∧ Hc = H')) (a m b : Nat) (ha : a = X.length) (hm : m = a + A.length) (hb : b = m + B.length) (hN : A.length + B.length ≤ N + 1) (h1 : A.length ≠ 1) (h2 : B.length ≠ 1) : Spec Tryz.prog 172 [slV (some wa) n c, .int .i64 (a : Int), .int .i64 (m : Int), .int .i64 (b : Int), .func (.func gf) #[] ca.toArray] (⟨some wa, cl (ivs (X ++ (A ++ (B ++ Y))) ++ tl) 3⟩ :: Hc) (fun r H' => ∃ R, r = .tuple #[] ∧ R.Perm (A ++ B) ∧ R.Pairwise lt ∧ H' = ⟨some wa, cl (ivs (X ++ (R ++ Y)) ++ tl) 3⟩ :: Hc) := by
 refine Spec.of (E := [(0, slV (some wa) n c), (1, .int .i64 (a : Int)), (2, .int .i64 (m : Int)), (3, .int .i64 (b : Int)), (4, .func (.func gf) #[] ca.toArray)]) Tryz.func172 rfl (by kernel_rfl) Tryz.ntmps172 rfl rfl (fun w => ?_)
 refine WC_seq (WCr (WLa Z (WLa Z (WLv Z (R_subR (r := ((m - a : Nat) : Int)) Z Z Z (by rw [wrap64_in (by omega) (by omega)] <;> omega)) ?_))))
 refine WLa Z (WL_nil (WQ_code (WC_dF Z (by omega) ?_)))
 refine WC_skip (WQ_code (WC_seq (WCr (WLa Z (WLa Z (WLv Z (R_subR (r := ((b - m : Nat) : Int)) Z Z Z (by rw [wrap64_in (by omega) (by omega)] <;> omega)) ?_))))))
 refine WLa Z (WL_nil (WQ_code (WC_dF Z (by omega) ?_)))
 refine WC_skip (WQ_code (WCr ?_))
 obtain ⟨mid, hmid⟩ : ∃ q, q = (a + b) / 2 := ⟨_, rfl⟩
 have hmid2 : mid = a + (A.length + B.length) / 2 := by rw [hmid]; exact half_eq hm hb
 refine WLa Z (WLa Z (WLv Z (R_addR (r := ((a + b : Nat) : Int)) Z Z Z (by rw [wrap64_in (by omega) (by omega)] <;> omega)) ?_))
 refine WLv Z (R_conv (r := ((a + b : Nat) : Int)) Z Tryz.underlying3 Tryz.underlying44 Z (by rw [w64 ⟨by omega, by omega⟩])) ?_
 refine WLv Z (R_shrR (r := ((mid : Nat) : Int)) Z Z Z (by omega) (by rw [hmid]; exact shr1 (a + b))) ?_
 refine WLv Z (R_conv (r := ((mid : Nat) : Int)) Z Tryz.underlying44 Tryz.underlying3 Z (by rw [wrap64_in (by omega) (by omega)] <;> omega)) ?_
 refine WLa Z (WL_nil (WQ_code (WCr (WLa Z (WLa Z (WLv Z (R_addR (r := ((mid + m : Nat) : Int)) Z Z Z (by rw [wrap64_in (by omega) (by omega)] <;> omega)) ?_))))))
 refine WLa Z (WL_nil (WQ_code (WCr (WLa Z (WLa Z (WL_nil (WQ_code (WC_seq (WCr (WLa Z (WLa Z (WLa Z (WL_nil (WQ_code ?_))))))))))))))
 refine WC_dec Z (fun c1 => ?_) (fun c1 => ?_)
 ·have h0s : SymI lt A B ((mid + m - b) - a) (mid - a) := by have h9 := SymI.start (lt := lt) hA1 hB1; rw [show symLo A.length B.length = (mid + m - b) - a from by unfold symLo; rw [if_pos (by omega)]; omega, show symHi A.length B.length = mid - a from by unfold symHi; rw [if_pos (by omega)]; omega] at h9; exact h9
  refine WCr (WLa Z (WLa Z (WLv Z (R_subR (r := ((mid + m - b : Nat) : Int)) Z Z Z (by rw [wrap64_in (by omega) (by omega)] <;> omega)) ?_)))
  refine WLa Z (WL_nil (WQ_code (WC_region (WLa Z (WLa Z (WL_nil (WQ_code (WCr (WLa Z (WLv Z (R_subR (r := ((mid + m - 1 : Nat) : Int)) Z Z Z (by rw [wrap64_in (by omega) (by omega)] <;> omega)) ?_))))))))))
  refine WLa Z (WL_nil (WQ_code (WC_seq (WC_block (WC_loopF (G := SeW) [20, 21, 23, 149, 150, 151, 152, 153, 154, 155, 156, 157, 158, 159, 160, 161, 162, 163, 164, 165, 166, 167, 168, 169, 170, 171, 172, 173, 174] (fun y => a ≤ y.i ∧ a ≤ y.j ∧ SymI lt A B (y.i - a) (y.j - a)) (fun y => [(20, .int .i64 (y.i : Int)), (21, .int .i64 (y.j : Int))]) (fun y => []) (fun y => y.j - y.i) (⟨mid + m - b, mid⟩) (⟨by dsimp only; omega, by dsimp only; omega, h0s⟩) leZ pqY ?_)))))
  rintro y ⟨hai, haj, hSy⟩
  have hyj := hSy.hi
  have hyl := hSy.le
  have hjm : y.j ≤ m := by unfold symHi at hyj; split at hyj <;> omega
  refine WC_seq (WCr (WLa Z (WLa Z (WLa Z (WL_nil (WQ_code ?_))))))
  refine WC_dec Z (fun c2 => ?_) (fun c2 => ?_)
  ·refine WC_skip (WQ_code (WC_block (WCr (WLa Z (WLa Z (WLv Z (R_addR (r := ((y.i + y.j : Nat) : Int)) Z Z Z (by rw [wrap64_in (by omega) (by omega)] <;> omega)) ?_))))))
   refine WLv Z (R_conv (r := ((y.i + y.j : Nat) : Int)) Z Tryz.underlying3 Tryz.underlying44 Z (by rw [w64 ⟨by omega, by omega⟩])) ?_
   refine WLv Z (R_shrR (r := (((y.i + y.j) / 2 : Nat) : Int)) Z Z Z (by omega) (shr1 (y.i + y.j))) ?_
   refine WLv Z (R_conv (r := (((y.i + y.j) / 2 : Nat) : Int)) Z Tryz.underlying44 Tryz.underlying3 Z (by rw [wrap64_in (by omega) (by omega)] <;> omega)) ?_
   refine WLa Z (WL_nil (WQ_code (WC_seq (WC_draw _ [(0, true), (1, true), (2, true), (3, true), (4, true), (5, true), (6, true), (7, true), (8, true), (9, true), (10, true), (11, false), (12, true), (13, true)] followsMixed Z Z (by kernel_rfl) .all ?_))))
   have hcc := symLo_lt hA1 hB1 (c := (y.i + y.j) / 2 - a) (by have := hSy.lo; omega) (by have := hSy.hi; omega)
   obtain ⟨x, hx⟩ := getE (T := A) (i := (y.i + y.j) / 2 - a) (by omega)
   obtain ⟨z, hz⟩ := getE (T := B) (i := (A.length + B.length) / 2 - 1 - ((y.i + y.j) / 2 - a)) (by omega)
   have hxA := List.mem_of_getElem? hx
   have hzB := List.mem_of_getElem? hz
   have hzL : (X ++ (A ++ (B ++ Y)))[mid + m - 1 - (y.i + y.j) / 2]? = some z := at_in2 hz (by omega)
   have hxL : (X ++ (A ++ (B ++ Y)))[(y.i + y.j) / 2]? = some x := at_in hx (by omega)
   refine WMa Z (WMa Z (WMa Z (WMa Z (WMv Z (R_subR (r := ((mid + m - 1 - (y.i + y.j) / 2 : Nat) : Int)) Z Z Z (by rw [wrap64_in (by omega) (by omega)] <;> omega)) ?_))))
   refine WMv Z (R_indexAddrN Z Tryz.underlying23 Tryz.sizeOf3 Z Z (by omega)) ?_
   refine WMv Z (R_load (v := .int .i64 z) Z sc3 Z mmY (fm_get0 encI1 hzL (j := 0) (by omega))) ?_
   refine WMa Z (WMa Z (WMv Z (R_indexAddrN Z Tryz.underlying23 Tryz.sizeOf3 Z Z (by omega)) ?_))
   refine WMv Z (R_load (v := .int .i64 x) Z sc3 Z mmY (fm_get0 encI1 hxL (j := 0) (by omega))) ?_
   refine WMd Z (D_call (hf x hxA z hzB) Z Z Z Z pqY) ?_
   rintro _ _ ⟨_, ⟨rfl, rfl⟩, rfl⟩
   refine ⟨⟨_, pqY⟩, ?_⟩
   refine WMa Z (WMv Z (R_notD Z Z) ?_)
   refine WM_nil (WQ_code ?_)
   refine WC_dec Z (fun c3 => ?_) (fun c3 => ?_)
   ·have hxz : lt x z := (hcr x hxA z hzB).2.resolve_right (fun e9 => c3 ((hcr x hxA z hzB).1.2 e9))
    refine WC_region (WLa Z (WLv Z (R_addR (r := (((y.i + y.j) / 2 + 1 : Nat) : Int)) Z Z Z (by rw [wrap64_in (by omega) (by omega)] <;> omega)) ?_))
    refine WLa Z (WL_nil ?_)
    refine WQ_nextF (⟨(y.i + y.j) / 2 + 1, y.j⟩) (⟨by dsimp only; omega, haj, by dsimp only; rw [show (y.i + y.j) / 2 + 1 - a = (y.i + y.j) / 2 - a + 1 from by omega]; exact hSy.up (by omega) (by omega) hx hz hxz⟩) (by dsimp only; omega) leZ (psZ) Z pqY
   ·have hzx : lt z x := (hcr x hxA z hzB).1.1 (Decidable.byContradiction c3)
    refine WC_region (WLa Z (WLa Z (WL_nil ?_)))
    refine WQ_nextF (⟨y.i, (y.i + y.j) / 2⟩) (⟨hai, by dsimp only; omega, by dsimp only; exact hSy.dn (by omega) (by omega) hx hz hzx⟩) (by dsimp only; omega) leZ (psZ) Z pqY
  ·have hij : y.i = y.j := by omega
   rw [← hij] at hSy
   obtain ⟨s, hs⟩ : ∃ s, s = y.i - a := ⟨_, rfl⟩
   rw [← hs] at hSy
   obtain ⟨e, he⟩ : ∃ e, e = (A.length + B.length) / 2 - s := ⟨_, rfl⟩
   obtain ⟨q1, q2, q3⟩ := hSy.bnd hA1 hB1
   have hcross := hSy.cross ho pA pB hA1 hB1
   rw [← he] at hcross q3
   rw [show X ++ (A ++ (B ++ Y)) = (X ++ A.take s) ++ (A.drop s ++ (B.take e ++ (B.drop e ++ Y))) from by rw [List.append_assoc, ← List.append_assoc (A.take s), List.take_append_drop, ← List.append_assoc (B.take e), List.take_append_drop]]
   refine WC_exit (WQ_code (WCr (WLa Z (WLa Z (WLv Z (R_subR (r := ((m + e : Nat) : Int)) Z Z Z (by rw [wrap64_in (by omega) (by omega)] <;> omega)) ?_)))))
   refine WLa Z (WL_nil (WQ_code (WC_seq (WCr (WLa Z (WLa Z (WLa Z (WLa Z ?_))))))))
   refine WL_splitD (s := 181) Z (fun c4 => ?_) (fun c4 => ?_)
   ·have hg := c4
    refine WLa Z (WLa Z (WLa Z (WLa Z (WL_nil (WQ_code ?_)))))
    refine WC_dec Z (fun c5 => ?_) (fun c5 => ?_)
    ·refine WC_region (WLa Z (WLa Z (WLa Z (WLa Z (WLa Z (WLq Z (rot_ok (X ++ A.take s) (A.drop s) (B.take e) (B.drop e ++ Y) n (by simp only [List.length_append, List.length_take, List.length_drop]; omega) hn2 (by rw [List.length_drop]; omega) (by rw [List.length_take]; omega) wa c tl (.func (.func gf) #[] ca.toArray) y.i m (m + e) (by rw [List.length_append, List.length_take]; omega) (by rw [List.length_drop]; omega) (by rw [List.length_take]; omega)) Z pqY ?_))))))
     rw [show (X ++ A.take s) ++ (B.take e ++ (A.drop s ++ (B.drop e ++ Y))) = X ++ (A.take s ++ (B.take e ++ (A.drop s ++ (B.drop e ++ Y)))) from by simp]
     refine WL_nil (WQ_code (WC_seq (WCr (WLa Z (WLa Z (WLa Z (WLa Z ?_)))))))
     refine WL_splitD (s := 195) Z (fun c6 => ?_) (fun c6 => ?_)
     ·have hg2 := c6
      refine WLa Z (WLa Z (WLa Z (WLa Z (WL_nil (WQ_code ?_)))))
      refine WC_dec Z (fun c7 => ?_) (fun c7 => ?_)
      ·refine WC_region (WLa Z (WLa Z (WLa Z (WLa Z (WLa Z (WLc Z (ih X (A.take s) (B.take e) (A.drop s ++ (B.drop e ++ Y)) n (by simp only [List.length_append, List.length_take, List.length_drop]; omega) hn2 (by rw [List.length_take]; omega) (by rw [List.length_take]; omega) pA.take pB.take (hcr.sub (fun _ => List.mem_of_mem_take) (fun _ => List.mem_of_mem_take)) (fun a ha b hb => hf a (List.mem_of_mem_take ha) b (List.mem_of_mem_take hb)) a y.i mid ha (by rw [List.length_take]; omega) (by rw [List.length_take]; omega) (by rw [List.length_take, List.length_take]; omega)) Z pqY ?_))))))
       rintro _ _ ⟨_, ⟨R1, rfl, hp1, hs1, rfl⟩, rfl⟩
       rw [show X ++ (R1 ++ (A.drop s ++ (B.drop e ++ Y))) = (X ++ R1) ++ (A.drop s ++ (B.drop e ++ Y)) from by simp]
       refine WL_nil (WQ_code (WCr (WLa Z (WLa Z (WLa Z (WLa Z ?_))))))
       refine WL_splitD (s := 209) Z (fun c8 => ?_) (fun c8 => ?_)
       ·have hg3 := c8
        refine WLa Z (WLa Z (WLa Z (WLa Z (WL_nil (WQ_code ?_)))))
        refine WC_dec Z (fun c9 => ?_) (fun c9 => ?_)
        ·refine WC_region (WLa Z (WLa Z (WLa Z (WLa Z (WLa Z (WLc Z (ih (X ++ R1) (A.drop s) (B.drop e) Y n (by have h8 := hp1.length_eq; simp only [List.length_append, List.length_take, List.length_drop] at h8 ⊢; omega) hn2 (by rw [List.length_drop]; omega) (by rw [List.length_drop]; omega) pA.drop pB.drop (hcr.sub (fun _ => List.mem_of_mem_drop) (fun _ => List.mem_of_mem_drop)) (fun a ha b hb => hf a (List.mem_of_mem_drop ha) b (List.mem_of_mem_drop hb)) mid (m + e) b (by have h8 := hp1.length_eq; simp only [List.length_append, List.length_take] at h8 ⊢; omega) (by rw [List.length_drop]; omega) (by rw [List.length_drop]; omega) (by rw [List.length_drop, List.length_drop]; omega)) Z pqY ?_))))))
         rintro _ _ ⟨_, ⟨R2, rfl, hp2, hs2, rfl⟩, rfl⟩
         rw [show (X ++ R1) ++ (R2 ++ Y) = X ++ ((R1 ++ R2) ++ Y) from by simp]
         refine WL_nil ?_
         refine WQ2 Z (by
           obtain ⟨hj1, hj2⟩ := sym_join hp1 hp2 hs1 hs2 hcross
           exact ⟨R1 ++ R2, rfl, hj1, hj2, rfl⟩) pqY
        ·obtain ⟨R2, hR2⟩ : ∃ R2, R2 = A.drop s ++ B.drop e := ⟨_, rfl⟩
         have hp2 : R2.Perm (A.drop s ++ B.drop e) := List.Perm.of_eq hR2
         have h92 : A.drop s = [] ∨ B.drop e = [] := by first | exact .inl (List.eq_nil_of_length_eq_zero (by rw [List.length_drop]; omega)) | exact .inr (List.eq_nil_of_length_eq_zero (by rw [List.length_drop]; omega))
         have hs2 : R2.Pairwise lt := two_srt hR2 h92 pA.drop pB.drop
         rw [show (X ++ R1) ++ (A.drop s ++ (B.drop e ++ Y)) = X ++ ((R1 ++ R2) ++ Y) from by rw [hR2]; simp]
         refine WC_skip ?_
         refine WQ2 Z (by
           obtain ⟨hj1, hj2⟩ := sym_join hp1 hp2 hs1 hs2 hcross
           exact ⟨R1 ++ R2, rfl, hj1, hj2, rfl⟩) pqY
       ·have hg3 := c8
        obtain ⟨R2, hR2⟩ : ∃ R2, R2 = A.drop s ++ B.drop e := ⟨_, rfl⟩
        have hp2 : R2.Perm (A.drop s ++ B.drop e) := List.Perm.of_eq hR2
        have h92 : A.drop s = [] ∨ B.drop e = [] := by first | exact .inl (List.eq_nil_of_length_eq_zero (by rw [List.length_drop]; omega)) | exact .inr (List.eq_nil_of_length_eq_zero (by rw [List.length_drop]; omega))
        have hs2 : R2.Pairwise lt := two_srt hR2 h92 pA.drop pB.drop
        rw [show (X ++ R1) ++ (A.drop s ++ (B.drop e ++ Y)) = X ++ ((R1 ++ R2) ++ Y) from by rw [hR2]; simp]
        refine WLa Z (WLa Z (WLa Z (WLa Z (WL_nil (WQ_code (WC_F Z (WC_skip ?_)))))))
        refine WQ2 Z (by
          obtain ⟨hj1, hj2⟩ := sym_join hp1 hp2 hs1 hs2 hcross
          exact ⟨R1 ++ R2, rfl, hj1, hj2, rfl⟩) pqY
      ·obtain ⟨R1, hR1⟩ : ∃ R1, R1 = A.take s ++ B.take e := ⟨_, rfl⟩
       have hp1 : R1.Perm (A.take s ++ B.take e) := List.Perm.of_eq hR1
       have h91 : A.take s = [] ∨ B.take e = [] := by first | exact .inl (List.eq_nil_of_length_eq_zero (by rw [List.length_take]; omega)) | exact .inr (List.eq_nil_of_length_eq_zero (by rw [List.length_take]; omega))
       have hs1 : R1.Pairwise lt := two_srt hR1 h91 pA.take pB.take
       rw [show X ++ (A.take s ++ (B.take e ++ (A.drop s ++ (B.drop e ++ Y)))) = (X ++ R1) ++ (A.drop s ++ (B.drop e ++ Y)) from by rw [hR1]; simp]
       refine WC_skip (WQ_code (WCr (WLa Z (WLa Z (WLa Z (WLa Z ?_))))))
       refine WL_splitD (s := 209) Z (fun c10 => ?_) (fun c10 => ?_)
       ·have hg3 := c10
        refine WLa Z (WLa Z (WLa Z (WLa Z (WL_nil (WQ_code ?_)))))
        refine WC_dec Z (fun c11 => ?_) (fun c11 => ?_)
        ·refine WC_region (WLa Z (WLa Z (WLa Z (WLa Z (WLa Z (WLc Z (ih (X ++ R1) (A.drop s) (B.drop e) Y n (by have h8 := hp1.length_eq; simp only [List.length_append, List.length_take, List.length_drop] at h8 ⊢; omega) hn2 (by rw [List.length_drop]; omega) (by rw [List.length_drop]; omega) pA.drop pB.drop (hcr.sub (fun _ => List.mem_of_mem_drop) (fun _ => List.mem_of_mem_drop)) (fun a ha b hb => hf a (List.mem_of_mem_drop ha) b (List.mem_of_mem_drop hb)) mid (m + e) b (by have h8 := hp1.length_eq; simp only [List.length_append, List.length_take] at h8 ⊢; omega) (by rw [List.length_drop]; omega) (by rw [List.length_drop]; omega) (by rw [List.length_drop, List.length_drop]; omega)) Z pqY ?_))))))
         rintro _ _ ⟨_, ⟨R2, rfl, hp2, hs2, rfl⟩, rfl⟩
         rw [show (X ++ R1) ++ (R2 ++ Y) = X ++ ((R1 ++ R2) ++ Y) from by simp]
         refine WL_nil ?_
         refine WQ2 Z (by
           obtain ⟨hj1, hj2⟩ := sym_join hp1 hp2 hs1 hs2 hcross
           exact ⟨R1 ++ R2, rfl, hj1, hj2, rfl⟩) pqY
        ·obtain ⟨R2, hR2⟩ : ∃ R2, R2 = A.drop s ++ B.drop e := ⟨_, rfl⟩
         have hp2 : R2.Perm (A.drop s ++ B.drop e) := List.Perm.of_eq hR2
         have h92 : A.drop s = [] ∨ B.drop e = [] := by first | exact .inl (List.eq_nil_of_length_eq_zero (by rw [List.length_drop]; omega)) | exact .inr (List.eq_nil_of_length_eq_zero (by rw [List.length_drop]; omega))
         have hs2 : R2.Pairwise lt := two_srt hR2 h92 pA.drop pB.drop
         rw [show (X ++ R1) ++ (A.drop s ++ (B.drop e ++ Y)) = X ++ ((R1 ++ R2) ++ Y) from by rw [hR2]; simp]
         refine WC_skip ?_
         refine WQ2 Z (by
           obtain ⟨hj1, hj2⟩ := sym_join hp1 hp2 hs1 hs2 hcross
           exact ⟨R1 ++ R2, rfl, hj1, hj2, rfl⟩) pqY
       ·have hg3 := c10
        obtain ⟨R2, hR2⟩ : ∃ R2, R2 = A.drop s ++ B.drop e := ⟨_, rfl⟩
        have hp2 : R2.Perm (A.drop s ++ B.drop e) := List.Perm.of_eq hR2
        have h92 : A.drop s = [] ∨ B.drop e = [] := by first | exact .inl (List.eq_nil_of_length_eq_zero (by rw [List.length_drop]; omega)) | exact .inr (List.eq_nil_of_length_eq_zero (by rw [List.length_drop]; omega))
        have hs2 : R2.Pairwise lt := two_srt hR2 h92 pA.drop pB.drop
        rw [show (X ++ R1) ++ (A.drop s ++ (B.drop e ++ Y)) = X ++ ((R1 ++ R2) ++ Y) from by rw [hR2]; simp]
        refine WLa Z (WLa Z (WLa Z (WLa Z (WL_nil (WQ_code (WC_F Z (WC_skip ?_)))))))
        refine WQ2 Z (by
          obtain ⟨hj1, hj2⟩ := sym_join hp1 hp2 hs1 hs2 hcross
          exact ⟨R1 ++ R2, rfl, hj1, hj2, rfl⟩) pqY
     ·have hg2 := c6
      obtain ⟨R1, hR1⟩ : ∃ R1, R1 = A.take s ++ B.take e := ⟨_, rfl⟩
      have hp1 : R1.Perm (A.take s ++ B.take e) := List.Perm.of_eq hR1
      have h91 : A.take s = [] ∨ B.take e = [] := by first | exact .inl (List.eq_nil_of_length_eq_zero (by rw [List.length_take]; omega)) | exact .inr (List.eq_nil_of_length_eq_zero (by rw [List.length_take]; omega))
      have hs1 : R1.Pairwise lt := two_srt hR1 h91 pA.take pB.take
      rw [show X ++ (A.take s ++ (B.take e ++ (A.drop s ++ (B.drop e ++ Y)))) = (X ++ R1) ++ (A.drop s ++ (B.drop e ++ Y)) from by rw [hR1]; simp]
      refine WLa Z (WLa Z (WLa Z (WLa Z (WL_nil (WQ_code (WC_F Z (WC_skip (WQ_code (WCr (WLa Z (WLa Z (WLa Z (WLa Z ?_)))))))))))))
      refine WL_splitD (s := 209) Z (fun c12 => ?_) (fun c12 => ?_)
      ·have hg3 := c12
       refine WLa Z (WLa Z (WLa Z (WLa Z (WL_nil (WQ_code ?_)))))
       refine WC_dec Z (fun c13 => ?_) (fun c13 => ?_)
       ·refine WC_region (WLa Z (WLa Z (WLa Z (WLa Z (WLa Z (WLc Z (ih (X ++ R1) (A.drop s) (B.drop e) Y n (by have h8 := hp1.length_eq; simp only [List.length_append, List.length_take, List.length_drop] at h8 ⊢; omega) hn2 (by rw [List.length_drop]; omega) (by rw [List.length_drop]; omega) pA.drop pB.drop (hcr.sub (fun _ => List.mem_of_mem_drop) (fun _ => List.mem_of_mem_drop)) (fun a ha b hb => hf a (List.mem_of_mem_drop ha) b (List.mem_of_mem_drop hb)) mid (m + e) b (by have h8 := hp1.length_eq; simp only [List.length_append, List.length_take] at h8 ⊢; omega) (by rw [List.length_drop]; omega) (by rw [List.length_drop]; omega) (by rw [List.length_drop, List.length_drop]; omega)) Z pqY ?_))))))
        rintro _ _ ⟨_, ⟨R2, rfl, hp2, hs2, rfl⟩, rfl⟩
        rw [show (X ++ R1) ++ (R2 ++ Y) = X ++ ((R1 ++ R2) ++ Y) from by simp]
        refine WL_nil ?_
        refine WQ2 Z (by
          obtain ⟨hj1, hj2⟩ := sym_join hp1 hp2 hs1 hs2 hcross
          exact ⟨R1 ++ R2, rfl, hj1, hj2, rfl⟩) pqY
       ·obtain ⟨R2, hR2⟩ : ∃ R2, R2 = A.drop s ++ B.drop e := ⟨_, rfl⟩
        have hp2 : R2.Perm (A.drop s ++ B.drop e) := List.Perm.of_eq hR2
        have h92 : A.drop s = [] ∨ B.drop e = [] := by first | exact .inl (List.eq_nil_of_length_eq_zero (by rw [List.length_drop]; omega)) | exact .inr (List.eq_nil_of_length_eq_zero (by rw [List.length_drop]; omega))
        have hs2 : R2.Pairwise lt := two_srt hR2 h92 pA.drop pB.drop
        rw [show (X ++ R1) ++ (A.drop s ++ (B.drop e ++ Y)) = X ++ ((R1 ++ R2) ++ Y) from by rw [hR2]; simp]
        refine WC_skip ?_
        refine WQ2 Z (by
          obtain ⟨hj1, hj2⟩ := sym_join hp1 hp2 hs1 hs2 hcross
          exact ⟨R1 ++ R2, rfl, hj1, hj2, rfl⟩) pqY
      ·have hg3 := c12
       obtain ⟨R2, hR2⟩ : ∃ R2, R2 = A.drop s ++ B.drop e := ⟨_, rfl⟩
       have hp2 : R2.Perm (A.drop s ++ B.drop e) := List.Perm.of_eq hR2
       have h92 : A.drop s = [] ∨ B.drop e = [] := by first | exact .inl (List.eq_nil_of_length_eq_zero (by rw [List.length_drop]; omega)) | exact .inr (List.eq_nil_of_length_eq_zero (by rw [List.length_drop]; omega))
       have hs2 : R2.Pairwise lt := two_srt hR2 h92 pA.drop pB.drop
       rw [show (X ++ R1) ++ (A.drop s ++ (B.drop e ++ Y)) = X ++ ((R1 ++ R2) ++ Y) from by rw [hR2]; simp]
       refine WLa Z (WLa Z (WLa Z (WLa Z (WL_nil (WQ_code (WC_F Z (WC_skip ?_)))))))
       refine WQ2 Z (by
         obtain ⟨hj1, hj2⟩ := sym_join hp1 hp2 hs1 hs2 hcross
         exact ⟨R1 ++ R2, rfl, hj1, hj2, rfl⟩) pqY
    ·have h9 : A.drop s = [] ∨ B.take e = [] := by first | exact .inl (List.eq_nil_of_length_eq_zero (by rw [List.length_drop]; omega)) | exact .inr (List.eq_nil_of_length_eq_zero (by rw [List.length_take]; omega))
     have hE1 : (X ++ A.take s) ++ (A.drop s ++ (B.take e ++ (B.drop e ++ Y))) = X ++ (A.take s ++ (B.take e ++ (A.drop s ++ (B.drop e ++ Y)))) := by rcases h9 with h9 | h9 <;> rw [h9] <;> simp
     rw [hE1]
     refine WC_skip (WQ_code (WC_seq (WCr (WLa Z (WLa Z (WLa Z (WLa Z ?_)))))))
     refine WL_splitD (s := 195) Z (fun c14 => ?_) (fun c14 => ?_)
     ·have hg2 := c14
      refine WLa Z (WLa Z (WLa Z (WLa Z (WL_nil (WQ_code ?_)))))
      refine WC_dec Z (fun c15 => ?_) (fun c15 => ?_)
      ·refine WC_region (WLa Z (WLa Z (WLa Z (WLa Z (WLa Z (WLc Z (ih X (A.take s) (B.take e) (A.drop s ++ (B.drop e ++ Y)) n (by simp only [List.length_append, List.length_take, List.length_drop]; omega) hn2 (by rw [List.length_take]; omega) (by rw [List.length_take]; omega) pA.take pB.take (hcr.sub (fun _ => List.mem_of_mem_take) (fun _ => List.mem_of_mem_take)) (fun a ha b hb => hf a (List.mem_of_mem_take ha) b (List.mem_of_mem_take hb)) a y.i mid ha (by rw [List.length_take]; omega) (by rw [List.length_take]; omega) (by rw [List.length_take, List.length_take]; omega)) Z pqY ?_))))))
       rintro _ _ ⟨_, ⟨R1, rfl, hp1, hs1, rfl⟩, rfl⟩
       rw [show X ++ (R1 ++ (A.drop s ++ (B.drop e ++ Y))) = (X ++ R1) ++ (A.drop s ++ (B.drop e ++ Y)) from by simp]
       refine WL_nil (WQ_code (WCr (WLa Z (WLa Z (WLa Z (WLa Z ?_))))))
       refine WL_splitD (s := 209) Z (fun c16 => ?_) (fun c16 => ?_)
       ·have hg3 := c16
        refine WLa Z (WLa Z (WLa Z (WLa Z (WL_nil (WQ_code ?_)))))
        refine WC_dec Z (fun c17 => ?_) (fun c17 => ?_)
        ·refine WC_region (WLa Z (WLa Z (WLa Z (WLa Z (WLa Z (WLc Z (ih (X ++ R1) (A.drop s) (B.drop e) Y n (by have h8 := hp1.length_eq; simp only [List.length_append, List.length_take, List.length_drop] at h8 ⊢; omega) hn2 (by rw [List.length_drop]; omega) (by rw [List.length_drop]; omega) pA.drop pB.drop (hcr.sub (fun _ => List.mem_of_mem_drop) (fun _ => List.mem_of_mem_drop)) (fun a ha b hb => hf a (List.mem_of_mem_drop ha) b (List.mem_of_mem_drop hb)) mid (m + e) b (by have h8 := hp1.length_eq; simp only [List.length_append, List.length_take] at h8 ⊢; omega) (by rw [List.length_drop]; omega) (by rw [List.length_drop]; omega) (by rw [List.length_drop, List.length_drop]; omega)) Z pqY ?_))))))
         rintro _ _ ⟨_, ⟨R2, rfl, hp2, hs2, rfl⟩, rfl⟩
         rw [show (X ++ R1) ++ (R2 ++ Y) = X ++ ((R1 ++ R2) ++ Y) from by simp]
         refine WL_nil ?_
         refine WQ2 Z (by
           obtain ⟨hj1, hj2⟩ := sym_join hp1 hp2 hs1 hs2 hcross
           exact ⟨R1 ++ R2, rfl, hj1, hj2, rfl⟩) pqY
        ·obtain ⟨R2, hR2⟩ : ∃ R2, R2 = A.drop s ++ B.drop e := ⟨_, rfl⟩
         have hp2 : R2.Perm (A.drop s ++ B.drop e) := List.Perm.of_eq hR2
         have h92 : A.drop s = [] ∨ B.drop e = [] := by first | exact .inl (List.eq_nil_of_length_eq_zero (by rw [List.length_drop]; omega)) | exact .inr (List.eq_nil_of_length_eq_zero (by rw [List.length_drop]; omega))
         have hs2 : R2.Pairwise lt := two_srt hR2 h92 pA.drop pB.drop
         rw [show (X ++ R1) ++ (A.drop s ++ (B.drop e ++ Y)) = X ++ ((R1 ++ R2) ++ Y) from by rw [hR2]; simp]
         refine WC_skip ?_
         refine WQ2 Z (by
           obtain ⟨hj1, hj2⟩ := sym_join hp1 hp2 hs1 hs2 hcross
           exact ⟨R1 ++ R2, rfl, hj1, hj2, rfl⟩) pqY
       ·have hg3 := c16
        obtain ⟨R2, hR2⟩ : ∃ R2, R2 = A.drop s ++ B.drop e := ⟨_, rfl⟩
        have hp2 : R2.Perm (A.drop s ++ B.drop e) := List.Perm.of_eq hR2
        have h92 : A.drop s = [] ∨ B.drop e = [] := by first | exact .inl (List.eq_nil_of_length_eq_zero (by rw [List.length_drop]; omega)) | exact .inr (List.eq_nil_of_length_eq_zero (by rw [List.length_drop]; omega))
        have hs2 : R2.Pairwise lt := two_srt hR2 h92 pA.drop pB.drop
        rw [show (X ++ R1) ++ (A.drop s ++ (B.drop e ++ Y)) = X ++ ((R1 ++ R2) ++ Y) from by rw [hR2]; simp]
        refine WLa Z (WLa Z (WLa Z (WLa Z (WL_nil (WQ_code (WC_F Z (WC_skip ?_)))))))
        refine WQ2 Z (by
          obtain ⟨hj1, hj2⟩ := sym_join hp1 hp2 hs1 hs2 hcross
          exact ⟨R1 ++ R2, rfl, hj1, hj2, rfl⟩) pqY
      ·obtain ⟨R1, hR1⟩ : ∃ R1, R1 = A.take s ++ B.take e := ⟨_, rfl⟩
       have hp1 : R1.Perm (A.take s ++ B.take e) := List.Perm.of_eq hR1
       have h91 : A.take s = [] ∨ B.take e = [] := by first | exact .inl (List.eq_nil_of_length_eq_zero (by rw [List.length_take]; omega)) | exact .inr (List.eq_nil_of_length_eq_zero (by rw [List.length_take]; omega))
       have hs1 : R1.Pairwise lt := two_srt hR1 h91 pA.take pB.take
       rw [show X ++ (A.take s ++ (B.take e ++ (A.drop s ++ (B.drop e ++ Y)))) = (X ++ R1) ++ (A.drop s ++ (B.drop e ++ Y)) from by rw [hR1]; simp]
       refine WC_skip (WQ_code (WCr (WLa Z (WLa Z (WLa Z (WLa Z ?_))))))
       refine WL_splitD (s := 209) Z (fun c18 => ?_) (fun c18 => ?_)
       ·have hg3 := c18
        refine WLa Z (WLa Z (WLa Z (WLa Z (WL_nil (WQ_code ?_)))))
        refine WC_dec Z (fun c19 => ?_) (fun c19 => ?_)
        ·refine WC_region (WLa Z (WLa Z (WLa Z (WLa Z (WLa Z (WLc Z (ih (X ++ R1) (A.drop s) (B.drop e) Y n (by have h8 := hp1.length_eq; simp only [List.length_append, List.length_take, List.length_drop] at h8 ⊢; omega) hn2 (by rw [List.length_drop]; omega) (by rw [List.length_drop]; omega) pA.drop pB.drop (hcr.sub (fun _ => List.mem_of_mem_drop) (fun _ => List.mem_of_mem_drop)) (fun a ha b hb => hf a (List.mem_of_mem_drop ha) b (List.mem_of_mem_drop hb)) mid (m + e) b (by have h8 := hp1.length_eq; simp only [List.length_append, List.length_take] at h8 ⊢; omega) (by rw [List.length_drop]; omega) (by rw [List.length_drop]; omega) (by rw [List.length_drop, List.length_drop]; omega)) Z pqY ?_))))))
         rintro _ _ ⟨_, ⟨R2, rfl, hp2, hs2, rfl⟩, rfl⟩
         rw [show (X ++ R1) ++ (R2 ++ Y) = X ++ ((R1 ++ R2) ++ Y) from by simp]
         refine WL_nil ?_
         refine WQ2 Z (by
           obtain ⟨hj1, hj2⟩ := sym_join hp1 hp2 hs1 hs2 hcross
           exact ⟨R1 ++ R2, rfl, hj1, hj2, rfl⟩) pqY
        ·obtain ⟨R2, hR2⟩ : ∃ R2, R2 = A.drop s ++ B.drop e := ⟨_, rfl⟩
         have hp2 : R2.Perm (A.drop s ++ B.drop e) := List.Perm.of_eq hR2
         have h92 : A.drop s = [] ∨ B.drop e = [] := by first | exact .inl (List.eq_nil_of_length_eq_zero (by rw [List.length_drop]; omega)) | exact .inr (List.eq_nil_of_length_eq_zero (by rw [List.length_drop]; omega))
         have hs2 : R2.Pairwise lt := two_srt hR2 h92 pA.drop pB.drop
         rw [show (X ++ R1) ++ (A.drop s ++ (B.drop e ++ Y)) = X ++ ((R1 ++ R2) ++ Y) from by rw [hR2]; simp]
         refine WC_skip ?_
         refine WQ2 Z (by
           obtain ⟨hj1, hj2⟩ := sym_join hp1 hp2 hs1 hs2 hcross
           exact ⟨R1 ++ R2, rfl, hj1, hj2, rfl⟩) pqY
       ·have hg3 := c18
        obtain ⟨R2, hR2⟩ : ∃ R2, R2 = A.drop s ++ B.drop e := ⟨_, rfl⟩
        have hp2 : R2.Perm (A.drop s ++ B.drop e) := List.Perm.of_eq hR2
        have h92 : A.drop s = [] ∨ B.drop e = [] := by first | exact .inl (List.eq_nil_of_length_eq_zero (by rw [List.length_drop]; omega)) | exact .inr (List.eq_nil_of_length_eq_zero (by rw [List.length_drop]; omega))
        have hs2 : R2.Pairwise lt := two_srt hR2 h92 pA.drop pB.drop
        rw [show (X ++ R1) ++ (A.drop s ++ (B.drop e ++ Y)) = X ++ ((R1 ++ R2) ++ Y) from by rw [hR2]; simp]
        refine WLa Z (WLa Z (WLa Z (WLa Z (WL_nil (WQ_code (WC_F Z (WC_skip ?_)))))))
        refine WQ2 Z (by
          obtain ⟨hj1, hj2⟩ := sym_join hp1 hp2 hs1 hs2 hcross
          exact ⟨R1 ++ R2, rfl, hj1, hj2, rfl⟩) pqY
     ·have hg2 := c14
      obtain ⟨R1, hR1⟩ : ∃ R1, R1 = A.take s ++ B.take e := ⟨_, rfl⟩
      have hp1 : R1.Perm (A.take s ++ B.take e) := List.Perm.of_eq hR1
      have h91 : A.take s = [] ∨ B.take e = [] := by first | exact .inl (List.eq_nil_of_length_eq_zero (by rw [List.length_take]; omega)) | exact .inr (List.eq_nil_of_length_eq_zero (by rw [List.length_take]; omega))
      have hs1 : R1.Pairwise lt := two_srt hR1 h91 pA.take pB.take
      rw [show X ++ (A.take s ++ (B.take e ++ (A.drop s ++ (B.drop e ++ Y)))) = (X ++ R1) ++ (A.drop s ++ (B.drop e ++ Y)) from by rw [hR1]; simp]
      refine WLa Z (WLa Z (WLa Z (WLa Z (WL_nil (WQ_code (WC_F Z (WC_skip (WQ_code (WCr (WLa Z (WLa Z (WLa Z (WLa Z ?_)))))))))))))
      refine WL_splitD (s := 209) Z (fun c20 => ?_) (fun c20 => ?_)
      ·have hg3 := c20
       refine WLa Z (WLa Z (WLa Z (WLa Z (WL_nil (WQ_code ?_)))))
       refine WC_dec Z (fun c21 => ?_) (fun c21 => ?_)
       ·refine WC_region (WLa Z (WLa Z (WLa Z (WLa Z (WLa Z (WLc Z (ih (X ++ R1) (A.drop s) (B.drop e) Y n (by have h8 := hp1.length_eq; simp only [List.length_append, List.length_take, List.length_drop] at h8 ⊢; omega) hn2 (by rw [List.length_drop]; omega) (by rw [List.length_drop]; omega) pA.drop pB.drop (hcr.sub (fun _ => List.mem_of_mem_drop) (fun _ => List.mem_of_mem_drop)) (fun a ha b hb => hf a (List.mem_of_mem_drop ha) b (List.mem_of_mem_drop hb)) mid (m + e) b (by have h8 := hp1.length_eq; simp only [List.length_append, List.length_take] at h8 ⊢; omega) (by rw [List.length_drop]; omega) (by rw [List.length_drop]; omega) (by rw [List.length_drop, List.length_drop]; omega)) Z pqY ?_))))))
        rintro _ _ ⟨_, ⟨R2, rfl, hp2, hs2, rfl⟩, rfl⟩
        rw [show (X ++ R1) ++ (R2 ++ Y) = X ++ ((R1 ++ R2) ++ Y) from by simp]
        refine WL_nil ?_
        refine WQ2 Z (by
          obtain ⟨hj1, hj2⟩ := sym_join hp1 hp2 hs1 hs2 hcross
          exact ⟨R1 ++ R2, rfl, hj1, hj2, rfl⟩) pqY
       ·obtain ⟨R2, hR2⟩ : ∃ R2, R2 = A.drop s ++ B.drop e := ⟨_, rfl⟩
        have hp2 : R2.Perm (A.drop s ++ B.drop e) := List.Perm.of_eq hR2
        have h92 : A.drop s = [] ∨ B.drop e = [] := by first | exact .inl (List.eq_nil_of_length_eq_zero (by rw [List.length_drop]; omega)) | exact .inr (List.eq_nil_of_length_eq_zero (by rw [List.length_drop]; omega))
        have hs2 : R2.Pairwise lt := two_srt hR2 h92 pA.drop pB.drop
        rw [show (X ++ R1) ++ (A.drop s ++ (B.drop e ++ Y)) = X ++ ((R1 ++ R2) ++ Y) from by rw [hR2]; simp]
        refine WC_skip ?_
        refine WQ2 Z (by
          obtain ⟨hj1, hj2⟩ := sym_join hp1 hp2 hs1 hs2 hcross
          exact ⟨R1 ++ R2, rfl, hj1, hj2, rfl⟩) pqY
      ·have hg3 := c20
       obtain ⟨R2, hR2⟩ : ∃ R2, R2 = A.drop s ++ B.drop e := ⟨_, rfl⟩
       have hp2 : R2.Perm (A.drop s ++ B.drop e) := List.Perm.of_eq hR2
       have h92 : A.drop s = [] ∨ B.drop e = [] := by first | exact .inl (List.eq_nil_of_length_eq_zero (by rw [List.length_drop]; omega)) | exact .inr (List.eq_nil_of_length_eq_zero (by rw [List.length_drop]; omega))
       have hs2 : R2.Pairwise lt := two_srt hR2 h92 pA.drop pB.drop
       rw [show (X ++ R1) ++ (A.drop s ++ (B.drop e ++ Y)) = X ++ ((R1 ++ R2) ++ Y) from by rw [hR2]; simp]
       refine WLa Z (WLa Z (WLa Z (WLa Z (WL_nil (WQ_code (WC_F Z (WC_skip ?_)))))))
       refine WQ2 Z (by
         obtain ⟨hj1, hj2⟩ := sym_join hp1 hp2 hs1 hs2 hcross
         exact ⟨R1 ++ R2, rfl, hj1, hj2, rfl⟩) pqY
   ·have hg := c4
    have h9 : A.drop s = [] ∨ B.take e = [] := by first | exact .inl (List.eq_nil_of_length_eq_zero (by rw [List.length_drop]; omega)) | exact .inr (List.eq_nil_of_length_eq_zero (by rw [List.length_take]; omega))
    have hE1 : (X ++ A.take s) ++ (A.drop s ++ (B.take e ++ (B.drop e ++ Y))) = X ++ (A.take s ++ (B.take e ++ (A.drop s ++ (B.drop e ++ Y)))) := by rcases h9 with h9 | h9 <;> rw [h9] <;> simp
    rw [hE1]
    refine WLa Z (WLa Z (WLa Z (WLa Z (WL_nil (WQ_code (WC_F Z (WC_skip (WQ_code (WC_seq (WCr (WLa Z (WLa Z (WLa Z (WLa Z ?_))))))))))))))
    refine WL_splitD (s := 195) Z (fun c22 => ?_) (fun c22 => ?_)
    ·have hg2 := c22
     refine WLa Z (WLa Z (WLa Z (WLa Z (WL_nil (WQ_code ?_)))))
     refine WC_dec Z (fun c23 => ?_) (fun c23 => ?_)
     ·refine WC_region (WLa Z (WLa Z (WLa Z (WLa Z (WLa Z (WLc Z (ih X (A.take s) (B.take e) (A.drop s ++ (B.drop e ++ Y)) n (by simp only [List.length_append, List.length_take, List.length_drop]; omega) hn2 (by rw [List.length_take]; omega) (by rw [List.length_take]; omega) pA.take pB.take (hcr.sub (fun _ => List.mem_of_mem_take) (fun _ => List.mem_of_mem_take)) (fun a ha b hb => hf a (List.mem_of_mem_take ha) b (List.mem_of_mem_take hb)) a y.i mid ha (by rw [List.length_take]; omega) (by rw [List.length_take]; omega) (by rw [List.length_take, List.length_take]; omega)) Z pqY ?_))))))
      rintro _ _ ⟨_, ⟨R1, rfl, hp1, hs1, rfl⟩, rfl⟩
      rw [show X ++ (R1 ++ (A.drop s ++ (B.drop e ++ Y))) = (X ++ R1) ++ (A.drop s ++ (B.drop e ++ Y)) from by simp]
      refine WL_nil (WQ_code (WCr (WLa Z (WLa Z (WLa Z (WLa Z ?_))))))
      refine WL_splitD (s := 209) Z (fun c24 => ?_) (fun c24 => ?_)
      ·have hg3 := c24
       refine WLa Z (WLa Z (WLa Z (WLa Z (WL_nil (WQ_code ?_)))))
       refine WC_dec Z (fun c25 => ?_) (fun c25 => ?_)
       ·refine WC_region (WLa Z (WLa Z (WLa Z (WLa Z (WLa Z (WLc Z (ih (X ++ R1) (A.drop s) (B.drop e) Y n (by have h8 := hp1.length_eq; simp only [List.length_append, List.length_take, List.length_drop] at h8 ⊢; omega) hn2 (by rw [List.length_drop]; omega) (by rw [List.length_drop]; omega) pA.drop pB.drop (hcr.sub (fun _ => List.mem_of_mem_drop) (fun _ => List.mem_of_mem_drop)) (fun a ha b hb => hf a (List.mem_of_mem_drop ha) b (List.mem_of_mem_drop hb)) mid (m + e) b (by have h8 := hp1.length_eq; simp only [List.length_append, List.length_take] at h8 ⊢; omega) (by rw [List.length_drop]; omega) (by rw [List.length_drop]; omega) (by rw [List.length_drop, List.length_drop]; omega)) Z pqY ?_))))))
        rintro _ _ ⟨_, ⟨R2, rfl, hp2, hs2, rfl⟩, rfl⟩
        rw [show (X ++ R1) ++ (R2 ++ Y) = X ++ ((R1 ++ R2) ++ Y) from by simp]
        refine WL_nil ?_
        refine WQ2 Z (by
          obtain ⟨hj1, hj2⟩ := sym_join hp1 hp2 hs1 hs2 hcross
          exact ⟨R1 ++ R2, rfl, hj1, hj2, rfl⟩) pqY
       ·obtain ⟨R2, hR2⟩ : ∃ R2, R2 = A.drop s ++ B.drop e := ⟨_, rfl⟩
        have hp2 : R2.Perm (A.drop s ++ B.drop e) := List.Perm.of_eq hR2
        have h92 : A.drop s = [] ∨ B.drop e = [] := by first | exact .inl (List.eq_nil_of_length_eq_zero (by rw [List.length_drop]; omega)) | exact .inr (List.eq_nil_of_length_eq_zero (by rw [List.length_drop]; omega))
        have hs2 : R2.Pairwise lt := two_srt hR2 h92 pA.drop pB.drop
        rw [show (X ++ R1) ++ (A.drop s ++ (B.drop e ++ Y)) = X ++ ((R1 ++ R2) ++ Y) from by rw [hR2]; simp]
        refine WC_skip ?_
        refine WQ2 Z (by
          obtain ⟨hj1, hj2⟩ := sym_join hp1 hp2 hs1 hs2 hcross
          exact ⟨R1 ++ R2, rfl, hj1, hj2, rfl⟩) pqY
      ·have hg3 := c24
       obtain ⟨R2, hR2⟩ : ∃ R2, R2 = A.drop s ++ B.drop e := ⟨_, rfl⟩
       have hp2 : R2.Perm (A.drop s ++ B.drop e) := List.Perm.of_eq hR2
       have h92 : A.drop s = [] ∨ B.drop e = [] := by first | exact .inl (List.eq_nil_of_length_eq_zero (by rw [List.length_drop]; omega)) | exact .inr (List.eq_nil_of_length_eq_zero (by rw [List.length_drop]; omega))
       have hs2 : R2.Pairwise lt := two_srt hR2 h92 pA.drop pB.drop
       rw [show (X ++ R1) ++ (A.drop s ++ (B.drop e ++ Y)) = X ++ ((R1 ++ R2) ++ Y) from by rw [hR2]; simp]
       refine WLa Z (WLa Z (WLa Z (WLa Z (WL_nil (WQ_code (WC_F Z (WC_skip ?_)))))))
       refine WQ2 Z (by
         obtain ⟨hj1, hj2⟩ := sym_join hp1 hp2 hs1 hs2 hcross
         exact ⟨R1 ++ R2, rfl, hj1, hj2, rfl⟩) pqY
     ·obtain ⟨R1, hR1⟩ : ∃ R1, R1 = A.take s ++ B.take e := ⟨_, rfl⟩
      have hp1 : R1.Perm (A.take s ++ B.take e) := List.Perm.of_eq hR1
      have h91 : A.take s = [] ∨ B.take e = [] := by first | exact .inl (List.eq_nil_of_length_eq_zero (by rw [List.length_take]; omega)) | exact .inr (List.eq_nil_of_length_eq_zero (by rw [List.length_take]; omega))
      have hs1 : R1.Pairwise lt := two_srt hR1 h91 pA.take pB.take
      rw [show X ++ (A.take s ++ (B.take e ++ (A.drop s ++ (B.drop e ++ Y)))) = (X ++ R1) ++ (A.drop s ++ (B.drop e ++ Y)) from by rw [hR1]; simp]
      refine WC_skip (WQ_code (WCr (WLa Z (WLa Z (WLa Z (WLa Z ?_))))))
      refine WL_splitD (s := 209) Z (fun c26 => ?_) (fun c26 => ?_)
      ·have hg3 := c26
       refine WLa Z (WLa Z (WLa Z (WLa Z (WL_nil (WQ_code ?_)))))
       refine WC_dec Z (fun c27 => ?_) (fun c27 => ?_)
       ·refine WC_region (WLa Z (WLa Z (WLa Z (WLa Z (WLa Z (WLc Z (ih (X ++ R1) (A.drop s) (B.drop e) Y n (by have h8 := hp1.length_eq; simp only [List.length_append, List.length_take, List.length_drop] at h8 ⊢; omega) hn2 (by rw [List.length_drop]; omega) (by rw [List.length_drop]; omega) pA.drop pB.drop (hcr.sub (fun _ => List.mem_of_mem_drop) (fun _ => List.mem_of_mem_drop)) (fun a ha b hb => hf a (List.mem_of_mem_drop ha) b (List.mem_of_mem_drop hb)) mid (m + e) b (by have h8 := hp1.length_eq; simp only [List.length_append, List.length_take] at h8 ⊢; omega) (by rw [List.length_drop]; omega) (by rw [List.length_drop]; omega) (by rw [List.length_drop, List.length_drop]; omega)) Z pqY ?_))))))
        rintro _ _ ⟨_, ⟨R2, rfl, hp2, hs2, rfl⟩, rfl⟩
        rw [show (X ++ R1) ++ (R2 ++ Y) = X ++ ((R1 ++ R2) ++ Y) from by simp]
        refine WL_nil ?_
        refine WQ2 Z (by
          obtain ⟨hj1, hj2⟩ := sym_join hp1 hp2 hs1 hs2 hcross
          exact ⟨R1 ++ R2, rfl, hj1, hj2, rfl⟩) pqY
       ·obtain ⟨R2, hR2⟩ : ∃ R2, R2 = A.drop s ++ B.drop e := ⟨_, rfl⟩
        have hp2 : R2.Perm (A.drop s ++ B.drop e) := List.Perm.of_eq hR2
        have h92 : A.drop s = [] ∨ B.drop e = [] := by first | exact .inl (List.eq_nil_of_length_eq_zero (by rw [List.length_drop]; omega)) | exact .inr (List.eq_nil_of_length_eq_zero (by rw [List.length_drop]; omega))
        have hs2 : R2.Pairwise lt := two_srt hR2 h92 pA.drop pB.drop
        rw [show (X ++ R1) ++ (A.drop s ++ (B.drop e ++ Y)) = X ++ ((R1 ++ R2) ++ Y) from by rw [hR2]; simp]
        refine WC_skip ?_
        refine WQ2 Z (by
          obtain ⟨hj1, hj2⟩ := sym_join hp1 hp2 hs1 hs2 hcross
          exact ⟨R1 ++ R2, rfl, hj1, hj2, rfl⟩) pqY
      ·have hg3 := c26
       obtain ⟨R2, hR2⟩ : ∃ R2, R2 = A.drop s ++ B.drop e := ⟨_, rfl⟩
       have hp2 : R2.Perm (A.drop s ++ B.drop e) := List.Perm.of_eq hR2
       have h92 : A.drop s = [] ∨ B.drop e = [] := by first | exact .inl (List.eq_nil_of_length_eq_zero (by rw [List.length_drop]; omega)) | exact .inr (List.eq_nil_of_length_eq_zero (by rw [List.length_drop]; omega))
       have hs2 : R2.Pairwise lt := two_srt hR2 h92 pA.drop pB.drop
       rw [show (X ++ R1) ++ (A.drop s ++ (B.drop e ++ Y)) = X ++ ((R1 ++ R2) ++ Y) from by rw [hR2]; simp]
       refine WLa Z (WLa Z (WLa Z (WLa Z (WL_nil (WQ_code (WC_F Z (WC_skip ?_)))))))
       refine WQ2 Z (by
         obtain ⟨hj1, hj2⟩ := sym_join hp1 hp2 hs1 hs2 hcross
         exact ⟨R1 ++ R2, rfl, hj1, hj2, rfl⟩) pqY
    ·have hg2 := c22
     obtain ⟨R1, hR1⟩ : ∃ R1, R1 = A.take s ++ B.take e := ⟨_, rfl⟩
     have hp1 : R1.Perm (A.take s ++ B.take e) := List.Perm.of_eq hR1
     have h91 : A.take s = [] ∨ B.take e = [] := by first | exact .inl (List.eq_nil_of_length_eq_zero (by rw [List.length_take]; omega)) | exact .inr (List.eq_nil_of_length_eq_zero (by rw [List.length_take]; omega))
     have hs1 : R1.Pairwise lt := two_srt hR1 h91 pA.take pB.take
     rw [show X ++ (A.take s ++ (B.take e ++ (A.drop s ++ (B.drop e ++ Y)))) = (X ++ R1) ++ (A.drop s ++ (B.drop e ++ Y)) from by rw [hR1]; simp]
     refine WLa Z (WLa Z (WLa Z (WLa Z (WL_nil (WQ_code (WC_F Z (WC_skip (WQ_code (WCr (WLa Z (WLa Z (WLa Z (WLa Z ?_)))))))))))))
     refine WL_splitD (s := 209) Z (fun c28 => ?_) (fun c28 => ?_)
     ·have hg3 := c28
      refine WLa Z (WLa Z (WLa Z (WLa Z (WL_nil (WQ_code ?_)))))
      refine WC_dec Z (fun c29 => ?_) (fun c29 => ?_)
      ·refine WC_region (WLa Z (WLa Z (WLa Z (WLa Z (WLa Z (WLc Z (ih (X ++ R1) (A.drop s) (B.drop e) Y n (by have h8 := hp1.length_eq; simp only [List.length_append, List.length_take, List.length_drop] at h8 ⊢; omega) hn2 (by rw [List.length_drop]; omega) (by rw [List.length_drop]; omega) pA.drop pB.drop (hcr.sub (fun _ => List.mem_of_mem_drop) (fun _ => List.mem_of_mem_drop)) (fun a ha b hb => hf a (List.mem_of_mem_drop ha) b (List.mem_of_mem_drop hb)) mid (m + e) b (by have h8 := hp1.length_eq; simp only [List.length_append, List.length_take] at h8 ⊢; omega) (by rw [List.length_drop]; omega) (by rw [List.length_drop]; omega) (by rw [List.length_drop, List.length_drop]; omega)) Z pqY ?_))))))
       rintro _ _ ⟨_, ⟨R2, rfl, hp2, hs2, rfl⟩, rfl⟩
       rw [show (X ++ R1) ++ (R2 ++ Y) = X ++ ((R1 ++ R2) ++ Y) from by simp]
       refine WL_nil ?_
       refine WQ2 Z (by
         obtain ⟨hj1, hj2⟩ := sym_join hp1 hp2 hs1 hs2 hcross
         exact ⟨R1 ++ R2, rfl, hj1, hj2, rfl⟩) pqY
      ·obtain ⟨R2, hR2⟩ : ∃ R2, R2 = A.drop s ++ B.drop e := ⟨_, rfl⟩
       have hp2 : R2.Perm (A.drop s ++ B.drop e) := List.Perm.of_eq hR2
       have h92 : A.drop s = [] ∨ B.drop e = [] := by first | exact .inl (List.eq_nil_of_length_eq_zero (by rw [List.length_drop]; omega)) | exact .inr (List.eq_nil_of_length_eq_zero (by rw [List.length_drop]; omega))
       have hs2 : R2.Pairwise lt := two_srt hR2 h92 pA.drop pB.drop
       rw [show (X ++ R1) ++ (A.drop s ++ (B.drop e ++ Y)) = X ++ ((R1 ++ R2) ++ Y) from by rw [hR2]; simp]
       refine WC_skip ?_
       refine WQ2 Z (by
         obtain ⟨hj1, hj2⟩ := sym_join hp1 hp2 hs1 hs2 hcross
         exact ⟨R1 ++ R2, rfl, hj1, hj2, rfl⟩) pqY
     ·have hg3 := c28
      obtain ⟨R2, hR2⟩ : ∃ R2, R2 = A.drop s ++ B.drop e := ⟨_, rfl⟩
      have hp2 : R2.Perm (A.drop s ++ B.drop e) := List.Perm.of_eq hR2
      have h92 : A.drop s = [] ∨ B.drop e = [] := by first | exact .inl (List.eq_nil_of_length_eq_zero (by rw [List.length_drop]; omega)) | exact .inr (List.eq_nil_of_length_eq_zero (by rw [List.length_drop]; omega))
      have hs2 : R2.Pairwise lt := two_srt hR2 h92 pA.drop pB.drop
      rw [show (X ++ R1) ++ (A.drop s ++ (B.drop e ++ Y)) = X ++ ((R1 ++ R2) ++ Y) from by rw [hR2]; simp]
      refine WLa Z (WLa Z (WLa Z (WLa Z (WL_nil (WQ_code (WC_F Z (WC_skip ?_)))))))
      refine WQ2 Z (by
        obtain ⟨hj1, hj2⟩ := sym_join hp1 hp2 hs1 hs2 hcross
        exact ⟨R1 ++ R2, rfl, hj1, hj2, rfl⟩) pqY
 ·have h0s : SymI lt A B (a - a) (m - a) := by have h9 := SymI.start (lt := lt) hA1 hB1; rw [show symLo A.length B.length = a - a from by unfold symLo; rw [if_neg (by omega)]; omega, show symHi A.length B.length = m - a from by unfold symHi; rw [if_neg (by omega)]; omega] at h9; exact h9
  refine WCr (WLa Z (WLa Z (WL_nil (WQ_code (WC_region (WLa Z (WLa Z (WL_nil (WQ_code (WCr (WLa Z (WLv Z (R_subR (r := ((mid + m - 1 : Nat) : Int)) Z Z Z (by rw [wrap64_in (by omega) (by omega)] <;> omega)) ?_))))))))))))
  refine WLa Z (WL_nil (WQ_code (WC_seq (WC_block (WC_loopF (G := SeW) [20, 21, 23, 149, 150, 151, 152, 153, 154, 155, 156, 157, 158, 159, 160, 161, 162, 163, 164, 165, 166, 167, 168, 169, 170, 171, 172, 173, 174] (fun y => a ≤ y.i ∧ a ≤ y.j ∧ SymI lt A B (y.i - a) (y.j - a)) (fun y => [(20, .int .i64 (y.i : Int)), (21, .int .i64 (y.j : Int))]) (fun y => []) (fun y => y.j - y.i) (⟨a, m⟩) (⟨by dsimp only; omega, by dsimp only; omega, h0s⟩) leZ pqY ?_)))))
  rintro y ⟨hai, haj, hSy⟩
  have hyj := hSy.hi
  have hyl := hSy.le
  have hjm : y.j ≤ m := by unfold symHi at hyj; split at hyj <;> omega
  refine WC_seq (WCr (WLa Z (WLa Z (WLa Z (WL_nil (WQ_code ?_))))))
  refine WC_dec Z (fun c30 => ?_) (fun c30 => ?_)
  ·refine WC_skip (WQ_code (WC_block (WCr (WLa Z (WLa Z (WLv Z (R_addR (r := ((y.i + y.j : Nat) : Int)) Z Z Z (by rw [wrap64_in (by omega) (by omega)] <;> omega)) ?_))))))
   refine WLv Z (R_conv (r := ((y.i + y.j : Nat) : Int)) Z Tryz.underlying3 Tryz.underlying44 Z (by rw [w64 ⟨by omega, by omega⟩])) ?_
   refine WLv Z (R_shrR (r := (((y.i + y.j) / 2 : Nat) : Int)) Z Z Z (by omega) (shr1 (y.i + y.j))) ?_
   refine WLv Z (R_conv (r := (((y.i + y.j) / 2 : Nat) : Int)) Z Tryz.underlying44 Tryz.underlying3 Z (by rw [wrap64_in (by omega) (by omega)] <;> omega)) ?_
   refine WLa Z (WL_nil (WQ_code (WC_seq (WC_draw _ [(0, true), (1, true), (2, true), (3, true), (4, true), (5, true), (6, true), (7, true), (8, true), (9, true), (10, true), (11, false), (12, true), (13, true)] followsMixed Z Z (by kernel_rfl) .all ?_))))
   have hcc := symLo_lt hA1 hB1 (c := (y.i + y.j) / 2 - a) (by have := hSy.lo; omega) (by have := hSy.hi; omega)
   obtain ⟨x, hx⟩ := getE (T := A) (i := (y.i + y.j) / 2 - a) (by omega)
   obtain ⟨z, hz⟩ := getE (T := B) (i := (A.length + B.length) / 2 - 1 - ((y.i + y.j) / 2 - a)) (by omega)
   have hxA := List.mem_of_getElem? hx
   have hzB := List.mem_of_getElem? hz
   have hzL : (X ++ (A ++ (B ++ Y)))[mid + m - 1 - (y.i + y.j) / 2]? = some z := at_in2 hz (by omega)
   have hxL : (X ++ (A ++ (B ++ Y)))[(y.i + y.j) / 2]? = some x := at_in hx (by omega)
   refine WMa Z (WMa Z (WMa Z (WMa Z (WMv Z (R_subR (r := ((mid + m - 1 - (y.i + y.j) / 2 : Nat) : Int)) Z Z Z (by rw [wrap64_in (by omega) (by omega)] <;> omega)) ?_))))
   refine WMv Z (R_indexAddrN Z Tryz.underlying23 Tryz.sizeOf3 Z Z (by omega)) ?_
   refine WMv Z (R_load (v := .int .i64 z) Z sc3 Z mmY (fm_get0 encI1 hzL (j := 0) (by omega))) ?_
   refine WMa Z (WMa Z (WMv Z (R_indexAddrN Z Tryz.underlying23 Tryz.sizeOf3 Z Z (by omega)) ?_))
   refine WMv Z (R_load (v := .int .i64 x) Z sc3 Z mmY (fm_get0 encI1 hxL (j := 0) (by omega))) ?_
   refine WMd Z (D_call (hf x hxA z hzB) Z Z Z Z pqY) ?_
   rintro _ _ ⟨_, ⟨rfl, rfl⟩, rfl⟩
   refine ⟨⟨_, pqY⟩, ?_⟩
   refine WMa Z (WMv Z (R_notD Z Z) ?_)
   refine WM_nil (WQ_code ?_)
   refine WC_dec Z (fun c31 => ?_) (fun c31 => ?_)
   ·have hxz : lt x z := (hcr x hxA z hzB).2.resolve_right (fun e9 => c31 ((hcr x hxA z hzB).1.2 e9))
    refine WC_region (WLa Z (WLv Z (R_addR (r := (((y.i + y.j) / 2 + 1 : Nat) : Int)) Z Z Z (by rw [wrap64_in (by omega) (by omega)] <;> omega)) ?_))
    refine WLa Z (WL_nil ?_)
    refine WQ_nextF (⟨(y.i + y.j) / 2 + 1, y.j⟩) (⟨by dsimp only; omega, haj, by dsimp only; rw [show (y.i + y.j) / 2 + 1 - a = (y.i + y.j) / 2 - a + 1 from by omega]; exact hSy.up (by omega) (by omega) hx hz hxz⟩) (by dsimp only; omega) leZ (psZ) Z pqY
   ·have hzx : lt z x := (hcr x hxA z hzB).1.1 (Decidable.byContradiction c31)
    refine WC_region (WLa Z (WLa Z (WL_nil ?_)))
    refine WQ_nextF (⟨y.i, (y.i + y.j) / 2⟩) (⟨hai, by dsimp only; omega, by dsimp only; exact hSy.dn (by omega) (by omega) hx hz hzx⟩) (by dsimp only; omega) leZ (psZ) Z pqY
  ·have hij : y.i = y.j := by omega
   rw [← hij] at hSy
   obtain ⟨s, hs⟩ : ∃ s, s = y.i - a := ⟨_, rfl⟩
   rw [← hs] at hSy
   obtain ⟨e, he⟩ : ∃ e, e = (A.length + B.length) / 2 - s := ⟨_, rfl⟩
   obtain ⟨q1, q2, q3⟩ := hSy.bnd hA1 hB1
   have hcross := hSy.cross ho pA pB hA1 hB1
   rw [← he] at hcross q3
   rw [show X ++ (A ++ (B ++ Y)) = (X ++ A.take s) ++ (A.drop s ++ (B.take e ++ (B.drop e ++ Y))) from by rw [List.append_assoc, ← List.append_assoc (A.take s), List.take_append_drop, ← List.append_assoc (B.take e), List.take_append_drop]]
   refine WC_exit (WQ_code (WCr (WLa Z (WLa Z (WLv Z (R_subR (r := ((m + e : Nat) : Int)) Z Z Z (by rw [wrap64_in (by omega) (by omega)] <;> omega)) ?_)))))
   refine WLa Z (WL_nil (WQ_code (WC_seq (WCr (WLa Z (WLa Z (WLa Z (WLa Z ?_))))))))
   refine WL_splitD (s := 181) Z (fun c32 => ?_) (fun c32 => ?_)
   ·have hg := c32
    refine WLa Z (WLa Z (WLa Z (WLa Z (WL_nil (WQ_code ?_)))))
    refine WC_dec Z (fun c33 => ?_) (fun c33 => ?_)
    ·refine WC_region (WLa Z (WLa Z (WLa Z (WLa Z (WLa Z (WLq Z (rot_ok (X ++ A.take s) (A.drop s) (B.take e) (B.drop e ++ Y) n (by simp only [List.length_append, List.length_take, List.length_drop]; omega) hn2 (by rw [List.length_drop]; omega) (by rw [List.length_take]; omega) wa c tl (.func (.func gf) #[] ca.toArray) y.i m (m + e) (by rw [List.length_append, List.length_take]; omega) (by rw [List.length_drop]; omega) (by rw [List.length_take]; omega)) Z pqY ?_))))))
     rw [show (X ++ A.take s) ++ (B.take e ++ (A.drop s ++ (B.drop e ++ Y))) = X ++ (A.take s ++ (B.take e ++ (A.drop s ++ (B.drop e ++ Y)))) from by simp]
     refine WL_nil (WQ_code (WC_seq (WCr (WLa Z (WLa Z (WLa Z (WLa Z ?_)))))))
     refine WL_splitD (s := 195) Z (fun c34 => ?_) (fun c34 => ?_)
     ·have hg2 := c34
      refine WLa Z (WLa Z (WLa Z (WLa Z (WL_nil (WQ_code ?_)))))
      refine WC_dec Z (fun c35 => ?_) (fun c35 => ?_)
      ·refine WC_region (WLa Z (WLa Z (WLa Z (WLa Z (WLa Z (WLc Z (ih X (A.take s) (B.take e) (A.drop s ++ (B.drop e ++ Y)) n (by simp only [List.length_append, List.length_take, List.length_drop]; omega) hn2 (by rw [List.length_take]; omega) (by rw [List.length_take]; omega) pA.take pB.take (hcr.sub (fun _ => List.mem_of_mem_take) (fun _ => List.mem_of_mem_take)) (fun a ha b hb => hf a (List.mem_of_mem_take ha) b (List.mem_of_mem_take hb)) a y.i mid ha (by rw [List.length_take]; omega) (by rw [List.length_take]; omega) (by rw [List.length_take, List.length_take]; omega)) Z pqY ?_))))))
       rintro _ _ ⟨_, ⟨R1, rfl, hp1, hs1, rfl⟩, rfl⟩
       rw [show X ++ (R1 ++ (A.drop s ++ (B.drop e ++ Y))) = (X ++ R1) ++ (A.drop s ++ (B.drop e ++ Y)) from by simp]
       refine WL_nil (WQ_code (WCr (WLa Z (WLa Z (WLa Z (WLa Z ?_))))))
       refine WL_splitD (s := 209) Z (fun c36 => ?_) (fun c36 => ?_)
       ·have hg3 := c36
        refine WLa Z (WLa Z (WLa Z (WLa Z (WL_nil (WQ_code ?_)))))
        refine WC_dec Z (fun c37 => ?_) (fun c37 => ?_)
        ·refine WC_region (WLa Z (WLa Z (WLa Z (WLa Z (WLa Z (WLc Z (ih (X ++ R1) (A.drop s) (B.drop e) Y n (by have h8 := hp1.length_eq; simp only [List.length_append, List.length_take, List.length_drop] at h8 ⊢; omega) hn2 (by rw [List.length_drop]; omega) (by rw [List.length_drop]; omega) pA.drop pB.drop (hcr.sub (fun _ => List.mem_of_mem_drop) (fun _ => List.mem_of_mem_drop)) (fun a ha b hb => hf a (List.mem_of_mem_drop ha) b (List.mem_of_mem_drop hb)) mid (m + e) b (by have h8 := hp1.length_eq; simp only [List.length_append, List.length_take] at h8 ⊢; omega) (by rw [List.length_drop]; omega) (by rw [List.length_drop]; omega) (by rw [List.length_drop, List.length_drop]; omega)) Z pqY ?_))))))
         rintro _ _ ⟨_, ⟨R2, rfl, hp2, hs2, rfl⟩, rfl⟩
         rw [show (X ++ R1) ++ (R2 ++ Y) = X ++ ((R1 ++ R2) ++ Y) from by simp]
         refine WL_nil ?_
         refine WQ2 Z (by
           obtain ⟨hj1, hj2⟩ := sym_join hp1 hp2 hs1 hs2 hcross
           exact ⟨R1 ++ R2, rfl, hj1, hj2, rfl⟩) pqY
        ·obtain ⟨R2, hR2⟩ : ∃ R2, R2 = A.drop s ++ B.drop e := ⟨_, rfl⟩
         have hp2 : R2.Perm (A.drop s ++ B.drop e) := List.Perm.of_eq hR2
         have h92 : A.drop s = [] ∨ B.drop e = [] := by first | exact .inl (List.eq_nil_of_length_eq_zero (by rw [List.length_drop]; omega)) | exact .inr (List.eq_nil_of_length_eq_zero (by rw [List.length_drop]; omega))
         have hs2 : R2.Pairwise lt := two_srt hR2 h92 pA.drop pB.drop
         rw [show (X ++ R1) ++ (A.drop s ++ (B.drop e ++ Y)) = X ++ ((R1 ++ R2) ++ Y) from by rw [hR2]; simp]
         refine WC_skip ?_
         refine WQ2 Z (by
           obtain ⟨hj1, hj2⟩ := sym_join hp1 hp2 hs1 hs2 hcross
           exact ⟨R1 ++ R2, rfl, hj1, hj2, rfl⟩) pqY
       ·have hg3 := c36
        obtain ⟨R2, hR2⟩ : ∃ R2, R2 = A.drop s ++ B.drop e := ⟨_, rfl⟩
        have hp2 : R2.Perm (A.drop s ++ B.drop e) := List.Perm.of_eq hR2
        have h92 : A.drop s = [] ∨ B.drop e = [] := by first | exact .inl (List.eq_nil_of_length_eq_zero (by rw [List.length_drop]; omega)) | exact .inr (List.eq_nil_of_length_eq_zero (by rw [List.length_drop]; omega))
        have hs2 : R2.Pairwise lt := two_srt hR2 h92 pA.drop pB.drop
        rw [show (X ++ R1) ++ (A.drop s ++ (B.drop e ++ Y)) = X ++ ((R1 ++ R2) ++ Y) from by rw [hR2]; simp]
        refine WLa Z (WLa Z (WLa Z (WLa Z (WL_nil (WQ_code (WC_F Z (WC_skip ?_)))))))
        refine WQ2 Z (by
          obtain ⟨hj1, hj2⟩ := sym_join hp1 hp2 hs1 hs2 hcross
          exact ⟨R1 ++ R2, rfl, hj1, hj2, rfl⟩) pqY
      ·obtain ⟨R1, hR1⟩ : ∃ R1, R1 = A.take s ++ B.take e := ⟨_, rfl⟩
       have hp1 : R1.Perm (A.take s ++ B.take e) := List.Perm.of_eq hR1
       have h91 : A.take s = [] ∨ B.take e = [] := by first | exact .inl (List.eq_nil_of_length_eq_zero (by rw [List.length_take]; omega)) | exact .inr (List.eq_nil_of_length_eq_zero (by rw [List.length_take]; omega))
       have hs1 : R1.Pairwise lt := two_srt hR1 h91 pA.take pB.take
       rw [show X ++ (A.take s ++ (B.take e ++ (A.drop s ++ (B.drop e ++ Y)))) = (X ++ R1) ++ (A.drop s ++ (B.drop e ++ Y)) from by rw [hR1]; simp]
       refine WC_skip (WQ_code (WCr (WLa Z (WLa Z (WLa Z (WLa Z ?_))))))
       refine WL_splitD (s := 209) Z (fun c38 => ?_) (fun c38 => ?_)
       ·have hg3 := c38
        refine WLa Z (WLa Z (WLa Z (WLa Z (WL_nil (WQ_code ?_)))))
        refine WC_dec Z (fun c39 => ?_) (fun c39 => ?_)
        ·refine WC_region (WLa Z (WLa Z (WLa Z (WLa Z (WLa Z (WLc Z (ih (X ++ R1) (A.drop s) (B.drop e) Y n (by have h8 := hp1.length_eq; simp only [List.length_append, List.length_take, List.length_drop] at h8 ⊢; omega) hn2 (by rw [List.length_drop]; omega) (by rw [List.length_drop]; omega) pA.drop pB.drop (hcr.sub (fun _ => List.mem_of_mem_drop) (fun _ => List.mem_of_mem_drop)) (fun a ha b hb => hf a (List.mem_of_mem_drop ha) b (List.mem_of_mem_drop hb)) mid (m + e) b (by have h8 := hp1.length_eq; simp only [List.length_append, List.length_take] at h8 ⊢; omega) (by rw [List.length_drop]; omega) (by rw [List.length_drop]; omega) (by rw [List.length_drop, List.length_drop]; omega)) Z pqY ?_))))))
         rintro _ _ ⟨_, ⟨R2, rfl, hp2, hs2, rfl⟩, rfl⟩
         rw [show (X ++ R1) ++ (R2 ++ Y) = X ++ ((R1 ++ R2) ++ Y) from by simp]
         refine WL_nil ?_
         refine WQ2 Z (by
           obtain ⟨hj1, hj2⟩ := sym_join hp1 hp2 hs1 hs2 hcross
           exact ⟨R1 ++ R2, rfl, hj1, hj2, rfl⟩) pqY
        ·obtain ⟨R2, hR2⟩ : ∃ R2, R2 = A.drop s ++ B.drop e := ⟨_, rfl⟩
         have hp2 : R2.Perm (A.drop s ++ B.drop e) := List.Perm.of_eq hR2
         have h92 : A.drop s = [] ∨ B.drop e = [] := by first | exact .inl (List.eq_nil_of_length_eq_zero (by rw [List.length_drop]; omega)) | exact .inr (List.eq_nil_of_length_eq_zero (by rw [List.length_drop]; omega))
         have hs2 : R2.Pairwise lt := two_srt hR2 h92 pA.drop pB.drop
         rw [show (X ++ R1) ++ (A.drop s ++ (B.drop e ++ Y)) = X ++ ((R1 ++ R2) ++ Y) from by rw [hR2]; simp]
         refine WC_skip ?_
         refine WQ2 Z (by
           obtain ⟨hj1, hj2⟩ := sym_join hp1 hp2 hs1 hs2 hcross
           exact ⟨R1 ++ R2, rfl, hj1, hj2, rfl⟩) pqY
       ·have hg3 := c38
        obtain ⟨R2, hR2⟩ : ∃ R2, R2 = A.drop s ++ B.drop e := ⟨_, rfl⟩
        have hp2 : R2.Perm (A.drop s ++ B.drop e) := List.Perm.of_eq hR2
        have h92 : A.drop s = [] ∨ B.drop e = [] := by first | exact .inl (List.eq_nil_of_length_eq_zero (by rw [List.length_drop]; omega)) | exact .inr (List.eq_nil_of_length_eq_zero (by rw [List.length_drop]; omega))
        have hs2 : R2.Pairwise lt := two_srt hR2 h92 pA.drop pB.drop
        rw [show (X ++ R1) ++ (A.drop s ++ (B.drop e ++ Y)) = X ++ ((R1 ++ R2) ++ Y) from by rw [hR2]; simp]
        refine WLa Z (WLa Z (WLa Z (WLa Z (WL_nil (WQ_code (WC_F Z (WC_skip ?_)))))))
        refine WQ2 Z (by
          obtain ⟨hj1, hj2⟩ := sym_join hp1 hp2 hs1 hs2 hcross
          exact ⟨R1 ++ R2, rfl, hj1, hj2, rfl⟩) pqY
     ·have hg2 := c34
      obtain ⟨R1, hR1⟩ : ∃ R1, R1 = A.take s ++ B.take e := ⟨_, rfl⟩
      have hp1 : R1.Perm (A.take s ++ B.take e) := List.Perm.of_eq hR1
      have h91 : A.take s = [] ∨ B.take e = [] := by first | exact .inl (List.eq_nil_of_length_eq_zero (by rw [List.length_take]; omega)) | exact .inr (List.eq_nil_of_length_eq_zero (by rw [List.length_take]; omega))
      have hs1 : R1.Pairwise lt := two_srt hR1 h91 pA.take pB.take
      rw [show X ++ (A.take s ++ (B.take e ++ (A.drop s ++ (B.drop e ++ Y)))) = (X ++ R1) ++ (A.drop s ++ (B.drop e ++ Y)) from by rw [hR1]; simp]
      refine WLa Z (WLa Z (WLa Z (WLa Z (WL_nil (WQ_code (WC_F Z (WC_skip (WQ_code (WCr (WLa Z (WLa Z (WLa Z (WLa Z ?_)))))))))))))
      refine WL_splitD (s := 209) Z (fun c40 => ?_) (fun c40 => ?_)
      ·have hg3 := c40
       refine WLa Z (WLa Z (WLa Z (WLa Z (WL_nil (WQ_code ?_)))))
       refine WC_dec Z (fun c41 => ?_) (fun c41 => ?_)
       ·refine WC_region (WLa Z (WLa Z (WLa Z (WLa Z (WLa Z (WLc Z (ih (X ++ R1) (A.drop s) (B.drop e) Y n (by have h8 := hp1.length_eq; simp only [List.length_append, List.length_take, List.length_drop] at h8 ⊢; omega) hn2 (by rw [List.length_drop]; omega) (by rw [List.length_drop]; omega) pA.drop pB.drop (hcr.sub (fun _ => List.mem_of_mem_drop) (fun _ => List.mem_of_mem_drop)) (fun a ha b hb => hf a (List.mem_of_mem_drop ha) b (List.mem_of_mem_drop hb)) mid (m + e) b (by have h8 := hp1.length_eq; simp only [List.length_append, List.length_take] at h8 ⊢; omega) (by rw [List.length_drop]; omega) (by rw [List.length_drop]; omega) (by rw [List.length_drop, List.length_drop]; omega)) Z pqY ?_))))))
        rintro _ _ ⟨_, ⟨R2, rfl, hp2, hs2, rfl⟩, rfl⟩
        rw [show (X ++ R1) ++ (R2 ++ Y) = X ++ ((R1 ++ R2) ++ Y) from by simp]
        refine WL_nil ?_
        refine WQ2 Z (by
          obtain ⟨hj1, hj2⟩ := sym_join hp1 hp2 hs1 hs2 hcross
          exact ⟨R1 ++ R2, rfl, hj1, hj2, rfl⟩) pqY
       ·obtain ⟨R2, hR2⟩ : ∃ R2, R2 = A.drop s ++ B.drop e := ⟨_, rfl⟩
        have hp2 : R2.Perm (A.drop s ++ B.drop e) := List.Perm.of_eq hR2
        have h92 : A.drop s = [] ∨ B.drop e = [] := by first | exact .inl (List.eq_nil_of_length_eq_zero (by rw [List.length_drop]; omega)) | exact .inr (List.eq_nil_of_length_eq_zero (by rw [List.length_drop]; omega))
        have hs2 : R2.Pairwise lt := two_srt hR2 h92 pA.drop pB.drop
        rw [show (X ++ R1) ++ (A.drop s ++ (B.drop e ++ Y)) = X ++ ((R1 ++ R2) ++ Y) from by rw [hR2]; simp]
        refine WC_skip ?_
        refine WQ2 Z (by
          obtain ⟨hj1, hj2⟩ := sym_join hp1 hp2 hs1 hs2 hcross
          exact ⟨R1 ++ R2, rfl, hj1, hj2, rfl⟩) pqY
      ·have hg3 := c40
       obtain ⟨R2, hR2⟩ : ∃ R2, R2 = A.drop s ++ B.drop e := ⟨_, rfl⟩
       have hp2 : R2.Perm (A.drop s ++ B.drop e) := List.Perm.of_eq hR2
       have h92 : A.drop s = [] ∨ B.drop e = [] := by first | exact .inl (List.eq_nil_of_length_eq_zero (by rw [List.length_drop]; omega)) | exact .inr (List.eq_nil_of_length_eq_zero (by rw [List.length_drop]; omega))
       have hs2 : R2.Pairwise lt := two_srt hR2 h92 pA.drop pB.drop
       rw [show (X ++ R1) ++ (A.drop s ++ (B.drop e ++ Y)) = X ++ ((R1 ++ R2) ++ Y) from by rw [hR2]; simp]
       refine WLa Z (WLa Z (WLa Z (WLa Z (WL_nil (WQ_code (WC_F Z (WC_skip ?_)))))))
       refine WQ2 Z (by
         obtain ⟨hj1, hj2⟩ := sym_join hp1 hp2 hs1 hs2 hcross
         exact ⟨R1 ++ R2, rfl, hj1, hj2, rfl⟩) pqY
    ·have h9 : A.drop s = [] ∨ B.take e = [] := by first | exact .inl (List.eq_nil_of_length_eq_zero (by rw [List.length_drop]; omega)) | exact .inr (List.eq_nil_of_length_eq_zero (by rw [List.length_take]; omega))
     have hE1 : (X ++ A.take s) ++ (A.drop s ++ (B.take e ++ (B.drop e ++ Y))) = X ++ (A.take s ++ (B.take e ++ (A.drop s ++ (B.drop e ++ Y)))) := by rcases h9 with h9 | h9 <;> rw [h9] <;> simp
     rw [hE1]
     refine WC_skip (WQ_code (WC_seq (WCr (WLa Z (WLa Z (WLa Z (WLa Z ?_)))))))
     refine WL_splitD (s := 195) Z (fun c42 => ?_) (fun c42 => ?_)
     ·have hg2 := c42
      refine WLa Z (WLa Z (WLa Z (WLa Z (WL_nil (WQ_code ?_)))))
      refine WC_dec Z (fun c43 => ?_) (fun c43 => ?_)
      ·refine WC_region (WLa Z (WLa Z (WLa Z (WLa Z (WLa Z (WLc Z (ih X (A.take s) (B.take e) (A.drop s ++ (B.drop e ++ Y)) n (by simp only [List.length_append, List.length_take, List.length_drop]; omega) hn2 (by rw [List.length_take]; omega) (by rw [List.length_take]; omega) pA.take pB.take (hcr.sub (fun _ => List.mem_of_mem_take) (fun _ => List.mem_of_mem_take)) (fun a ha b hb => hf a (List.mem_of_mem_take ha) b (List.mem_of_mem_take hb)) a y.i mid ha (by rw [List.length_take]; omega) (by rw [List.length_take]; omega) (by rw [List.length_take, List.length_take]; omega)) Z pqY ?_))))))
       rintro _ _ ⟨_, ⟨R1, rfl, hp1, hs1, rfl⟩, rfl⟩
       rw [show X ++ (R1 ++ (A.drop s ++ (B.drop e ++ Y))) = (X ++ R1) ++ (A.drop s ++ (B.drop e ++ Y)) from by simp]
       refine WL_nil (WQ_code (WCr (WLa Z (WLa Z (WLa Z (WLa Z ?_))))))
       refine WL_splitD (s := 209) Z (fun c44 => ?_) (fun c44 => ?_)
       ·have hg3 := c44
        refine WLa Z (WLa Z (WLa Z (WLa Z (WL_nil (WQ_code ?_)))))
        refine WC_dec Z (fun c45 => ?_) (fun c45 => ?_)
        ·refine WC_region (WLa Z (WLa Z (WLa Z (WLa Z (WLa Z (WLc Z (ih (X ++ R1) (A.drop s) (B.drop e) Y n (by have h8 := hp1.length_eq; simp only [List.length_append, List.length_take, List.length_drop] at h8 ⊢; omega) hn2 (by rw [List.length_drop]; omega) (by rw [List.length_drop]; omega) pA.drop pB.drop (hcr.sub (fun _ => List.mem_of_mem_drop) (fun _ => List.mem_of_mem_drop)) (fun a ha b hb => hf a (List.mem_of_mem_drop ha) b (List.mem_of_mem_drop hb)) mid (m + e) b (by have h8 := hp1.length_eq; simp only [List.length_append, List.length_take] at h8 ⊢; omega) (by rw [List.length_drop]; omega) (by rw [List.length_drop]; omega) (by rw [List.length_drop, List.length_drop]; omega)) Z pqY ?_))))))
         rintro _ _ ⟨_, ⟨R2, rfl, hp2, hs2, rfl⟩, rfl⟩
         rw [show (X ++ R1) ++ (R2 ++ Y) = X ++ ((R1 ++ R2) ++ Y) from by simp]
         refine WL_nil ?_
         refine WQ2 Z (by
           obtain ⟨hj1, hj2⟩ := sym_join hp1 hp2 hs1 hs2 hcross
           exact ⟨R1 ++ R2, rfl, hj1, hj2, rfl⟩) pqY
        ·obtain ⟨R2, hR2⟩ : ∃ R2, R2 = A.drop s ++ B.drop e := ⟨_, rfl⟩
         have hp2 : R2.Perm (A.drop s ++ B.drop e) := List.Perm.of_eq hR2
         have h92 : A.drop s = [] ∨ B.drop e = [] := by first | exact .inl (List.eq_nil_of_length_eq_zero (by rw [List.length_drop]; omega)) | exact .inr (List.eq_nil_of_length_eq_zero (by rw [List.length_drop]; omega))
         have hs2 : R2.Pairwise lt := two_srt hR2 h92 pA.drop pB.drop
         rw [show (X ++ R1) ++ (A.drop s ++ (B.drop e ++ Y)) = X ++ ((R1 ++ R2) ++ Y) from by rw [hR2]; simp]
         refine WC_skip ?_
         refine WQ2 Z (by
           obtain ⟨hj1, hj2⟩ := sym_join hp1 hp2 hs1 hs2 hcross
           exact ⟨R1 ++ R2, rfl, hj1, hj2, rfl⟩) pqY
       ·have hg3 := c44
        obtain ⟨R2, hR2⟩ : ∃ R2, R2 = A.drop s ++ B.drop e := ⟨_, rfl⟩
        have hp2 : R2.Perm (A.drop s ++ B.drop e) := List.Perm.of_eq hR2
        have h92 : A.drop s = [] ∨ B.drop e = [] := by first | exact .inl (List.eq_nil_of_length_eq_zero (by rw [List.length_drop]; omega)) | exact .inr (List.eq_nil_of_length_eq_zero (by rw [List.length_drop]; omega))
        have hs2 : R2.Pairwise lt := two_srt hR2 h92 pA.drop pB.drop
        rw [show (X ++ R1) ++ (A.drop s ++ (B.drop e ++ Y)) = X ++ ((R1 ++ R2) ++ Y) from by rw [hR2]; simp]
        refine WLa Z (WLa Z (WLa Z (WLa Z (WL_nil (WQ_code (WC_F Z (WC_skip ?_)))))))
        refine WQ2 Z (by
          obtain ⟨hj1, hj2⟩ := sym_join hp1 hp2 hs1 hs2 hcross
          exact ⟨R1 ++ R2, rfl, hj1, hj2, rfl⟩) pqY
      ·obtain ⟨R1, hR1⟩ : ∃ R1, R1 = A.take s ++ B.take e := ⟨_, rfl⟩
       have hp1 : R1.Perm (A.take s ++ B.take e) := List.Perm.of_eq hR1
       have h91 : A.take s = [] ∨ B.take e = [] := by first | exact .inl (List.eq_nil_of_length_eq_zero (by rw [List.length_take]; omega)) | exact .inr (List.eq_nil_of_length_eq_zero (by rw [List.length_take]; omega))
       have hs1 : R1.Pairwise lt := two_srt hR1 h91 pA.take pB.take
       rw [show X ++ (A.take s ++ (B.take e ++ (A.drop s ++ (B.drop e ++ Y)))) = (X ++ R1) ++ (A.drop s ++ (B.drop e ++ Y)) from by rw [hR1]; simp]
       refine WC_skip (WQ_code (WCr (WLa Z (WLa Z (WLa Z (WLa Z ?_))))))
       refine WL_splitD (s := 209) Z (fun c46 => ?_) (fun c46 => ?_)
       ·have hg3 := c46
        refine WLa Z (WLa Z (WLa Z (WLa Z (WL_nil (WQ_code ?_)))))
        refine WC_dec Z (fun c47 => ?_) (fun c47 => ?_)
        ·refine WC_region (WLa Z (WLa Z (WLa Z (WLa Z (WLa Z (WLc Z (ih (X ++ R1) (A.drop s) (B.drop e) Y n (by have h8 := hp1.length_eq; simp only [List.length_append, List.length_take, List.length_drop] at h8 ⊢; omega) hn2 (by rw [List.length_drop]; omega) (by rw [List.length_drop]; omega) pA.drop pB.drop (hcr.sub (fun _ => List.mem_of_mem_drop) (fun _ => List.mem_of_mem_drop)) (fun a ha b hb => hf a (List.mem_of_mem_drop ha) b (List.mem_of_mem_drop hb)) mid (m + e) b (by have h8 := hp1.length_eq; simp only [List.length_append, List.length_take] at h8 ⊢; omega) (by rw [List.length_drop]; omega) (by rw [List.length_drop]; omega) (by rw [List.length_drop, List.length_drop]; omega)) Z pqY ?_))))))
         rintro _ _ ⟨_, ⟨R2, rfl, hp2, hs2, rfl⟩, rfl⟩
         rw [show (X ++ R1) ++ (R2 ++ Y) = X ++ ((R1 ++ R2) ++ Y) from by simp]
         refine WL_nil ?_
         refine WQ2 Z (by
           obtain ⟨hj1, hj2⟩ := sym_join hp1 hp2 hs1 hs2 hcross
           exact ⟨R1 ++ R2, rfl, hj1, hj2, rfl⟩) pqY
        ·obtain ⟨R2, hR2⟩ : ∃ R2, R2 = A.drop s ++ B.drop e := ⟨_, rfl⟩
         have hp2 : R2.Perm (A.drop s ++ B.drop e) := List.Perm.of_eq hR2
         have h92 : A.drop s = [] ∨ B.drop e = [] := by first | exact .inl (List.eq_nil_of_length_eq_zero (by rw [List.length_drop]; omega)) | exact .inr (List.eq_nil_of_length_eq_zero (by rw [List.length_drop]; omega))
         have hs2 : R2.Pairwise lt := two_srt hR2 h92 pA.drop pB.drop
         rw [show (X ++ R1) ++ (A.drop s ++ (B.drop e ++ Y)) = X ++ ((R1 ++ R2) ++ Y) from by rw [hR2]; simp]
         refine WC_skip ?_
         refine WQ2 Z (by
           obtain ⟨hj1, hj2⟩ := sym_join hp1 hp2 hs1 hs2 hcross
           exact ⟨R1 ++ R2, rfl, hj1, hj2, rfl⟩) pqY
       ·have hg3 := c46
        obtain ⟨R2, hR2⟩ : ∃ R2, R2 = A.drop s ++ B.drop e := ⟨_, rfl⟩
        have hp2 : R2.Perm (A.drop s ++ B.drop e) := List.Perm.of_eq hR2
        have h92 : A.drop s = [] ∨ B.drop e = [] := by first | exact .inl (List.eq_nil_of_length_eq_zero (by rw [List.length_drop]; omega)) | exact .inr (List.eq_nil_of_length_eq_zero (by rw [List.length_drop]; omega))
        have hs2 : R2.Pairwise lt := two_srt hR2 h92 pA.drop pB.drop
        rw [show (X ++ R1) ++ (A.drop s ++ (B.drop e ++ Y)) = X ++ ((R1 ++ R2) ++ Y) from by rw [hR2]; simp]
        refine WLa Z (WLa Z (WLa Z (WLa Z (WL_nil (WQ_code (WC_F Z (WC_skip ?_)))))))
        refine WQ2 Z (by
          obtain ⟨hj1, hj2⟩ := sym_join hp1 hp2 hs1 hs2 hcross
          exact ⟨R1 ++ R2, rfl, hj1, hj2, rfl⟩) pqY
     ·have hg2 := c42
      obtain ⟨R1, hR1⟩ : ∃ R1, R1 = A.take s ++ B.take e := ⟨_, rfl⟩
      have hp1 : R1.Perm (A.take s ++ B.take e) := List.Perm.of_eq hR1
      have h91 : A.take s = [] ∨ B.take e = [] := by first | exact .inl (List.eq_nil_of_length_eq_zero (by rw [List.length_take]; omega)) | exact .inr (List.eq_nil_of_length_eq_zero (by rw [List.length_take]; omega))
      have hs1 : R1.Pairwise lt := two_srt hR1 h91 pA.take pB.take
      rw [show X ++ (A.take s ++ (B.take e ++ (A.drop s ++ (B.drop e ++ Y)))) = (X ++ R1) ++ (A.drop s ++ (B.drop e ++ Y)) from by rw [hR1]; simp]
      refine WLa Z (WLa Z (WLa Z (WLa Z (WL_nil (WQ_code (WC_F Z (WC_skip (WQ_code (WCr (WLa Z (WLa Z (WLa Z (WLa Z ?_)))))))))))))
      refine WL_splitD (s := 209) Z (fun c48 => ?_) (fun c48 => ?_)
      ·have hg3 := c48
       refine WLa Z (WLa Z (WLa Z (WLa Z (WL_nil (WQ_code ?_)))))
       refine WC_dec Z (fun c49 => ?_) (fun c49 => ?_)
       ·refine WC_region (WLa Z (WLa Z (WLa Z (WLa Z (WLa Z (WLc Z (ih (X ++ R1) (A.drop s) (B.drop e) Y n (by have h8 := hp1.length_eq; simp only [List.length_append, List.length_take, List.length_drop] at h8 ⊢; omega) hn2 (by rw [List.length_drop]; omega) (by rw [List.length_drop]; omega) pA.drop pB.drop (hcr.sub (fun _ => List.mem_of_mem_drop) (fun _ => List.mem_of_mem_drop)) (fun a ha b hb => hf a (List.mem_of_mem_drop ha) b (List.mem_of_mem_drop hb)) mid (m + e) b (by have h8 := hp1.length_eq; simp only [List.length_append, List.length_take] at h8 ⊢; omega) (by rw [List.length_drop]; omega) (by rw [List.length_drop]; omega) (by rw [List.length_drop, List.length_drop]; omega)) Z pqY ?_))))))
        rintro _ _ ⟨_, ⟨R2, rfl, hp2, hs2, rfl⟩, rfl⟩
        rw [show (X ++ R1) ++ (R2 ++ Y) = X ++ ((R1 ++ R2) ++ Y) from by simp]
        refine WL_nil ?_
        refine WQ2 Z (by
          obtain ⟨hj1, hj2⟩ := sym_join hp1 hp2 hs1 hs2 hcross
          exact ⟨R1 ++ R2, rfl, hj1, hj2, rfl⟩) pqY
       ·obtain ⟨R2, hR2⟩ : ∃ R2, R2 = A.drop s ++ B.drop e := ⟨_, rfl⟩
        have hp2 : R2.Perm (A.drop s ++ B.drop e) := List.Perm.of_eq hR2
        have h92 : A.drop s = [] ∨ B.drop e = [] := by first | exact .inl (List.eq_nil_of_length_eq_zero (by rw [List.length_drop]; omega)) | exact .inr (List.eq_nil_of_length_eq_zero (by rw [List.length_drop]; omega))
        have hs2 : R2.Pairwise lt := two_srt hR2 h92 pA.drop pB.drop
        rw [show (X ++ R1) ++ (A.drop s ++ (B.drop e ++ Y)) = X ++ ((R1 ++ R2) ++ Y) from by rw [hR2]; simp]
        refine WC_skip ?_
        refine WQ2 Z (by
          obtain ⟨hj1, hj2⟩ := sym_join hp1 hp2 hs1 hs2 hcross
          exact ⟨R1 ++ R2, rfl, hj1, hj2, rfl⟩) pqY
      ·have hg3 := c48
       obtain ⟨R2, hR2⟩ : ∃ R2, R2 = A.drop s ++ B.drop e := ⟨_, rfl⟩
       have hp2 : R2.Perm (A.drop s ++ B.drop e) := List.Perm.of_eq hR2
       have h92 : A.drop s = [] ∨ B.drop e = [] := by first | exact .inl (List.eq_nil_of_length_eq_zero (by rw [List.length_drop]; omega)) | exact .inr (List.eq_nil_of_length_eq_zero (by rw [List.length_drop]; omega))
       have hs2 : R2.Pairwise lt := two_srt hR2 h92 pA.drop pB.drop
       rw [show (X ++ R1) ++ (A.drop s ++ (B.drop e ++ Y)) = X ++ ((R1 ++ R2) ++ Y) from by rw [hR2]; simp]
       refine WLa Z (WLa Z (WLa Z (WLa Z (WL_nil (WQ_code (WC_F Z (WC_skip ?_)))))))
       refine WQ2 Z (by
         obtain ⟨hj1, hj2⟩ := sym_join hp1 hp2 hs1 hs2 hcross
         exact ⟨R1 ++ R2, rfl, hj1, hj2, rfl⟩) pqY
   ·have hg := c32
    have h9 : A.drop s = [] ∨ B.take e = [] := by first | exact .inl (List.eq_nil_of_length_eq_zero (by rw [List.length_drop]; omega)) | exact .inr (List.eq_nil_of_length_eq_zero (by rw [List.length_take]; omega))
    have hE1 : (X ++ A.take s) ++ (A.drop s ++ (B.take e ++ (B.drop e ++ Y))) = X ++ (A.take s ++ (B.take e ++ (A.drop s ++ (B.drop e ++ Y)))) := by rcases h9 with h9 | h9 <;> rw [h9] <;> simp
    rw [hE1]
    refine WLa Z (WLa Z (WLa Z (WLa Z (WL_nil (WQ_code (WC_F Z (WC_skip (WQ_code (WC_seq (WCr (WLa Z (WLa Z (WLa Z (WLa Z ?_))))))))))))))
    refine WL_splitD (s := 195) Z (fun c50 => ?_) (fun c50 => ?_)
    ·have hg2 := c50
     refine WLa Z (WLa Z (WLa Z (WLa Z (WL_nil (WQ_code ?_)))))
     refine WC_dec Z (fun c51 => ?_) (fun c51 => ?_)
     ·refine WC_region (WLa Z (WLa Z (WLa Z (WLa Z (WLa Z (WLc Z (ih X (A.take s) (B.take e) (A.drop s ++ (B.drop e ++ Y)) n (by simp only [List.length_append, List.length_take, List.length_drop]; omega) hn2 (by rw [List.length_take]; omega) (by rw [List.length_take]; omega) pA.take pB.take (hcr.sub (fun _ => List.mem_of_mem_take) (fun _ => List.mem_of_mem_take)) (fun a ha b hb => hf a (List.mem_of_mem_take ha) b (List.mem_of_mem_take hb)) a y.i mid ha (by rw [List.length_take]; omega) (by rw [List.length_take]; omega) (by rw [List.length_take, List.length_take]; omega)) Z pqY ?_))))))
      rintro _ _ ⟨_, ⟨R1, rfl, hp1, hs1, rfl⟩, rfl⟩
      rw [show X ++ (R1 ++ (A.drop s ++ (B.drop e ++ Y))) = (X ++ R1) ++ (A.drop s ++ (B.drop e ++ Y)) from by simp]
      refine WL_nil (WQ_code (WCr (WLa Z (WLa Z (WLa Z (WLa Z ?_))))))
      refine WL_splitD (s := 209) Z (fun c52 => ?_) (fun c52 => ?_)
      ·have hg3 := c52
       refine WLa Z (WLa Z (WLa Z (WLa Z (WL_nil (WQ_code ?_)))))
       refine WC_dec Z (fun c53 => ?_) (fun c53 => ?_)
       ·refine WC_region (WLa Z (WLa Z (WLa Z (WLa Z (WLa Z (WLc Z (ih (X ++ R1) (A.drop s) (B.drop e) Y n (by have h8 := hp1.length_eq; simp only [List.length_append, List.length_take, List.length_drop] at h8 ⊢; omega) hn2 (by rw [List.length_drop]; omega) (by rw [List.length_drop]; omega) pA.drop pB.drop (hcr.sub (fun _ => List.mem_of_mem_drop) (fun _ => List.mem_of_mem_drop)) (fun a ha b hb => hf a (List.mem_of_mem_drop ha) b (List.mem_of_mem_drop hb)) mid (m + e) b (by have h8 := hp1.length_eq; simp only [List.length_append, List.length_take] at h8 ⊢; omega) (by rw [List.length_drop]; omega) (by rw [List.length_drop]; omega) (by rw [List.length_drop, List.length_drop]; omega)) Z pqY ?_))))))
        rintro _ _ ⟨_, ⟨R2, rfl, hp2, hs2, rfl⟩, rfl⟩
        rw [show (X ++ R1) ++ (R2 ++ Y) = X ++ ((R1 ++ R2) ++ Y) from by simp]
        refine WL_nil ?_
        refine WQ2 Z (by
          obtain ⟨hj1, hj2⟩ := sym_join hp1 hp2 hs1 hs2 hcross
          exact ⟨R1 ++ R2, rfl, hj1, hj2, rfl⟩) pqY
       ·obtain ⟨R2, hR2⟩ : ∃ R2, R2 = A.drop s ++ B.drop e := ⟨_, rfl⟩
        have hp2 : R2.Perm (A.drop s ++ B.drop e) := List.Perm.of_eq hR2
        have h92 : A.drop s = [] ∨ B.drop e = [] := by first | exact .inl (List.eq_nil_of_length_eq_zero (by rw [List.length_drop]; omega)) | exact .inr (List.eq_nil_of_length_eq_zero (by rw [List.length_drop]; omega))
        have hs2 : R2.Pairwise lt := two_srt hR2 h92 pA.drop pB.drop
        rw [show (X ++ R1) ++ (A.drop s ++ (B.drop e ++ Y)) = X ++ ((R1 ++ R2) ++ Y) from by rw [hR2]; simp]
        refine WC_skip ?_
        refine WQ2 Z (by
          obtain ⟨hj1, hj2⟩ := sym_join hp1 hp2 hs1 hs2 hcross
          exact ⟨R1 ++ R2, rfl, hj1, hj2, rfl⟩) pqY
      ·have hg3 := c52
       obtain ⟨R2, hR2⟩ : ∃ R2, R2 = A.drop s ++ B.drop e := ⟨_, rfl⟩
       have hp2 : R2.Perm (A.drop s ++ B.drop e) := List.Perm.of_eq hR2
       have h92 : A.drop s = [] ∨ B.drop e = [] := by first | exact .inl (List.eq_nil_of_length_eq_zero (by rw [List.length_drop]; omega)) | exact .inr (List.eq_nil_of_length_eq_zero (by rw [List.length_drop]; omega))
       have hs2 : R2.Pairwise lt := two_srt hR2 h92 pA.drop pB.drop
       rw [show (X ++ R1) ++ (A.drop s ++ (B.drop e ++ Y)) = X ++ ((R1 ++ R2) ++ Y) from by rw [hR2]; simp]
       refine WLa Z (WLa Z (WLa Z (WLa Z (WL_nil (WQ_code (WC_F Z (WC_skip ?_)))))))
       refine WQ2 Z (by
         obtain ⟨hj1, hj2⟩ := sym_join hp1 hp2 hs1 hs2 hcross
         exact ⟨R1 ++ R2, rfl, hj1, hj2, rfl⟩) pqY
     ·obtain ⟨R1, hR1⟩ : ∃ R1, R1 = A.take s ++ B.take e := ⟨_, rfl⟩
      have hp1 : R1.Perm (A.take s ++ B.take e) := List.Perm.of_eq hR1
      have h91 : A.take s = [] ∨ B.take e = [] := by first | exact .inl (List.eq_nil_of_length_eq_zero (by rw [List.length_take]; omega)) | exact .inr (List.eq_nil_of_length_eq_zero (by rw [List.length_take]; omega))
      have hs1 : R1.Pairwise lt := two_srt hR1 h91 pA.take pB.take
      rw [show X ++ (A.take s ++ (B.take e ++ (A.drop s ++ (B.drop e ++ Y)))) = (X ++ R1) ++ (A.drop s ++ (B.drop e ++ Y)) from by rw [hR1]; simp]
      refine WC_skip (WQ_code (WCr (WLa Z (WLa Z (WLa Z (WLa Z ?_))))))
      refine WL_splitD (s := 209) Z (fun c54 => ?_) (fun c54 => ?_)
      ·have hg3 := c54
       refine WLa Z (WLa Z (WLa Z (WLa Z (WL_nil (WQ_code ?_)))))
       refine WC_dec Z (fun c55 => ?_) (fun c55 => ?_)
       ·refine WC_region (WLa Z (WLa Z (WLa Z (WLa Z (WLa Z (WLc Z (ih (X ++ R1) (A.drop s) (B.drop e) Y n (by have h8 := hp1.length_eq; simp only [List.length_append, List.length_take, List.length_drop] at h8 ⊢; omega) hn2 (by rw [List.length_drop]; omega) (by rw [List.length_drop]; omega) pA.drop pB.drop (hcr.sub (fun _ => List.mem_of_mem_drop) (fun _ => List.mem_of_mem_drop)) (fun a ha b hb => hf a (List.mem_of_mem_drop ha) b (List.mem_of_mem_drop hb)) mid (m + e) b (by have h8 := hp1.length_eq; simp only [List.length_append, List.length_take] at h8 ⊢; omega) (by rw [List.length_drop]; omega) (by rw [List.length_drop]; omega) (by rw [List.length_drop, List.length_drop]; omega)) Z pqY ?_))))))
        rintro _ _ ⟨_, ⟨R2, rfl, hp2, hs2, rfl⟩, rfl⟩
        rw [show (X ++ R1) ++ (R2 ++ Y) = X ++ ((R1 ++ R2) ++ Y) from by simp]
        refine WL_nil ?_
        refine WQ2 Z (by
          obtain ⟨hj1, hj2⟩ := sym_join hp1 hp2 hs1 hs2 hcross
          exact ⟨R1 ++ R2, rfl, hj1, hj2, rfl⟩) pqY
       ·obtain ⟨R2, hR2⟩ : ∃ R2, R2 = A.drop s ++ B.drop e := ⟨_, rfl⟩
        have hp2 : R2.Perm (A.drop s ++ B.drop e) := List.Perm.of_eq hR2
        have h92 : A.drop s = [] ∨ B.drop e = [] := by first | exact .inl (List.eq_nil_of_length_eq_zero (by rw [List.length_drop]; omega)) | exact .inr (List.eq_nil_of_length_eq_zero (by rw [List.length_drop]; omega))
        have hs2 : R2.Pairwise lt := two_srt hR2 h92 pA.drop pB.drop
        rw [show (X ++ R1) ++ (A.drop s ++ (B.drop e ++ Y)) = X ++ ((R1 ++ R2) ++ Y) from by rw [hR2]; simp]
        refine WC_skip ?_
        refine WQ2 Z (by
          obtain ⟨hj1, hj2⟩ := sym_join hp1 hp2 hs1 hs2 hcross
          exact ⟨R1 ++ R2, rfl, hj1, hj2, rfl⟩) pqY
      ·have hg3 := c54
       obtain ⟨R2, hR2⟩ : ∃ R2, R2 = A.drop s ++ B.drop e := ⟨_, rfl⟩
       have hp2 : R2.Perm (A.drop s ++ B.drop e) := List.Perm.of_eq hR2
       have h92 : A.drop s = [] ∨ B.drop e = [] := by first | exact .inl (List.eq_nil_of_length_eq_zero (by rw [List.length_drop]; omega)) | exact .inr (List.eq_nil_of_length_eq_zero (by rw [List.length_drop]; omega))
       have hs2 : R2.Pairwise lt := two_srt hR2 h92 pA.drop pB.drop
       rw [show (X ++ R1) ++ (A.drop s ++ (B.drop e ++ Y)) = X ++ ((R1 ++ R2) ++ Y) from by rw [hR2]; simp]
       refine WLa Z (WLa Z (WLa Z (WLa Z (WL_nil (WQ_code (WC_F Z (WC_skip ?_)))))))
       refine WQ2 Z (by
         obtain ⟨hj1, hj2⟩ := sym_join hp1 hp2 hs1 hs2 hcross
         exact ⟨R1 ++ R2, rfl, hj1, hj2, rfl⟩) pqY
    ·have hg2 := c50
     obtain ⟨R1, hR1⟩ : ∃ R1, R1 = A.take s ++ B.take e := ⟨_, rfl⟩
     have hp1 : R1.Perm (A.take s ++ B.take e) := List.Perm.of_eq hR1
     have h91 : A.take s = [] ∨ B.take e = [] := by first | exact .inl (List.eq_nil_of_length_eq_zero (by rw [List.length_take]; omega)) | exact .inr (List.eq_nil_of_length_eq_zero (by rw [List.length_take]; omega))
     have hs1 : R1.Pairwise lt := two_srt hR1 h91 pA.take pB.take
     rw [show X ++ (A.take s ++ (B.take e ++ (A.drop s ++ (B.drop e ++ Y)))) = (X ++ R1) ++ (A.drop s ++ (B.drop e ++ Y)) from by rw [hR1]; simp]
     refine WLa Z (WLa Z (WLa Z (WLa Z (WL_nil (WQ_code (WC_F Z (WC_skip (WQ_code (WCr (WLa Z (WLa Z (WLa Z (WLa Z ?_)))))))))))))
     refine WL_splitD (s := 209) Z (fun c56 => ?_) (fun c56 => ?_)
     ·have hg3 := c56
      refine WLa Z (WLa Z (WLa Z (WLa Z (WL_nil (WQ_code ?_)))))
      refine WC_dec Z (fun c57 => ?_) (fun c57 => ?_)
      ·refine WC_region (WLa Z (WLa Z (WLa Z (WLa Z (WLa Z (WLc Z (ih (X ++ R1) (A.drop s) (B.drop e) Y n (by have h8 := hp1.length_eq; simp only [List.length_append, List.length_take, List.length_drop] at h8 ⊢; omega) hn2 (by rw [List.length_drop]; omega) (by rw [List.length_drop]; omega) pA.drop pB.drop (hcr.sub (fun _ => List.mem_of_mem_drop) (fun _ => List.mem_of_mem_drop)) (fun a ha b hb => hf a (List.mem_of_mem_drop ha) b (List.mem_of_mem_drop hb)) mid (m + e) b (by have h8 := hp1.length_eq; simp only [List.length_append, List.length_take] at h8 ⊢; omega) (by rw [List.length_drop]; omega) (by rw [List.length_drop]; omega) (by rw [List.length_drop, List.length_drop]; omega)) Z pqY ?_))))))
       rintro _ _ ⟨_, ⟨R2, rfl, hp2, hs2, rfl⟩, rfl⟩
       rw [show (X ++ R1) ++ (R2 ++ Y) = X ++ ((R1 ++ R2) ++ Y) from by simp]
       refine WL_nil ?_
       refine WQ2 Z (by
         obtain ⟨hj1, hj2⟩ := sym_join hp1 hp2 hs1 hs2 hcross
         exact ⟨R1 ++ R2, rfl, hj1, hj2, rfl⟩) pqY
      ·obtain ⟨R2, hR2⟩ : ∃ R2, R2 = A.drop s ++ B.drop e := ⟨_, rfl⟩
       have hp2 : R2.Perm (A.drop s ++ B.drop e) := List.Perm.of_eq hR2
       have h92 : A.drop s = [] ∨ B.drop e = [] := by first | exact .inl (List.eq_nil_of_length_eq_zero (by rw [List.length_drop]; omega)) | exact .inr (List.eq_nil_of_length_eq_zero (by rw [List.length_drop]; omega))
       have hs2 : R2.Pairwise lt := two_srt hR2 h92 pA.drop pB.drop
       rw [show (X ++ R1) ++ (A.drop s ++ (B.drop e ++ Y)) = X ++ ((R1 ++ R2) ++ Y) from by rw [hR2]; simp]
       refine WC_skip ?_
       refine WQ2 Z (by
         obtain ⟨hj1, hj2⟩ := sym_join hp1 hp2 hs1 hs2 hcross
         exact ⟨R1 ++ R2, rfl, hj1, hj2, rfl⟩) pqY
     ·have hg3 := c56
      obtain ⟨R2, hR2⟩ : ∃ R2, R2 = A.drop s ++ B.drop e := ⟨_, rfl⟩
      have hp2 : R2.Perm (A.drop s ++ B.drop e) := List.Perm.of_eq hR2
      have h92 : A.drop s = [] ∨ B.drop e = [] := by first | exact .inl (List.eq_nil_of_length_eq_zero (by rw [List.length_drop]; omega)) | exact .inr (List.eq_nil_of_length_eq_zero (by rw [List.length_drop]; omega))
      have hs2 : R2.Pairwise lt := two_srt hR2 h92 pA.drop pB.drop
      rw [show (X ++ R1) ++ (A.drop s ++ (B.drop e ++ Y)) = X ++ ((R1 ++ R2) ++ Y) from by rw [hR2]; simp]
      refine WLa Z (WLa Z (WLa Z (WLa Z (WL_nil (WQ_code (WC_F Z (WC_skip ?_)))))))
      refine WQ2 Z (by
        obtain ⟨hj1, hj2⟩ := sym_join hp1 hp2 hs1 hs2 hcross
        exact ⟨R1 ++ R2, rfl, hj1, hj2, rfl⟩) pqY
theorem sym_N (wa c : Nat) (tl : List Value) (gf : Nat) (ca : List Value) (Hc : Heap) (cf : Int → Int → Int) (lt : Int → Int → Prop) (ho : Sto lt) : ∀ (N : Nat) (X A B Y : List Int) (n : Nat) (hn : X.length + A.length + B.length + Y.length = n) (hn2 : n ≤ 1000000) (hA1 : 1 ≤ A.length) (hB1 : 1 ≤ B.length) (pA : A.Pairwise lt) (pB : B.Pairwise lt) (hcr : CRel cf lt A B) (hf : ∀ a ∈ A, ∀ b ∈ B, Spec Tryz.prog gf (.int .i64 b :: .int .i64 a :: ca) Hc (fun r H' => r = .int .i64 (cf b a) ∧ Hc = H')) (a m b : Nat) (ha : a = X.length) (hm : m = a + A.length) (hb : b = m + B.length) (hN : A.length + B.length ≤ N), Spec Tryz.prog 172 [slV (some wa) n c, .int .i64 (a : Int), .int .i64 (m : Int), .int .i64 (b : Int), .func (.func gf) #[] ca.toArray] (⟨some wa, cl (ivs (X ++ (A ++ (B ++ Y))) ++ tl) 3⟩ :: Hc) (fun r H' => ∃ R, r = .tuple #[] ∧ R.Perm (A ++ B) ∧ R.Pairwise lt ∧ H' = ⟨some wa, cl (ivs (X ++ (R ++ Y)) ++ tl) 3⟩ :: Hc)
 | 0 => fun X A B Y n hn hn2 hA1 hB1 pA pB hcr hf a m b ha hm hb hN => absurd hN (by omega)
 | N + 1 => fun X A B Y n hn hn2 hA1 hB1 pA pB hcr hf a m b ha hm hb hN => by
  by_cases h1 : A.length = 1
  ·exact sym_A wa c tl gf ca Hc cf lt ho X A B Y n hn hn2 hA1 hB1 pA pB hcr hf a m b ha hm hb h1
  ·by_cases h2 : B.length = 1
   ·exact sym_B wa c tl gf ca Hc cf lt ho X A B Y n hn hn2 hA1 hB1 pA pB hcr hf a m b ha hm hb h1 h2
   ·exact sym_G wa c tl gf ca Hc cf lt ho N (sym_N wa c tl gf ca Hc cf lt ho N) X A B Y n hn hn2 hA1 hB1 pA pB hcr hf a m b ha hm hb hN h1 h2
theorem sym_ok (wa c : Nat) (tl : List Value) (gf : Nat) (ca : List Value) (Hc : Heap) (cf : Int → Int → Int) (lt : Int → Int → Prop) (ho : Sto lt) (X A B Y : List Int) (n : Nat) (hn : X.length + A.length + B.length + Y.length = n) (hn2 : n ≤ 1000000) (hA1 : 1 ≤ A.length) (hB1 : 1 ≤ B.length) (pA : A.Pairwise lt) (pB : B.Pairwise lt) (hcr : CRel cf lt A B) (hf : ∀ a ∈ A, ∀ b ∈ B, Spec Tryz.prog gf (.int .i64 b :: .int .i64 a :: ca) Hc (fun r H' => r = .int .i64 (cf b a) ∧ Hc = H')) (a m b : Nat) (ha : a = X.length) (hm : m = a + A.length) (hb : b = m + B.length) : Spec Tryz.prog 172 [slV (some wa) n c, .int .i64 (a : Int), .int .i64 (m : Int), .int .i64 (b : Int), .func (.func gf) #[] ca.toArray] (⟨some wa, cl (ivs (X ++ (A ++ (B ++ Y))) ++ tl) 3⟩ :: Hc) (fun r H' => ∃ R, r = .tuple #[] ∧ R.Perm (A ++ B) ∧ R.Pairwise lt ∧ H' = ⟨some wa, cl (ivs (X ++ (R ++ Y)) ++ tl) 3⟩ :: Hc) := sym_N wa c tl gf ca Hc cf lt ho (A.length + B.length) X A B Y n hn hn2 hA1 hB1 pA pB hcr hf a m b ha hm hb (Nat.le_refl _)
structure BkW where
 k : Nat
 a : Nat
 b : Nat
 L : List Int
structure BsW where
 s : Nat
 L : List Int
theorem blk_sub {s t : Nat} {L : List Int} {x : Int} (h : x ∈ blk s t L) : x ∈ L := List.mem_of_mem_drop (List.mem_of_mem_take h)
theorem blk_cut {s k : Nat} {L L0 : List Int} (hd : L.drop (k * s) = L0.drop (k * s)) : L = L.take (k * s) ++ (blk s k L0 ++ L0.drop (k * s + s)) := by
 rw [← blk_split, ← hd, List.take_append_drop]
theorem stab_do (l : List Int) (wa c : Nat) (tl : List Value) (gf : Nat) (ca : List Value) (Hc : Heap) (cf : Int → Int → Int) (lt : Int → Int → Prop) (ho : Sto lt) (hord : Ord cf lt l) (hf : ∀ a ∈ l, ∀ b ∈ l, Spec Tryz.prog gf (.int .i64 a :: .int .i64 b :: ca) Hc (fun r H' => r = .int .i64 (cf a b) ∧ Hc = H')) (hb : l.length ≤ 100000) (hl : 1 ≤ l.length) : Spec Tryz.prog 134 [slV (some wa) l.length c, .int .i64 (l.length : Int), .func (.func gf) #[] ca.toArray] (⟨some wa, cl (ivs l ++ tl) 3⟩ :: Hc) (fun r H' => ∃ L', r = .tuple #[] ∧ L'.Perm l ∧ L'.Pairwise lt ∧ H' = ⟨some wa, cl (ivs L' ++ tl) 3⟩ :: Hc) := by
 refine Spec.of (E := [(0, slV (some wa) l.length c), (1, .int .i64 (l.length : Int)), (2, .func (.func gf) #[] ca.toArray)]) Tryz.func134 rfl (by kernel_rfl) Tryz.ntmps134 rfl rfl (fun w => ?_)
 refine WCr (WLa Z (WL_nil (WQ_code (WCr (WLa Z (WLa Z (WLa Z (WL_nil (WQ_code (WC_seq (WC_block (WC_loopF (G := BkW) [7, 8, 11, 12, 13, 14, 15, 16, 17, 18, 19, 20, 21, 22] (fun y => SB lt 20 l y.L y.k ∧ y.L.drop (y.k * 20) = l.drop (y.k * 20) ∧ y.a = y.k * 20 ∧ y.b = y.a + 20 ∧ y.a ≤ l.length) (fun y => [(7, .int .i64 (y.a : Int)), (8, .int .i64 (y.b : Int))]) (fun y => [⟨some wa, cl (ivs (y.L) ++ tl) 3⟩]) (fun y => l.length - y.a) (⟨0, 0, 20, l⟩) (⟨SB.zero lt 20 Z, Z, Z, Z, Nat.zero_le _⟩) leZ pqY ?_))))))))))))
 rintro y ⟨hS, hD, hya, hyb, hal⟩
 have hcut := blk_cut hD
 have hYl := hS.len
 refine WC_seq (WCr (WLa Z (WLa Z (WLa Z (WL_nil (WQ_code ?_))))))
 refine WC_dec Z (fun c1 => ?_) (fun c1 => ?_)
 ·refine WC_skip (WQ_code (WC_block (WCr ?_)))
  rw [show cl (ivs y.L ++ tl) 3 = cl (ivs (y.L.take (y.k * 20) ++ (blk 20 y.k l ++ l.drop (y.k * 20 + 20))) ++ tl) 3 from by rw [← hcut]]
  refine WLa Z (WLa Z (WLa Z (WLa Z (WLq Z (isrtX_ok (y.L.take (y.k * 20)) (blk 20 y.k l) (l.drop (y.k * 20 + 20)) l.length (by rw [List.length_take, blk_len, List.length_drop]; omega) (by omega) wa c tl gf ca Hc cf (fun a ha b hb => hf a (blk_sub ha) b (blk_sub hb)) y.a y.b (by rw [List.length_take]; omega) (by rw [blk_len]; omega)) Z pqY ?_))))
  refine WL_nil (WQ_code (WCr (WLa Z (WLa Z (WL_nil (WQ_code (WC_region (WLa Z (WLa Z (WLv Z (R_addR (r := ((y.b + 20 : Nat) : Int)) Z Z Z (by rw [wrap64_in (by omega) (by omega)] <;> omega)) ?_))))))))))
  refine WLa Z (WL_nil ?_)
  refine WQ_nextF (⟨y.k + 1, y.b, y.b + 20, y.L.take (y.k * 20) ++ (isL cf (blk 20 y.k l) ++ l.drop (y.k * 20 + 20))⟩) (⟨(hS.step (s := 20) (L0 := l) (C := isL cf (blk 20 y.k l)) (by omega) Z (by omega) hD (isL_perm cf _) (isL_srtT ho (hord.blk 20 y.k))).1, (hS.step (s := 20) (L0 := l) (C := isL cf (blk 20 y.k l)) (by omega) Z (by omega) hD (isL_perm cf _) (isL_srtT ho (hord.blk 20 y.k))).2, by dsimp only; omega, rfl, by dsimp only; omega⟩) (by dsimp only; omega) leZ (psZ) Z pqY
 ·refine WC_exit (WQ_code (WCr ?_))
  rw [show cl (ivs y.L ++ tl) 3 = cl (ivs (y.L.take (y.k * 20) ++ (blk 20 y.k l ++ l.drop (y.k * 20 + 20))) ++ tl) 3 from by rw [← hcut]]
  refine WLa Z (WLa Z (WLa Z (WLa Z (WLq Z (isrtX_ok (y.L.take (y.k * 20)) (blk 20 y.k l) (l.drop (y.k * 20 + 20)) l.length (by rw [List.length_take, blk_len, List.length_drop]; omega) (by omega) wa c tl gf ca Hc cf (fun a ha b hb => hf a (blk_sub ha) b (blk_sub hb)) y.a l.length (by rw [List.length_take]; omega) (by rw [blk_len]; omega)) Z pqY ?_))))
  refine WL_nil (WQ_code (WC_block (WC_loopF (G := BsW) [6, 7, 8, 9, 28, 29, 30, 31, 32, 33, 34, 35, 36, 37, 38, 39, 40, 41, 42, 43, 44, 45, 46, 47, 48, 49, 50, 51, 52, 53, 54, 55, 56, 57, 58, 59, 60, 61, 62] (fun z => (∀ t, SB lt z.s l z.L t) ∧ 1 ≤ z.s ∧ z.s ≤ 200000) (fun z => [(6, .int .i64 (z.s : Int))]) (fun z => [⟨some wa, cl (ivs (z.L) ++ tl) 3⟩]) (fun z => l.length - z.s) (⟨20, y.L.take (y.k * 20) ++ (isL cf (blk 20 y.k l) ++ l.drop (y.k * 20 + 20))⟩) (⟨(hS.step (s := 20) (L0 := l) (C := isL cf (blk 20 y.k l)) (by omega) Z (by omega) hD (isL_perm cf _) (isL_srtT ho (hord.blk 20 y.k))).1.all (by omega), by dsimp only; omega, by dsimp only; omega⟩) leZ pqY ?_)))
  rintro z ⟨hZ, hs1, hs2⟩
  refine WC_seq (WCr (WLa Z (WLa Z (WLa Z (WL_nil (WQ_code ?_))))))
  refine WC_dec Z (fun c2 => ?_) (fun c2 => ?_)
  ·refine WC_skip (WQ_code (WC_block (WCr (WLa Z (WLv Z (R_mulR (r := ((2 * z.s : Nat) : Int)) Z Z Z (by rw [wrap64_in (by omega) (by omega)] <;> omega)) ?_)))))
   refine WLa Z (WLa Z (WL_nil (WQ_code (WC_seq (WC_block (WC_loopF (G := BkW) [7, 8, 33, 34, 35, 36, 37, 38, 39, 40, 41, 42, 43, 44, 45, 46, 47, 48] (fun q => SB lt (2 * z.s) l q.L q.k ∧ q.L.drop (q.k * (2 * z.s)) = z.L.drop (q.k * (2 * z.s)) ∧ q.a = q.k * (2 * z.s) ∧ q.b = q.a + 2 * z.s ∧ q.a ≤ l.length) (fun q => [(7, .int .i64 (q.a : Int)), (8, .int .i64 (q.b : Int))]) (fun q => [⟨some wa, cl (ivs (q.L) ++ tl) 3⟩]) (fun q => l.length - q.a) (⟨0, 0, 2 * z.s, z.L⟩) (⟨SB.zero lt _ (hZ 0).len, Z, by dsimp only; rw [Nat.zero_mul], by dsimp only; omega, Nat.zero_le _⟩) leZ pqY ?_))))))
   rintro q ⟨hS2, hD2, hqa, hqb, hql⟩
   refine WC_seq (WCr (WLa Z (WLa Z (WLa Z (WL_nil (WQ_code ?_))))))
   refine WC_dec Z (fun c3 => ?_) (fun c3 => ?_)
   ·refine WC_skip (WQ_code (WC_block (WCr ?_)))
    have hks : 2 * q.k * z.s = q.k * (2 * z.s) := by rw [Nat.mul_comm 2 q.k, Nat.mul_assoc]
    have hks1 : (2 * q.k + 1) * z.s = q.k * (2 * z.s) + z.s := by rw [Nat.add_mul, Nat.one_mul, hks]
    have hZ2 : ∀ t, (blk z.s t z.L).Perm (blk z.s t l) ∧ (blk z.s t z.L).Pairwise lt := fun t => (hZ (t + 1)).b t (Nat.lt_succ_self t)
    have hZl := (hZ 0).len
    have hQl := hS2.len
    have hlA : (blk z.s (2 * q.k) z.L).length = z.s := by rw [blk_len, hks]; omega
    have hlB : (blk z.s (2 * q.k + 1) z.L).length = min z.s (l.length - (q.k * (2 * z.s) + z.s)) := by rw [blk_len, hks1, hZl]
    have hlY : (z.L.drop (q.k * (2 * z.s) + 2 * z.s)).length = l.length - (q.k * (2 * z.s) + 2 * z.s) := by rw [List.length_drop, hZl]
    have hlX : (q.L.take (q.k * (2 * z.s))).length = q.k * (2 * z.s) := by rw [List.length_take]; omega
    have hcut2 := blk_cut hD2
    rw [blk_two, List.append_assoc] at hcut2
    rw [show cl (ivs q.L ++ tl) 3 = cl (ivs (q.L.take (q.k * (2 * z.s)) ++ (blk z.s (2 * q.k) z.L ++ (blk z.s (2 * q.k + 1) z.L ++ z.L.drop (q.k * (2 * z.s) + 2 * z.s)))) ++ tl) 3 from by rw [← hcut2]]
    refine WLa Z (WLa Z (WLa Z (WLa Z (WLv Z (R_addR (r := ((q.a + z.s : Nat) : Int)) Z Z Z (by rw [wrap64_in (by omega) (by omega)] <;> omega)) ?_))))
    refine WLa Z (WLa Z (WLc Z (sym_ok wa c tl gf ca Hc cf lt ho (q.L.take (q.k * (2 * z.s))) (blk z.s (2 * q.k) z.L) (blk z.s (2 * q.k + 1) z.L) (z.L.drop (q.k * (2 * z.s) + 2 * z.s)) l.length (by omega) (by omega) (by omega) (by omega) (hZ2 (2 * q.k)).2 (hZ2 (2 * q.k + 1)).2 (hord.blks z.s q.k (hZ2 (2 * q.k)).1 (hZ2 (2 * q.k + 1)).1) (fun a ha b hb => hf b (blk_sub ((hZ2 _).1.mem_iff.1 hb)) a (blk_sub ((hZ2 _).1.mem_iff.1 ha))) q.a (q.a + z.s) q.b (by omega) (by omega) (by omega)) Z pqY ?_))
    rintro _ _ ⟨_, ⟨R, rfl, hRp, hRs, rfl⟩, rfl⟩
    refine WL_nil (WQ_code (WCr (WLa Z (WLa Z (WL_nil (WQ_code (WC_region (WLa Z (WLa Z (WLv Z (R_mulR (r := ((2 * z.s : Nat) : Int)) Z Z Z (by rw [wrap64_in (by omega) (by omega)] <;> omega)) ?_))))))))))
    refine WLv Z (R_addR (r := ((q.b + 2 * z.s : Nat) : Int)) Z Z Z (by rw [wrap64_in (by omega) (by omega)] <;> omega)) ?_
    refine WLa Z (WL_nil ?_)
    refine WQ_nextF (⟨q.k + 1, q.b, q.b + 2 * z.s, q.L.take (q.k * (2 * z.s)) ++ (R ++ z.L.drop (q.k * (2 * z.s) + 2 * z.s))⟩) (⟨(hS2.step (C := R) (by omega) hZl (by omega) hD2 (hRp.trans (((hZ2 (2 * q.k)).1.append (hZ2 (2 * q.k + 1)).1).trans (List.Perm.of_eq (blk_two z.s q.k l).symm))) hRs).1, (hS2.step (C := R) (by omega) hZl (by omega) hD2 (hRp.trans (((hZ2 (2 * q.k)).1.append (hZ2 (2 * q.k + 1)).1).trans (List.Perm.of_eq (blk_two z.s q.k l).symm))) hRs).2, by dsimp only; rw [Nat.add_mul, Nat.one_mul]; omega, rfl, by dsimp only; omega⟩) (by dsimp only; omega) leZ (psZ) Z pqY
   ·refine WC_exit (WQ_code (WC_seq (WCr (WLa Z (WLa Z (WLv Z (R_addR (r := ((q.a + z.s : Nat) : Int)) Z Z Z (by rw [wrap64_in (by omega) (by omega)] <;> omega)) ?_))))))
    refine WLa Z (WL_nil (WQ_code (WCr (WLa Z (WLa Z (WLa Z (WL_nil (WQ_code ?_))))))))
    refine WC_dec Z (fun c4 => ?_) (fun c4 => ?_)
    ·refine WC_region ?_
     have hks : 2 * q.k * z.s = q.k * (2 * z.s) := by rw [Nat.mul_comm 2 q.k, Nat.mul_assoc]
     have hks1 : (2 * q.k + 1) * z.s = q.k * (2 * z.s) + z.s := by rw [Nat.add_mul, Nat.one_mul, hks]
     have hZ2 : ∀ t, (blk z.s t z.L).Perm (blk z.s t l) ∧ (blk z.s t z.L).Pairwise lt := fun t => (hZ (t + 1)).b t (Nat.lt_succ_self t)
     have hZl := (hZ 0).len
     have hQl := hS2.len
     have hlA : (blk z.s (2 * q.k) z.L).length = z.s := by rw [blk_len, hks]; omega
     have hlB : (blk z.s (2 * q.k + 1) z.L).length = min z.s (l.length - (q.k * (2 * z.s) + z.s)) := by rw [blk_len, hks1, hZl]
     have hlY : (z.L.drop (q.k * (2 * z.s) + 2 * z.s)).length = l.length - (q.k * (2 * z.s) + 2 * z.s) := by rw [List.length_drop, hZl]
     have hlX : (q.L.take (q.k * (2 * z.s))).length = q.k * (2 * z.s) := by rw [List.length_take]; omega
     have hcut2 := blk_cut hD2
     rw [blk_two, List.append_assoc] at hcut2
     rw [show cl (ivs q.L ++ tl) 3 = cl (ivs (q.L.take (q.k * (2 * z.s)) ++ (blk z.s (2 * q.k) z.L ++ (blk z.s (2 * q.k + 1) z.L ++ z.L.drop (q.k * (2 * z.s) + 2 * z.s)))) ++ tl) 3 from by rw [← hcut2]]
     refine WLa Z (WLa Z (WLa Z (WLa Z (WLa Z (WLc Z (sym_ok wa c tl gf ca Hc cf lt ho (q.L.take (q.k * (2 * z.s))) (blk z.s (2 * q.k) z.L) (blk z.s (2 * q.k + 1) z.L) (z.L.drop (q.k * (2 * z.s) + 2 * z.s)) l.length (by omega) (by omega) (by omega) (by omega) (hZ2 (2 * q.k)).2 (hZ2 (2 * q.k + 1)).2 (hord.blks z.s q.k (hZ2 (2 * q.k)).1 (hZ2 (2 * q.k + 1)).1) (fun a ha b hb => hf b (blk_sub ((hZ2 _).1.mem_iff.1 hb)) a (blk_sub ((hZ2 _).1.mem_iff.1 ha))) q.a (q.a + z.s) l.length (by omega) (by omega) (by omega)) Z pqY ?_)))))
     rintro _ _ ⟨_, ⟨R, rfl, hRp, hRs, rfl⟩, rfl⟩
     refine WL_nil (WQ_code (WC_region (WLa Z (WLv Z (R_mulR (r := ((2 * z.s : Nat) : Int)) Z Z Z (by rw [wrap64_in (by omega) (by omega)] <;> omega)) ?_))))
     refine WLa Z (WL_nil ?_)
     refine WQ_nextF (⟨2 * z.s, q.L.take (q.k * (2 * z.s)) ++ (R ++ z.L.drop (q.k * (2 * z.s) + 2 * z.s))⟩) (⟨(hS2.step (C := R) (by omega) hZl (by omega) hD2 (hRp.trans (((hZ2 (2 * q.k)).1.append (hZ2 (2 * q.k + 1)).1).trans (List.Perm.of_eq (blk_two z.s q.k l).symm))) hRs).1.all (by rw [Nat.add_mul, Nat.one_mul]; omega), by dsimp only; omega, by dsimp only; omega⟩) (by dsimp only; omega) leZ (psZ) Z pqY
    ·have hZl := (hZ 0).len
     have hQl := hS2.len
     have hZ2 : ∀ t, (blk z.s t z.L).Perm (blk z.s t l) ∧ (blk z.s t z.L).Pairwise lt := fun t => (hZ (t + 1)).b t (Nat.lt_succ_self t)
     have hks1 : (2 * q.k + 1) * z.s = q.k * (2 * z.s) + z.s := by rw [Nat.add_mul, Nat.one_mul, Nat.mul_comm 2 q.k, Nat.mul_assoc]
     have hcut2 := blk_cut hD2
     have hBn : blk z.s (2 * q.k + 1) z.L = [] := blk_none (by omega)
     have hst := hS2.step (C := blk (2 * z.s) q.k z.L) (by omega) hZl (by omega) hD2 (by rw [blk_two, blk_two]; exact (hZ2 (2 * q.k)).1.append (hZ2 (2 * q.k + 1)).1) (by rw [blk_two, hBn, List.append_nil]; exact (hZ2 (2 * q.k)).2)
     rw [← hcut2] at hst
     refine WC_skip (WQ_code (WC_region (WLa Z (WLv Z (R_mulR (r := ((2 * z.s : Nat) : Int)) Z Z Z (by rw [wrap64_in (by omega) (by omega)] <;> omega)) ?_))))
     refine WLa Z (WL_nil ?_)
     refine WQ_nextF (⟨2 * z.s, q.L⟩) (⟨hst.1.all (by rw [Nat.add_mul, Nat.one_mul]; omega), by dsimp only; omega, by dsimp only; omega⟩) (by dsimp only; omega) leZ (psZ) Z pqY
  ·have hdone := (hZ 1).done (by omega)
   refine WC_exit ?_
   refine WQ2 Z (by
     exact ⟨z.L, rfl, hdone.1, hdone.2, rfl⟩) pqY
theorem stabg_do (l : List Int) (wa c : Nat) (tl : List Value) (gf : Nat) (ca : List Value) (Hc : Heap) (cf : Int → Int → Int) (lt : Int → Int → Prop) (ho : Sto lt) (hord : Ord cf lt l) (hf : ∀ a ∈ l, ∀ b ∈ l, Spec Tryz.prog gf (.int .i64 a :: .int .i64 b :: ca) Hc (fun r H' => r = .int .i64 (cf a b) ∧ Hc = H')) (hb : l.length ≤ 100000) (hl : 1 ≤ l.length) : Spec Tryz.prog 87 [slV (some wa) l.length c, .func (.func gf) #[] ca.toArray] (⟨some wa, cl (ivs l ++ tl) 3⟩ :: Hc) (fun r H' => ∃ L', r = .tuple #[] ∧ L'.Perm l ∧ L'.Pairwise lt ∧ H' = ⟨some wa, cl (ivs L' ++ tl) 3⟩ :: Hc) := by
 refine Spec.of (E := [(0, slV (some wa) l.length c), (1, .func (.func gf) #[] ca.toArray)]) Tryz.func87 rfl (by kernel_rfl) Tryz.ntmps87 rfl rfl (fun w => ?_)
 refine WC_region (WLa Z (WLa Z (WLv Z (R_len Z Tryz.underlying23 Z) ?_)))
 refine WLa Z (WLc Z (stab_do l wa c tl gf ca Hc cf lt ho hord hf hb hl) Z pqY ?_)
 rintro _ _ ⟨_, ⟨L', rfl, hp9, hs9, rfl⟩, rfl⟩
 refine WL_nil ?_
 refine WQ2 Z (by
   exact ⟨L', rfl, hp9, hs9, rfl⟩) pqY
theorem stabg_ok (l : List Int) (o : Option Nat) (c : Nat) (tl : List Value) (own : Own o l.length c 1 (ivs l) tl) (gf : Nat) (ca : List Value) (Hc : Heap) (cf : Int → Int → Int) (lt : Int → Int → Prop) (ho : Sto lt) (hord : Ord cf lt l) (hf : ∀ a ∈ l, ∀ b ∈ l, Spec Tryz.prog gf (.int .i64 a :: .int .i64 b :: ca) Hc (fun r H' => r = .int .i64 (cf a b) ∧ Hc = H')) (hb : l.length ≤ 100000) :
  Spec Tryz.prog 87 [slV o l.length c, .func (.func gf) #[] ca.toArray] (⟨o, cl (ivs l ++ tl) 3⟩ :: Hc) (fun r H' => ∃ L', r = .tuple #[] ∧ L'.Perm l ∧ L'.Pairwise lt ∧ H' = ⟨o, cl (ivs L' ++ tl) 3⟩ :: Hc) := by
 by_cases hl : 1 ≤ l.length
 ·obtain ⟨wa, rfl⟩ := own.some_of (by omega)
  exact stabg_do l wa c tl gf ca Hc cf lt ho hord hf hb hl
 ·have h0 : l = [] := List.eq_nil_of_length_eq_zero (by omega)
  subst h0
  exact ((stabf_nil o c (.func (.func gf) #[] ca.toArray)).fr (⟨o, cl (ivs [] ++ tl) 3⟩ :: Hc)).mono fun r H' ⟨H1, ⟨h1, h2⟩, h3⟩ => ⟨[], h1, .refl _, .nil, by rw [h3, h2]; rfl⟩
theorem sto_ltA (C : List Cn) : Sto (ltA C) := ⟨fun a h => by have h : _ ∨ _ := h; omega, fun a b c h1 h2 => by have h1 : _ ∨ _ := h1; have h2 : _ ∨ _ := h2; show _ ∨ _; omega⟩
theorem ord_ltA (C : List Cn) {l : List Int} (h : l.Pairwise (· < ·)) : Ord (ageC C) (ltA C) l := h.imp fun {a b} hab => by
 refine ⟨(ageC_lt C b a).trans ⟨fun h => .inl h, fun h => ?_⟩, ?_⟩
 ·have h : _ ∨ _ := h
  omega
 ·show (_ ∨ _) ∨ (_ ∨ _)
  omega
theorem padvT_ok {m : PM} {s : PS} (h : PIs m s) (hE : s.E.length ≤ 10000) (now : Nat) (hb : now ≤ 18446744073709551615) : Spec Tryz.prog 41 [ptrP m.p, .int .u64 (now : Int)] (poH m s) (fun r H' => ∃ m', r = .int .i64 (s.may true now) ∧ H' = poH m' (s.advance now) ∧ m'.p = m.p ∧ PIs m' (s.advance now)) := by
 have hql := h.ql
 have hll : (s.late now).length ≤ 1001 := by have := (late_perm s now).length_eq; have h9 := List.length_filter_le (fun x : Qp => decide (x.dl ≤ now)) s.Q; omega
 have hml : ((s.late now).map (·.who)).length = (s.late now).length := List.length_map _
 refine Spec.of (E := [(0, ptrP m.p), (1, .int .u64 (now : Int))]) Tryz.func41 rfl (by kernel_rfl) Tryz.ntmps41 rfl rfl (fun w => ?_)
 refine WCr (WLd Z (D_box (cs := [_]) Z Z Z) ?_)
 rintro _ _ ⟨b1, rfl, rfl⟩
 refine WLd Z (D_box (cs := [_]) Z Z Z) ?_
 rintro _ _ ⟨b2, rfl, rfl⟩
 refine WLa Z (WL_nil (WQ_code (WC_seq (WCr (WLl Z sc79 mmZ Z (WLl Z sc25 mmZ Z (WLq Z (pmay_ok h true now) Z pqZ ?_)))))))
 refine WLa Z (WL_nil (WQ_code (WCr (WLa Z (WLa Z (WL_nil (WQ_code ?_)))))))
 refine WC_dec Z (fun c1 => ?_) (fun c1 => ?_)
 ·have hm := c1
  refine WCr (WLa Z (WLa Z (WL_nil (WQ_code (WC_ret ?_)))))
  refine WQ1 Z (by
    exact ⟨m, rfl, by rw [adv_no hm], rfl, by rw [adv_no hm]; exact h⟩) pqZ
 ·have hm : s.may true now = 0 := Decidable.byContradiction c1
  refine WC_skip (WQ_code (WC_seq (WCr (WLl Z sc79 mmZ Z (WLq Z (pfull_ok h hE) Z pqZ ?_)))))
  refine WLa Z (WL_nil (WQ_code (WCr (WLa Z (WLa Z (WL_nil (WQ_code (WC_dF Z (by simp) ?_))))))))
  refine WC_skip (WQ_code (WCr (WLl Z sc79 mmZ Z (WLl Z sc25 mmZ Z (WLa Z (WLf Z fa136_3 (WLs (vs := [_]) Z Tryz.sizeOf25 Z Z plZ (by exact pc_nowr m s) ?_)))))))
  rw [pc_now]
  obtain ⟨_, hle, hnm⟩ := may_zero hm
  have h0 := h.at_ (now := now) hle (by omega)
  refine WL_nil (WQ_code (WCr (WLl Z sc79 mmZ Z (WLa Z (WLf Z fa136_6 (WLv Z (R_load (v := .map (some m.wm)) Z sc129 Z mmZ (pc_t h.cl Z 1)) ?_))))))
  refine WLc Z (wkeys_ok m.wm) Z pqZ ?_
  rintro _ _ ⟨_, ⟨bb, rfl, rfl⟩, rfl⟩
  refine WLc Z (wcoll_ok (W := wq s.Q) (by rw [List.length_map]; exact hql) bb m.wm m.wes m.wmc h.wM) Z pqZ ?_
  rintro _ _ ⟨_, ⟨xs, o9, c9, tl9, hperm, rfl, own9, rfl⟩, rfl⟩
  refine WLv Z (R_makeFunc Z Z Z) ?_
  have hxl : xs.length ≤ 1001 := by have := hperm.length_eq; rw [List.length_map, List.length_map] at this; omega
  refine WLc Z (delf_ok xs o9 c9 tl9 own9 80 [.pointer (some ⟨b1, 0, none⟩), .pointer (some ⟨b2, 0, none⟩)] [⟨some b1, cl [ptrP m.p] 79⟩, ⟨some b2, cl [.int .u64 (now : Int)] 25⟩, poP m (s.at_ now), poW m] (keepW s.Q now) (fun v _ => padv1_ok h0 b1 b2 now v) (by omega)) Z pqZ ?_
  rintro _ _ ⟨_, ⟨n2, tl2, rfl, rfl, own2, rfl⟩, rfl⟩
  refine WLa Z (WL_nil (WQ_code (WCr (WLa Z (WLv Z (R_makeFunc Z Z Z) ?_)))))
  refine WLc Z (psort_ok h0 b1 (xs.filter (fun v => !keepW s.Q now v)) (by have := List.length_filter_le (fun v => !keepW s.Q now v) xs; omega) o9 c9 tl2 own2) Z pqZ ?_
  rintro _ _ ⟨_, ⟨ys, rfl, hp2, hs2, rfl⟩, rfl⟩
  have hys : ys = (s.late now).map (·.who) := late_eq h hnm hperm hp2 hs2
  have hyl : (xs.filter (fun v => !keepW s.Q now v)).length = ((s.late now).map (·.who)).length := by rw [← hys]; exact hp2.length_eq.symm
  subst hys
  rw [hyl]
  refine WL_nil (WQ_code (WC_seq (WCr (WLa Z (WLv Z (R_len Z Tryz.underlying23 Z) ?_)))))
  refine WLa Z (WL_nil (WQ_code (WC_block (WC_loopF (G := AdW) [9, 41, 42, 43, 44, 45, 46, 47, 48, 49, 50, 51] (fun y => y.k ≤ (s.late now).length ∧ PIs y.m (((s.late now).take y.k).foldl PS.tmo (s.at_ now)) ∧ y.m.p = m.p) (fun y => [(41, .int .i64 (y.k : Int))]) (fun y => poH y.m (((s.late now).take y.k).foldl PS.tmo (s.at_ now))) (fun y => (s.late now).length - y.k) (⟨0, m⟩) (⟨Nat.zero_le _, h0, Z⟩) leZ pqZ ?_))))
  rintro y ⟨hk, hy, hyp⟩
  rw [← hyp]
  have hEk := (tmo_rest ((s.late now).take y.k) (s.at_ now)).2.2.2.1
  rw [List.length_take, show (s.at_ now).E = s.E from rfl] at hEk
  refine WCr (WLa Z (WL_nil (WQ_code (WC_seq ?_))))
  refine WC_dec Z (fun c2 => ?_) (fun c2 => ?_)
  ·refine WC_skip (WQ_code (WC_seq (WC_block (WCr ?_))))
   obtain ⟨wa, hwa⟩ := own2.some_of (by omega)
   obtain ⟨x, hx⟩ := getE (T := s.late now) (i := y.k) (by omega)
   obtain ⟨A, B, hQ⟩ := tmo_in h.nd hx (s.at_ now) rfl
   refine WLv Z (R_idxO hwa Z Tryz.underlying23 Tryz.sizeOf3 Z Z (by omega)) ?_
   refine WLv Z (R_loadO (v := .int .i64 x.who) hwa Z sc3 Z mmZ (fm_get0 encI1 (show ((s.late now).map (·.who))[y.k]? = some x.who by rw [List.getElem?_map, hx]; rfl) (j := 0) (by omega))) ?_
   refine WLa Z (WL_nil (WQ_code (WCr (WLl Z sc79 mmZ Z (WLa Z (WLc Z (pleave_ok hy hQ) Z pqZ ?_))))))
   rintro _ _ ⟨_, ⟨m1, rfl, rfl, hp1, h1⟩, rfl⟩
   rw [← hp1]
   refine WL_nil (WQ_code (WC_region (WLl Z sc79 mmZ Z (WLa Z (WLc Z (ptellH_ok h1 4 x.who (-1) (show (((s.late now).take y.k).foldl PS.tmo (s.at_ now)).E.length ≤ 1000000 by omega)) Z pqZ ?_)))))
   rintro _ _ ⟨_, ⟨m2, rfl, rfl, hp2m, h2m⟩, rfl⟩
   refine WL_nil (WQ_code (WC_region (WLv Z (R_add Z Z Z (by omega)) ?_)))
   refine WLa Z (WL_nil ?_)
   rw [show ((((s.late now).take y.k).foldl PS.tmo (s.at_ now)).leave x.who).tell 4 x.who (-1) = ((s.late now).take (y.k + 1)).foldl PS.tmo (s.at_ now) from (qp_next hx _).symm]
   refine WQ_nextF (⟨y.k + 1, m2⟩) (⟨by dsimp only; omega, by dsimp only; rw [qp_next hx]; exact h2m, by first | rfl | exact hp2m⟩) (by dsimp only; omega) leZ (psZ) Z pqZ
  ·have hkl : y.k = (s.late now).length := by omega
   have hst : ((s.late now).take y.k).foldl PS.tmo (s.at_ now) = s.adv1 now := by rw [hkl, List.take_length]; rfl
   rw [hst]
   rw [hst] at hy
   have hC1 : (s.adv1 now).C = s.C := (tmo_rest (s.late now) (s.at_ now)).1
   have hN1 : (s.adv1 now).now = now := (tmo_rest (s.late now) (s.at_ now)).2.2.1
   have hE1 : (s.adv1 now).E.length = s.E.length + (s.late now).length := (tmo_rest (s.late now) (s.at_ now)).2.2.2.1
   refine WC_exit (WQ_code (WCr (WLl Z sc79 mmZ Z (WLc Z (pall_ok hy 3) Z pqZ ?_))))
   rintro _ _ ⟨_, ⟨o8, c8, tl8, rfl, own8, rfl⟩, rfl⟩
   refine WLv Z (R_makeFunc Z Z Z) ?_
   refine WLc Z (delf_ok (allI 3 (s.adv1 now).C) o8 c8 tl8 own8 86 [.pointer (some ⟨b1, 0, none⟩), .pointer (some ⟨b2, 0, none⟩)] [⟨some b1, cl [ptrP y.m.p] 79⟩, ⟨some b2, cl [.int .u64 (now : Int)] 25⟩, poP y.m (s.adv1 now)] (young (s.adv1 now) now) (fun v hv => padv3_ok hy b1 b2 now (by rw [hN1]; exact Nat.le_refl _) hb v hv) (by have := allI_len 3 (s.adv1 now).C; rw [hy.cl] at this; omega)) Z pqZ ?_
   rintro _ _ ⟨_, ⟨n3, tl3, rfl, rfl, own3, rfl⟩, rfl⟩
   refine WLa Z (WL_nil (WQ_code (WCr (WLa Z (WLv Z (R_makeFunc Z Z Z) ?_)))))
   refine WLc Z (stabg_ok ((allI 3 (s.adv1 now).C).filter (fun v => !young (s.adv1 now) now v)) o8 c8 tl3 own3 88 [.pointer (some ⟨b1, 0, none⟩)] [⟨some b1, cl [ptrP y.m.p] 79⟩, poP y.m (s.adv1 now)] (ageC (s.adv1 now).C) (ltA (s.adv1 now).C) (sto_ltA _) (ord_ltA _ ((allF_srt 3 _ 0).1.filter _)) (fun a ha b hb => padv4_ok hy b1 a b (List.mem_filter.1 ha).1 (List.mem_filter.1 hb).1) (by have := List.length_filter_le (fun v => !young (s.adv1 now) now v) (allI 3 (s.adv1 now).C); have hal2 := allI_len 3 (s.adv1 now).C; rw [hy.cl] at hal2; omega)) Z pqZ ?_
   rintro _ _ ⟨_, ⟨L9, rfl, hpL, hsL, rfl⟩, rfl⟩
   have hLE : L9 = isL (ageC (s.adv1 now).C) ((allI 3 (s.adv1 now).C).filter (fun v => !young (s.adv1 now) now v)) := srt_uniq (lt := ltA (s.adv1 now).C) (hpL.trans (isL_perm _ _).symm) (hsL.imp fun {a b} h => by show ¬ (_ ∨ _); have h : _ ∨ _ := h; omega) (isL_srt _ ((allF_srt 3 _ 0).1.filter _))
   subst hLE
   rw [old_eq]
   have hol3 : ((allI 3 (s.adv1 now).C).filter (fun v => !young (s.adv1 now) now v)).length = ((s.adv1 now).old now).length := (List.mergeSort_perm _ _).length_eq.symm
   rw [hol3]
   refine WL_nil (WQ_code (WC_seq (WCr (WLa Z (WLv Z (R_len Z Tryz.underlying23 Z) ?_)))))
   refine WLa Z (WL_nil (WQ_code (WC_block ?_)))
   have hol := old_len (s.adv1 now) now
   have hal := allI_len 3 (s.adv1 now).C
   rw [hy.cl] at hal
   refine WC_loopF (G := AdW) [12, 61, 62, 63, 64, 65, 66, 67, 68, 69, 70, 71] (fun z => z.k ≤ ((s.adv1 now).old now).length ∧ PIs z.m ((((s.adv1 now).old now).take z.k).foldl PS.shut (s.adv1 now)) ∧ z.m.p = y.m.p) (fun z => [(61, .int .i64 (z.k : Int))]) (fun z => poH z.m ((((s.adv1 now).old now).take z.k).foldl PS.shut (s.adv1 now))) (fun z => ((s.adv1 now).old now).length - z.k) (⟨0, y.m⟩) (⟨Nat.zero_le _, hy, Z⟩) leZ pqZ ?_
   rintro z ⟨hzk, hz, hzp⟩
   rw [← hzp]
   have hEz := shuts_E (((s.adv1 now).old now).take z.k) (s.adv1 now)
   rw [List.length_take] at hEz
   refine WCr (WLa Z (WL_nil (WQ_code (WC_seq ?_))))
   refine WC_dec Z (fun c3 => ?_) (fun c3 => ?_)
   ·refine WC_skip (WQ_code (WC_seq (WC_block (WCr ?_))))
    obtain ⟨wb, hwb⟩ := own3.some_of (by omega)
    obtain ⟨c, hc⟩ := getE (T := (s.adv1 now).old now) (i := z.k) (by omega)
    obtain ⟨i9, x9, rfl, hx9, _⟩ := allI_mem (old_mem (List.mem_of_getElem? hc)).1
    have hi64 : i9 < 64 := by have := (List.getElem?_eq_some_iff.1 hx9).1; rw [hy.cl] at this; exact this
    have hsh := (pshut_eq ((((s.adv1 now).old now).take z.k).foldl PS.shut (s.adv1 now)) i9).symm
    refine WLv Z (R_idxO hwb Z Tryz.underlying23 Tryz.sizeOf3 Z Z (by omega)) ?_
    refine WLv Z (R_loadO (v := .int .i64 (i9 : Int)) hwb Z sc3 Z mmZ (fm_get0 encI1 hc (j := 0) (by omega))) ?_
    refine WLa Z (WL_nil (WQ_code (WCr (WLl Z sc79 mmZ Z (WLa Z (WLc Z (ptellH_ok hz 5 (-1) (i9 : Int) (by omega)) Z pqZ ?_))))))
    rintro _ _ ⟨_, ⟨m3, rfl, rfl, hp3, h3m⟩, rfl⟩
    rw [← hp3]
    refine WL_nil (WQ_code (WC_region (WLl Z sc79 mmZ Z (WLa Z (WLc Z (plose_ok h3m i9 (by omega) (by show (_ ++ [_]).length ≤ _; rw [List.length_append]; simp; omega)) Z pqZ ?_)))))
    rintro _ _ ⟨_, ⟨m2, rfl, rfl, hp2, h2⟩, rfl⟩
    refine WL_nil (WQ_code (WC_region (WLv Z (R_add Z Z Z (by omega)) ?_)))
    refine WLa Z (WL_nil ?_)
    rw [hsh, ← shut_next hc]
    refine WQ_nextF (⟨z.k + 1, m2⟩) (⟨by dsimp only; omega, by dsimp only; rw [shut_next hc, ← hsh]; exact h2, by first | rfl | exact hp2⟩) (by dsimp only; omega) leZ (psZ) Z pqZ
   ·have hzl : z.k = ((s.adv1 now).old now).length := by omega
    refine WC_exit (WQ_code (WCr (WLa Z (WL_nil (WQ_code (WC_ret ?_))))))
    rw [hzl, List.take_length] at hz
    rw [hzl, List.take_length]
    refine WQ1 Z (by
      exact ⟨z.m, congrArg (Value.int .i64) hm.symm, by rw [adv_ok hm], by first | rfl | exact hzp, by rw [adv_ok hm]; exact hz⟩) pqZ
theorem xp_adv {ms : List PM} {ss : List PS} {i : Nat} {mi : PM} {si : PS} (h1 : ms[i]? = some mi) (h2 : ss[i]? = some si) (h : PIs mi si) (hE : si.E.length ≤ 10000) (now : Nat) (hb : now ≤ 18446744073709551615) : Spec Tryz.prog 41 [ptrP mi.p, .int .u64 (now : Int)] (poolsH ms ss) (fun r H' => ∃ m', r = .int .i64 (si.may true now) ∧ H' = poolsH (ms.set i m') (ss.set i (si.advance now)) ∧ m'.p = mi.p ∧ PIs m' (si.advance now)) := by
 refine (Spec.pool h1 h2 (Q := fun r m' s' => r = .int .i64 (si.may true now) ∧ s' = si.advance now ∧ m'.p = mi.p ∧ PIs m' s') ((padvT_ok h hE now hb).mono ?_)).mono ?_
 ·rintro r H' ⟨m', e1, e2, e3, e4⟩
  exact ⟨m', _, e2, e1, rfl, e3, e4⟩
 ·rintro r H' ⟨m', s', e1, e2, rfl, e3, e4⟩
  exact ⟨m', e2, e1, e3, e4⟩
theorem xadv_err (m : XM) (x : PX) (now : Nat) (he : x.may true now ≠ 0) : Spec Tryz.prog 15 [ptrP m.p, .int .u64 (now : Int)] [pxE m x] (fun r H' => r = .int .i64 (x.may true now) ∧ H' = [pxE m x]) := by
 refine Spec.of (E := [(0, ptrP m.p), (1, .int .u64 (now : Int))]) Tryz.func15 rfl (by kernel_rfl) Tryz.ntmps15 rfl rfl (fun w => ?_)
 refine WCr (WLd Z (D_box (cs := [_]) Z Z Z) ?_)
 rintro _ _ ⟨b1, rfl, rfl⟩
 refine WLa Z (WL_nil (WQ_code (WC_seq (WCr (WLa Z (WLl Z sc25 mmD Z (WLq Z (xmay_ok m x true now) Z pqD ?_)))))))
 refine WLa Z (WL_nil (WQ_code (WCr (WLa Z (WLa Z (WL_nil (WQ_code (WC_dT Z (by exact he) ?_))))))))
 refine WCr (WLa Z (WLa Z (WL_nil (WQ_code (WC_ret ?_)))))
 refine WQ1 Z (by
   exact ⟨rfl, rfl⟩) pqD
theorem xadv_ok {N : Nat} {m : XM} {x : PX} (h : PXIs N m x) (hg : PXG x) (now : Nat) (hb : now ≤ 18446744073709551615) (hm : x.may true now = 0) (hE : x.E.length ≤ 10000) (hP : x.P.length ≤ 100) {b : Nat} (hB : PXB b x) (hbb : b ≤ 1000000000) (hN : N + evS now x.P ≤ 8000) :
  Spec Tryz.prog 15 [ptrP m.p, .int .u64 (now : Int)] (pxH m x) (fun r H' => ∃ m' N', r = .int .i64 0 ∧ H' = pxH m' (x.adv now) ∧ N' ≤ N + evS now x.P + 101 ∧ PXIs N' m' (x.adv now) ∧ m'.p = m.p) := by
 obtain ⟨_, hn1, hn2⟩ := xmay_zero_of hm
 have htr : x.pl.tries ≤ 100 := by obtain ⟨q1, q2, q3, q4, q5, q6, q7, q8, q9, q10⟩ := h.ok; exact q8
 refine Spec.of (E := [(0, ptrP m.p), (1, .int .u64 (now : Int))]) Tryz.func15 rfl (by kernel_rfl) Tryz.ntmps15 rfl rfl (fun w => ?_)
 refine WCr (WLd Z (D_box (cs := [_]) Z Z Z) ?_)
 rintro _ _ ⟨b1, rfl, rfl⟩
 refine WLa Z (WL_nil (WQ_code (WC_seq (WCr (WLa Z (WLl Z sc25 mmD Z (WLq Z (xmay_ok m x true now) Z pqD ?_)))))))
 refine WLa Z (WL_nil (WQ_code (WCr (WLa Z (WLa Z (WL_nil (WQ_code (WC_dF Z (by exact fun e => e hm) ?_))))))))
 refine WC_skip (WQ_code (WC_seq (WCr (WLa Z (WLq Z (xfull_ok m x hE) Z pqD ?_)))))
 refine WLa Z (WL_nil (WQ_code (WCr (WLa Z (WLa Z (WL_nil (WQ_code (WC_dF Z (by exact fun e => e rfl) ?_))))))))
 refine WC_skip (WQ_code (WCr (WLa Z (WLl Z sc25 mmD Z (WLa Z (WLf Z fa68_3 (WLs (vs := [_]) Z Tryz.sizeOf25 Z Z plD (nb Z) ?_)))))))
 refine WL_shape (A := [pxE m { x with now := now }]) pqD (List.Perm.refl _) ?_
 have h0 : PXIs N m { x with now := now } := h.at_ (by omega)
 have g0 := hg.at_ hn1
 refine WL_nil (WQ_code (WC_seq (WCr (WLa Z (WLa Z (WLf Z fa68_1 (WLl Z sc56 mmD Z (WL_set (s := 30) (v := slV m.ob x.P.length m.oc) Z (by rfl) ?_))))))))
 refine WLv Z (R_len Z Tryz.underlying56 Z) ?_
 refine WLa Z (WL_nil (WQ_code (WC_block (WC_loopF (G := AvX) [7, 8, 32, 33, 34, 35, 36, 37, 38, 39, 40, 41, 42, 43] (fun y => y.k ≤ x.P.length ∧ PXIs y.N y.m y.x ∧ PXG y.x ∧ XKeep m y.m ∧ y.x = x.advK now y.k ∧ y.N + evS now (x.P.drop y.k) ≤ N + evS now x.P ∧ y.x.E.length + evS now (x.P.drop y.k) ≤ x.E.length + evS now x.P) (fun y => [(32, .int .i64 (y.k : Int))]) (fun y => pxH y.m y.x) (fun y => x.P.length - y.k) (⟨0, m, { x with now := now }, N⟩) (⟨Nat.zero_le _, h0, g0, XKeep.refl m, Z, Nat.le_refl _, Nat.le_refl _⟩) leZ pqD ?_))))
 rintro y ⟨hk, gy, ggy, kp, hyx, hyN, hyE⟩
 refine WCr (WLa Z (WL_nil (WQ_code (WC_seq ?_))))
 refine WC_dec Z (fun c1 => ?_) (fun c1 => ?_)
 ·refine WC_skip (WQ_code (WC_seq (WC_block (WCr ?_))))
  obtain ⟨si, hsx⟩ := getE (T := x.P) (i := y.k) (by omega)
  have hsm := List.mem_of_getElem? hsx
  have hi : y.x.P[y.k]? = some si := by rw [hyx, (advK_facts x now y.k).2.2.2 y.k (Nat.le_refl _)]; exact hsx
  obtain ⟨my, hmy⟩ := pool_at gy hi
  have hpl := h.oq.len
  obtain ⟨wq, hwq⟩ := h.oq.some_of (by omega)
  have hwy : y.m.ob = some wq := kp.ob.trans hwq
  have hily := (List.getElem?_eq_some_iff.1 hi).1
  have hev := evS_drop (now := now) hsx
  have hynow : y.x.now = now := by rw [hyx]; exact (advK_facts x now y.k).1
  have hpo9 := ggy.po y.k si hi
  have hi1 : ({ y.x with P := y.x.P.set y.k (si.advance now) } : PX).P[y.k]? = some (si.advance now) := List.getElem?_set_self hily
  have gg1 : PXG { y.x with P := y.x.P.set y.k (si.advance now) } := by
   obtain ⟨q1, q2⟩ := ph_adv hpo9.ph hpo9.nw
   rw [hynow] at q1 q2
   exact ggy.pool hi (by rw [hynow] at hpo9 ⊢; exact hpo9.op (opd_adv (pend_who hpo9) now) q1 q2)
  have hadv : x.advK now (y.k + 1) = PX.drain { y.x with P := y.x.P.set y.k (si.advance now) } y.k := by
   rw [advK_next, ← hyx]
   unfold PX.advP
   rw [hi]
  have hE9 : (PX.drain { y.x with P := y.x.P.set y.k (si.advance now) } y.k).E.length ≤ y.x.E.length + (si.advance now).E.length := drain_E hi1
  have hNle : evS now (x.P.drop y.k) ≤ N + evS now x.P := by omega
  refine WLa Z (WLv Z (R_idxO hwq Z Tryz.underlying56 Tryz.sizeOf79 Z Z (by omega)) ?_)
  refine WLv Z (R_loadO (v := ptrP my.p) hwy Z sc79 Z mmD (fm_get0 encPq1 hmy (j := 0) (by omega))) ?_
  refine WLa Z (WLa Z (WL_nil (WQ_code (WCr (WLa Z (WLl Z sc25 mmD Z (WLc Z (XL.pool gy hmy (Q := fun r => r = .int .i64 (si.may true now)) (xp_adv hmy hi (gy.po _ _ _ hmy hi) (by rw [(hB si hsm).1]; exact Nat.zero_le _) now (by omega))) Z pqD ?_)))))))
  rintro _ _ ⟨_, ⟨m1, rfl, rfl, g1, kp1⟩, rfl⟩
  refine WL_nil (WQ_code (WC_region (WLa Z (WL_set (s := 40) (v := ptrP m1.p) Z (by rw [kp1.p, kp.p]) ?_))))
  refine WLa Z (WLc Z (xdrain_ok g1 gg1 hi1 (by omega) (by show y.x.E.length + _ ≤ _; omega)) Z pqD ?_)
  rintro _ _ ⟨_, ⟨m2, N2, rfl, rfl, hN2, g2, kp2, gg2⟩, rfl⟩
  refine WL_nil (WQ_code (WC_region (WLv Z (R_add Z Z Z (by omega)) ?_)))
  refine WLa Z (WL_nil ?_)
  refine WQ_nextF (⟨y.k + 1, m2, PX.drain { y.x with P := y.x.P.set y.k (si.advance now) } y.k, N2⟩) (⟨by dsimp only; omega, g2, gg2, (kp.trans kp1).trans kp2, hadv.symm, by dsimp only; omega, by show (PX.drain { y.x with P := y.x.P.set y.k (si.advance now) } y.k).E.length + evS now (x.P.drop (y.k + 1)) ≤ _; omega⟩) (by dsimp only; omega) leZ (psZ) Z pqD
 ·refine WC_exit (WQ_code (WCr ?_))
  have hkl : y.k = x.P.length := by omega
  have hyx2 : y.x = x.advK now x.P.length := by rw [hyx, hkl]
  have hndY := ggy.nd
  have hYl := nums_len hndY gy.num
  have hynow : y.x.now = now := by rw [hyx]; exact (advK_facts x now y.k).1
  refine WLa Z (WL_set (s := 44) (v := ptrP y.m.p) Z (by rw [kp.p]) ?_)
  refine WLa Z (WLf Z fa68_4 (WLl Z sc66 mmD Z (WLc Z (xvals_ok y.m.sb) Z pqD ?_)))
  rintro _ _ ⟨_, ⟨bb, rfl, rfl⟩, rfl⟩
  refine WLc Z (xcoll_ok (W := sesM y.x.S) (by rw [List.length_map]; omega) bb y.m.sb y.m.ses y.m.smc gy.mp) Z pqD ?_
  rintro _ _ ⟨_, ⟨xs, o9, c9, tl9, hperm, rfl, own9, rfl⟩, rfl⟩
  refine WLv Z (R_makeFunc Z Z Z) ?_
  have hxl : xs.length ≤ 101 := by have := hperm.length_eq; rw [List.length_map, List.length_map] at this; omega
  refine WLc Z (xdelf_ok (plW (sesM y.x.S)) xs o9 c9 tl9 own9 45 [.pointer (some ⟨b1, 0, none⟩)] (⟨some b1, cl [.int .u64 (now : Int)] 25⟩ :: ssH y.x.S) (lateS y.x.S now) (fun v hv => xlatK_ok hndY (by rw [← sesM_keys]; exact hperm.mem_iff.1 hv) b1 now) (by omega)) Z pqD ?_
  rintro _ _ ⟨_, ⟨n2, tl2, rfl, rfl, own2, rfl⟩, rfl⟩
  refine WLa Z (WL_nil (WQ_code (WCr (WLa Z (WLc Z (xsort_ok hndY (xs.filter (fun v => !lateS y.x.S now v)) (by have := List.length_filter_le (fun v => !lateS y.x.S now v) xs; omega) (fun k hk => by rw [← sesM_keys]; exact hperm.mem_iff.1 (List.mem_filter.1 hk).1) o9 c9 tl2 own2) Z pqD ?_)))))
  rintro _ _ ⟨_, ⟨ys, rfl, hp2, hs2, rfl⟩, rfl⟩
  have hys : ys = y.x.due.map (·.num) := due_eq hndY hperm (by rw [hynow]; exact hp2) hs2
  have hyl : (xs.filter (fun v => !lateS y.x.S now v)).length = y.x.due.length := by have := hp2.length_eq; rw [hys, List.length_map] at this; exact this.symm
  subst hys
  rw [hyl] at own2 ⊢
  have hdl9 : y.x.due.length ≤ 101 := by have := (due_perm y.x).length_eq; have h9 := List.length_filter_le (fun s : Ss => decide (s.st = 1 ∧ s.til ≤ y.x.now)) y.x.S; omega
  have hBy : PXB (b + 1) y.x := by rw [hyx]; exact advK_B hg hB now y.k
  have hple : y.x.pl = x.pl := by rw [hyx]; exact (advK_facts x now y.k).2.1
  have hdrop0 : evS now (x.P.drop y.k) = 0 := by rw [hkl, List.drop_length]; rfl
  have hEv : evS now x.P ≤ 8000 := by omega
  refine WL_nil (WQ_code (WC_seq (WCr (WLa Z (WLv Z (R_len Z Tryz.underlying97 Z) ?_)))))
  refine WLa Z (WL_nil (WQ_code (WC_block (WC_loopF (G := AvX) [11, 56, 57, 58, 59, 60, 61, 62, 63, 64, 65, 66, 67, 68, 69, 70, 71, 72] (fun z => z.k ≤ y.x.due.length ∧ PXIs z.N z.m z.x ∧ PXG z.x ∧ z.m.p = m.p ∧ z.x = (y.x.due.take z.k).foldl (PX.dueF now) y.x ∧ z.N ≤ y.N + z.k ∧ z.x.E.length ≤ y.x.E.length + z.k ∧ PXB (b + 1 + z.k) z.x ∧ z.x.now = now ∧ z.x.pl = x.pl ∧ ∀ s ∈ y.x.due.drop z.k, s ∈ z.x.S) (fun z => [(56, .int .i64 (z.k : Int))]) (fun z => pxH z.m z.x) (fun z => y.x.due.length - z.k) (⟨0, y.m, y.x, y.N⟩) (⟨Nat.zero_le _, gy, ggy, kp.p, Z, Nat.le_refl _, Nat.le_refl _, hBy, hynow, hple, fun s hs => (due_mem hs).1⟩) leZ pqD ?_))))
  rintro z ⟨hzk, gz, ggz, hzp, hzx, hzN, hzE, hBz, hznow, hzpl, hrem⟩
  refine WCr (WLa Z (WL_nil (WQ_code (WC_seq ?_))))
  refine WC_dec Z (fun c2 => ?_) (fun c2 => ?_)
  ·refine WC_skip (WQ_code (WC_seq (WC_block (WCr ?_))))
   obtain ⟨s, hsd⟩ := getE (T := y.x.due) (i := z.k) (by omega)
   obtain ⟨hsS, hst1, _⟩ := due_mem (List.mem_of_getElem? hsd)
   have hsz : s ∈ z.x.S := hrem s (by rw [dropX hsd]; exact List.mem_cons_self ..)
   obtain ⟨A, B, hS⟩ := List.append_of_mem hsz
   obtain ⟨wd, hwd⟩ := own2.some_of (by omega)
   refine WLv Z (R_idxO hwd Z Tryz.underlying97 Tryz.sizeOf87 Z Z (by omega)) ?_
   refine WLv Z (R_loadO (v := ptrS (plW (sesM y.x.S) s.num)) hwd Z sc87 Z mmD (fm_get0 (encP1 _) (show (y.x.due.map (·.num))[z.k]? = some s.num by rw [List.getElem?_map, hsd]; rfl) (j := 0) (by omega))) ?_
   refine WL_set (s := 59) (v := ptrS s.p) Z (by rw [plW_at hndY hsS]) ?_
   have hpm9 : (ssH z.x.S).Perm (seE s :: ssH (A ++ B)) := by rw [hS]; exact ssH_split A B s
   refine WL_shape (A := ssH z.x.S) pqD hpm9 ?_
   refine WLa Z (WL_nil (WQ_code (WC_seq (WC_draw _ [(0, true), (1, true), (2, true), (3, true), (4, true), (5, true)] followsMixed Z Z (by kernel_rfl) .all ?_))))
   refine WMa Z (WMa Z (WMf Z fa90_2 (WMl Z sc25 mmD Z (WMl Z sc25 mmD Z (WMa Z (WM_nil (WQ_code ?_)))))))
   refine WC_dec Z (fun c3 => ?_) (fun c3 => ?_)
   ·have hdl : s.dl ≤ now := by omega
    refine WC_region (WLa Z (WL_set (s := 66) (v := ptrP z.m.p) Z (by rw [hzp]) ?_))
    refine WL_shape (A := seE s :: ssH (A ++ B)) pqD hpm9.symm ?_
    refine WLa Z (WLc Z (xf_fail gz (by omega) ggz.nd hS hdl) Z pqD ?_)
    rintro _ _ ⟨_, ⟨m3, rfl, rfl, g3, hp3⟩, rfl⟩
    refine WL_nil (WQ_code (WC_region (WLv Z (R_add Z Z Z (by omega)) ?_)))
    refine WLa Z (WL_nil ?_)
    obtain ⟨r1, r2, r3, r4, r5⟩ := dueF_rest ggz now s hBz
    have hS9 : ∀ q ∈ y.x.due.drop (z.k + 1), q ∈ (z.x.dueF now s).S := fun q hq => by
     have h1 := hrem q (by rw [dropX hsd]; exact List.mem_cons_of_mem _ hq)
     have h2 := due_nodup hndY
     have h3 : ((y.x.due.drop z.k).map (·.num)).Nodup := h2.sublist ((List.drop_sublist ..).map _)
     rw [dropX hsd, List.map_cons, List.nodup_cons] at h3
     exact dueF_only z.x now s q h1 (fun e => h3.1 (by rw [← e]; exact List.mem_map_of_mem hq))
    refine WQ_nextF (⟨z.k + 1, m3, z.x.dueF now s, z.N + 1⟩) (⟨by dsimp only; omega, g3, ggz.dueF now hS hst1 (by rw [hzpl]; exact htr), hp3.trans hzp, by rw [foldl_next hsd, ← hzx], by dsimp only; omega, by dsimp only; omega, r4, by rw [r1]; exact hznow, by rw [r2]; exact hzpl, hS9⟩) (by dsimp only; omega) leZ (psZ) Z pqD
   ·have hdl : ¬ s.dl ≤ now := by omega
    refine WC_region (WLa Z (WL_set (s := 69) (v := ptrP z.m.p) Z (by rw [hzp]) ?_))
    refine WL_shape (A := seE s :: ssH (A ++ B)) pqD hpm9.symm ?_
    refine WLa Z (WLc Z (xf_att gz (by omega) (by omega) ggz hBz (by omega) hS hdl) Z pqD ?_)
    rintro _ _ ⟨_, ⟨m3, rfl, rfl, g3, hp3⟩, rfl⟩
    refine WL_nil (WQ_code (WC_region (WLv Z (R_add Z Z Z (by omega)) ?_)))
    refine WLa Z (WL_nil ?_)
    obtain ⟨r1, r2, r3, r4, r5⟩ := dueF_rest ggz now s hBz
    have hS9 : ∀ q ∈ y.x.due.drop (z.k + 1), q ∈ (z.x.dueF now s).S := fun q hq => by
     have h1 := hrem q (by rw [dropX hsd]; exact List.mem_cons_of_mem _ hq)
     have h2 := due_nodup hndY
     have h3 : ((y.x.due.drop z.k).map (·.num)).Nodup := h2.sublist ((List.drop_sublist ..).map _)
     rw [dropX hsd, List.map_cons, List.nodup_cons] at h3
     exact dueF_only z.x now s q h1 (fun e => h3.1 (by rw [← e]; exact List.mem_map_of_mem hq))
    refine WQ_nextF (⟨z.k + 1, m3, z.x.dueF now s, z.N + 1⟩) (⟨by dsimp only; omega, g3, ggz.dueF now hS hst1 (by rw [hzpl]; exact htr), hp3.trans hzp, by rw [foldl_next hsd, ← hzx], by dsimp only; omega, by dsimp only; omega, r4, by rw [r1]; exact hznow, by rw [r2]; exact hzpl, hS9⟩) (by dsimp only; omega) leZ (psZ) Z pqD
  ·refine WC_exit (WQ_code (WCr (WLa Z (WL_nil (WQ_code (WC_ret ?_))))))
   have hzl : z.k = y.x.due.length := by omega
   have hX9 : x.adv now = z.x := by
    rw [hzx, hzl, List.take_length, hyx2]; rfl
   rw [hX9]
   refine WQ1 Z (by
     exact ⟨z.m, z.N, rfl, rfl, by omega, gz, hzp⟩) pqD
theorem pnew_bad (op most : Int) (keep : Nat) (hbad : op < 1 ∨ 64 < op ∨ most < 0 ∨ 64 < most ∨ keep < 1) : Spec Tryz.prog 28 [.int .i64 op, .int .i64 most, .int .u64 (keep : Int)] [] (fun r H' => r = .tuple #[.pointer none, .int .i64 2] ∧ H' = []) := by
 refine Spec.of (E := [(0, .int .i64 op), (1, .int .i64 most), (2, .int .u64 (keep : Int))]) Tryz.func28 rfl (by kernel_rfl) Tryz.ntmps28 rfl rfl (fun w => ?_)
 refine WCr (WLa Z (WLa Z (WL_nil (WQ_code (WC_seq (WCr (WLa Z (WLa Z (WLa Z ?_)))))))))
 refine WL_splitD (s := 10) Z (fun c1 => ?_) (fun c1 => ?_)
 ·refine WLa Z (WLa Z (WLa Z (WLa Z (WLa Z (WLa Z (WLa Z (WLa Z (WLa Z (WLa Z (WLa Z (WLa Z (WLa Z (WLa Z (WLa Z (WL_nil (WQ_code (WC_T Z (WCr (WLa Z (WLa Z (WL_nil (WQ_code (WC_ret ?_)))))))))))))))))))))))
  refine WQ2 Z (by
    exact ⟨rfl, rfl⟩) pqZ
 ·refine WLa Z (WLa Z (WLa Z (WLa Z ?_)))
  refine WL_splitD (s := 14) Z (fun c2 => ?_) (fun c2 => ?_)
  ·refine WLa Z (WLa Z (WLa Z (WLa Z (WLa Z (WLa Z (WLa Z (WLa Z (WLa Z (WLa Z (WLa Z (WL_nil (WQ_code (WC_T Z (WCr (WLa Z (WLa Z (WL_nil (WQ_code (WC_ret ?_)))))))))))))))))))
   refine WQ2 Z (by
     exact ⟨rfl, rfl⟩) pqZ
  ·refine WLa Z (WLa Z (WLa Z (WLa Z ?_)))
   refine WL_splitD (s := 18) Z (fun c3 => ?_) (fun c3 => ?_)
   ·refine WLa Z (WLa Z (WLa Z (WLa Z (WLa Z (WLa Z (WLa Z (WL_nil (WQ_code (WC_T Z (WCr (WLa Z (WLa Z (WL_nil (WQ_code (WC_ret ?_)))))))))))))))
    refine WQ2 Z (by
      exact ⟨rfl, rfl⟩) pqZ
   ·refine WLa Z (WLa Z (WLa Z (WLa Z ?_)))
    refine WL_splitD (s := 22) Z (fun c4 => ?_) (fun c4 => ?_)
    ·refine WLa Z (WLa Z (WLa Z (WL_nil (WQ_code (WC_T Z (WCr (WLa Z (WLa Z (WL_nil (WQ_code (WC_ret ?_)))))))))))
     refine WQ2 Z (by
       exact ⟨rfl, rfl⟩) pqZ
    ·refine WLa Z (WLa Z (WLa Z (WL_nil (WQ_code (WC_dT Z (by omega) ?_)))))
     refine WCr (WLa Z (WLa Z (WL_nil (WQ_code (WC_ret ?_)))))
     refine WQ2 Z (by
       exact ⟨rfl, rfl⟩) pqZ
theorem PIs.new (b1 pq pm mb : Nat) {op most keep : Nat} (h1 : 1 ≤ op ∧ op ≤ 64) (h2 : most ≤ 64) (h3 : 1 ≤ keep ∧ keep ≤ 18446744073709551615) : PIs (⟨b1, pq, pm, #[], 0, mb, #[], 0, none, 0, 0, [], []⟩ : PM) (PS.new op most keep) :=
 ⟨by simp [PS.new], Qk.empty 0, mp_new, Mk.empty, OwnS.empty 3, fun x hx => (by cases hx), h1, h2, fun x hx => by rw [List.eq_of_mem_replicate hx]; exact Nat.zero_le _, Nat.zero_le _, h3, fun x hx => by rw [List.eq_of_mem_replicate hx]; exact ⟨by decide, by decide⟩⟩
theorem pnew_ok (op most keep : Nat) (h1 : 1 ≤ op ∧ op ≤ 64) (h2 : most ≤ 64) (h3 : 1 ≤ keep ∧ keep ≤ 18446744073709551615) : Spec Tryz.prog 28 [.int .i64 (op : Int), .int .i64 (most : Int), .int .u64 (keep : Int)] [] (fun r H' => ∃ m, r = .tuple #[ptrP m.p, .int .i64 0] ∧ H' = poH m (PS.new op most keep) ∧ PIs m (PS.new op most keep)) := by
 refine Spec.of (E := [(0, .int .i64 (op : Int)), (1, .int .i64 (most : Int)), (2, .int .u64 (keep : Int))]) Tryz.func28 rfl (by kernel_rfl) Tryz.ntmps28 rfl rfl (fun w => ?_)
 refine WCr (WLa Z (WLa Z (WL_nil (WQ_code (WC_seq (WCr (WLa Z (WLa Z (WLa Z (WL_set (s := 10) (v := .bool false) Z (by simp <;> omega) ?_))))))))))
 refine WLa Z (WLa Z (WLa Z (WLa Z (WL_set (s := 14) (v := .bool false) Z (by simp <;> omega) ?_))))
 refine WLa Z (WLa Z (WLa Z (WLa Z (WL_set (s := 18) (v := .bool false) Z (by simp <;> omega) ?_))))
 refine WLa Z (WLa Z (WLa Z (WLa Z (WL_set (s := 22) (v := .bool false) Z (by simp <;> omega) ?_))))
 refine WLa Z (WLa Z (WLa Z (WL_nil (WQ_code (WC_dF Z (by omega) ?_)))))
 refine WC_skip (WQ_code (WCr (WL_none 143 ?_)))
 refine WLa Z (WLa Z (WLa Z (WLc Z (qnew_ok) Z pqZ ?_)))
 rintro _ _ ⟨_, ⟨pq, pm, rfl, rfl⟩, rfl⟩
 refine WLd Z (D_makeMap Z) ?_
 rintro _ _ ⟨mb, rfl, rfl⟩
 refine WLv Z (R_build (cs := pC ⟨0, pq, pm, #[], 0, mb, #[], 0, none, 0, 0, [], []⟩ (PS.new op most keep)) Z zv136 pl136 Z (by kernel_rfl)) ?_
 refine WLd Z (D_box (cs := pC ⟨0, pq, pm, #[], 0, mb, #[], 0, none, 0, 0, [], []⟩ (PS.new op most keep)) Z Z Z) ?_
 rintro _ _ ⟨b1, rfl, rfl⟩
 refine WLa Z (WLa Z (WL_nil (WQ_code (WC_ret ?_))))
 refine WQ2 Z (by
   exact ⟨(⟨b1, pq, pm, #[], 0, mb, #[], 0, none, 0, 0, [], []⟩ : PM), rfl, rfl, PIs.new b1 pq pm mb h1 h2 h3⟩) pqZ
abbrev xsetL (k : Int) (oa : Option Addr) (n c : Nat) (limit : Int) (brk : Nat) (op idle : Int) (keep : Nat) (p : Plan) : List Value := [.int .i64 k, .slice oa n c, .int .i64 limit, .int .u64 (brk : Int), .int .i64 op, .int .i64 idle, .int .u64 (keep : Int), .int .u64 (p.base : Int), .int .u64 (p.most : Int), .int .i64 p.num, .int .i64 p.den, .int .i64 p.tries, .int .i64 p.jit, .int .u32 (p.seed : Int)]
abbrev VOkB (k : Int) (W : List Int) (limit : Int) (op : Nat) : Prop := (1 ≤ k ∧ k ≤ 4) ∧ (1 ≤ W.length ∧ W.length ≤ 64) ∧ (∀ w ∈ W, 1 ≤ w ∧ w ≤ 100) ∧ OkR limit 1 op
abbrev POk (op idle : Int) (keep : Nat) : Prop := (1 ≤ op ∧ op ≤ 64) ∧ (0 ≤ idle ∧ idle ≤ 64) ∧ 1 ≤ keep
def px0 (k : Nat) (W : List Int) (limit : Int) (brk : Nat) (op idle : Int) (keep : Nat) (p : Plan) : PX := ⟨bs0 k W limit brk, List.replicate W.length (PS.new op.toNat idle.toNat keep), p, 0, [], []⟩
theorem xbnew_bad (k : Int) (W : List Int) (oa : Option Addr) (c : Nat) (ent : Ent) (ha : Rd oa ent W) (limit : Int) (op : Nat) (h : ¬ VOkB k W limit op) : Spec Tryz.prog 26 [.int .i64 k, .slice oa W.length c, .int .i64 limit, .int .u64 (op : Int)] [ent] (fun r H' => r = .tuple #[.pointer none, .int .i64 2] ∧ H' = [ent]) := by
 by_cases h1 : k < 1 ∨ 4 < k
 ·exact bnew_badK k h1 W oa c ent ha limit op
 obtain ⟨k, rfl⟩ := Int.eq_ofNat_of_zero_le (show 0 ≤ k by omega)
 have hk : 1 ≤ k ∧ k ≤ 4 := by omega
 by_cases h2 : W.length = 0 ∨ 64 < W.length
 ·exact bnew_badN k hk W oa c ent ha limit op h2
 have h3 : 1 ≤ W.length ∧ W.length ≤ 64 := by omega
 by_cases hR : OkR limit 1 op
 ·by_cases hW : ∀ w ∈ W, 1 ≤ w ∧ w ≤ 100
  ·exact absurd ⟨by omega, h3, hW, hR⟩ h
  ·exact bnew_badW k hk W oa c ent ha limit op h3 hR hW
 ·exact bnew_badR k hk W oa c ent ha limit op h3 hR
theorem xbnew_ok (k : Nat) (W : List Int) (oa : Option Addr) (c : Nat) (ent : Ent) (ha : Rd oa ent W) (limit : Int) (op : Nat) (h : VOkB (k : Int) W limit op) : Spec Tryz.prog 26 [.int .i64 (k : Int), .slice oa W.length c, .int .i64 limit, .int .u64 (op : Int)] [ent]
  (fun r H' => ∃ m, r = .tuple #[ptrB m.p, .int .i64 0] ∧ H' = ent :: balH m ∧ BIs 0 m (bs0 k W limit op)) :=
 (bnew_ok k ⟨by omega, by omega⟩ W oa c ent ha limit op h.2.1 h.2.2.2 h.2.2.1).mono fun r H' ⟨m, h1, h2, h3, h4, h5, h6, h7, h8, h9⟩ => ⟨m, h1, h2, h3, h4, h9, h6, h7, h8⟩
structure XnW where
 j : Nat
 L : List PM
 B : Heap
 o : Option Nat
 c : Nat
 t : List Value
theorem poolsH_snoc : ∀ {ms : List PM} {ss : List PS} {m : PM} {s : PS}, ms.length = ss.length → poolsH (ms ++ [m]) (ss ++ [s]) = poolsH ms ss ++ poH m s
 | [], [], m, s, _ => by show poH m s ++ [] = _; rw [List.append_nil]; rfl
 | [], _ :: _, _, _, h => by simp at h
 | _ :: _, [], _, _, h => by simp at h
 | a :: ms, b :: ss, m, s, h => by
  show poH a b ++ poolsH (ms ++ [m]) (ss ++ [s]) = (poH a b ++ poolsH ms ss) ++ poH m s
  rw [poolsH_snoc (by simpa using h), List.append_assoc]
theorem xnew_bad1 (k : Int) (W : List Int) (oa : Option Addr) (c : Nat) (ent : Ent) (ha : Rd oa ent W) (limit : Int) (brk : Nat) (op idle : Int) (keep : Nat) (p : Plan) (h : ¬ VOkB k W limit brk) : Spec Tryz.prog 9 [.agg (xsetL k oa W.length c limit brk op idle keep p).toArray] [ent] (fun r H' => r = .tuple #[.pointer none, .int .i64 2] ∧ H' = [ent]) := by
 refine Spec.of (E := [(0, .agg (xsetL k oa W.length c limit brk op idle keep p).toArray)]) Tryz.func9 rfl (by kernel_rfl) Tryz.ntmps9 rfl rfl (fun w => ?_)
 refine WCr (WLd Z (D_box (cs := [_, _, _, _, _, _, _, _, _, _, _, _, _, _]) Z Z Z) ?_)
 rintro _ _ ⟨b1, rfl, rfl⟩
 refine WLa Z (WLa Z (WL_nil (WQ_code (WCr (WLf Z fa30_0 (WLl Z sc22 mmD Z (WLf Z fa30_1 (WLl Z sc23 mmD Z (WLf Z fa30_2 (WLl Z sc3 mmD Z (WLf Z fa30_3 (WLl Z sc25 mmD Z (WLc Z (xbnew_bad k W oa c ent ha limit brk h) Z pqD ?_)))))))))))))
 rintro _ _ ⟨_, ⟨rfl, rfl⟩, rfl⟩
 refine WLa Z (WLa Z (WLa Z (WLa Z (WLa Z (WL_nil (WQ_code (WC_seq (WCr (WLa Z (WLa Z (WLa Z (WL_set (s := 23) (v := .bool true) Z (by rfl) ?_))))))))))))
 refine WLa Z (WLa Z (WLa Z (WLa Z (WLa Z (WL_nil (WQ_code (WC_T Z (WCr (WLa Z (WLa Z (WL_nil (WQ_code (WC_ret ?_)))))))))))))
 refine WQ2 Z (by
   exact ⟨rfl, rfl⟩) pqD
theorem xnew_bad2 (k : Nat) (W : List Int) (oa : Option Addr) (c : Nat) (ent : Ent) (ha : Rd oa ent W) (limit : Int) (brk : Nat) (op idle : Int) (keep : Nat) (p : Plan) (h : VOkB (k : Int) W limit brk) (hp : ¬ OkP p) : Spec Tryz.prog 9 [.agg (xsetL (k : Int) oa W.length c limit brk op idle keep p).toArray] [ent] (fun r H' => r = .tuple #[.pointer none, .int .i64 2] ∧ H' = [ent]) := by
 refine Spec.of (E := [(0, .agg (xsetL (k : Int) oa W.length c limit brk op idle keep p).toArray)]) Tryz.func9 rfl (by kernel_rfl) Tryz.ntmps9 rfl rfl (fun w => ?_)
 refine WCr (WLd Z (D_box (cs := [_, _, _, _, _, _, _, _, _, _, _, _, _, _]) Z Z Z) ?_)
 rintro _ _ ⟨b1, rfl, rfl⟩
 refine WLa Z (WLa Z (WL_nil (WQ_code (WCr (WLf Z fa30_0 (WLl Z sc22 mmD Z (WLf Z fa30_1 (WLl Z sc23 mmD Z (WLf Z fa30_2 (WLl Z sc3 mmD Z (WLf Z fa30_3 (WLl Z sc25 mmD Z (WLc Z (xbnew_ok k W oa c ent ha limit brk h) Z pqD ?_)))))))))))))
 rintro _ _ ⟨_, ⟨bm, rfl, rfl, hbm⟩, rfl⟩
 refine WLa Z (WLa Z (WLa Z (WLa Z (WLa Z (WL_nil (WQ_code (WC_seq (WCr (WLa Z (WLa Z (WLa Z (WL_set (s := 23) (v := .bool false) Z (by rfl) ?_))))))))))))
 refine WLf Z fa30_7 (WLv Z (R_loadA (vs := [_, _, _, _, _, _, _]) Z ag28 Z mmD Z ((atZ : At _ 7 [_, _, _, _, _, _, _]))) ?_)
 refine WLq Z (valid_ok p) Z pqD ?_
 refine WL_set (s := 26) (v := .bool false) Z (by exact congrArg Value.bool (decide_eq_false hp)) ?_
 refine WLa Z (WLa Z (WL_nil (WQ_code (WC_T Z (WCr (WLa Z (WLa Z (WL_nil (WQ_code (WC_ret ?_))))))))))
 refine WQ2 Z (by
   exact ⟨rfl, rfl⟩) pqD
theorem xnew_bad3 (k : Nat) (W : List Int) (oa : Option Addr) (c : Nat) (ent : Ent) (ha : Rd oa ent W) (limit : Int) (brk : Nat) (op idle : Int) (keep : Nat) (p : Plan) (h : VOkB (k : Int) W limit brk) (hp : OkP p) (hq : ¬ POk op idle keep) : Spec Tryz.prog 9 [.agg (xsetL (k : Int) oa W.length c limit brk op idle keep p).toArray] [ent] (fun r H' => r = .tuple #[.pointer none, .int .i64 2] ∧ H' = [ent]) := by
 have hWl := h.2.1
 refine Spec.of (E := [(0, .agg (xsetL (k : Int) oa W.length c limit brk op idle keep p).toArray)]) Tryz.func9 rfl (by kernel_rfl) Tryz.ntmps9 rfl rfl (fun w => ?_)
 refine WCr (WLd Z (D_box (cs := [_, _, _, _, _, _, _, _, _, _, _, _, _, _]) Z Z Z) ?_)
 rintro _ _ ⟨b1, rfl, rfl⟩
 refine WLa Z (WLa Z (WL_nil (WQ_code (WCr (WLf Z fa30_0 (WLl Z sc22 mmD Z (WLf Z fa30_1 (WLl Z sc23 mmD Z (WLf Z fa30_2 (WLl Z sc3 mmD Z (WLf Z fa30_3 (WLl Z sc25 mmD Z (WLc Z (xbnew_ok k W oa c ent ha limit brk h) Z pqD ?_)))))))))))))
 rintro _ _ ⟨_, ⟨bm, rfl, rfl, hbm⟩, rfl⟩
 refine WLa Z (WLa Z (WLa Z (WLa Z (WLa Z (WL_nil (WQ_code (WC_seq (WCr (WLa Z (WLa Z (WLa Z (WL_set (s := 23) (v := .bool false) Z (by rfl) ?_))))))))))))
 refine WLf Z fa30_7 (WLv Z (R_loadA (vs := [_, _, _, _, _, _, _]) Z ag28 Z mmD Z ((atZ : At _ 7 [_, _, _, _, _, _, _]))) ?_)
 refine WLq Z (valid_ok p) Z pqD ?_
 refine WL_set (s := 26) (v := .bool true) Z (by exact congrArg Value.bool (decide_eq_true hp)) ?_
 refine WLa Z (WLa Z (WL_nil (WQ_code (WC_F Z (WC_skip (WQ_code (WCr (WLa Z (WLf Z fa30_7 (WLv Z (R_loadA (vs := [_, _, _, _, _, _, _]) Z ag28 Z mmD Z ((atZ : At _ 7 [_, _, _, _, _, _, _]))) ?_))))))))))
 refine WLd Z (D_makeMap Z) ?_
 rintro _ _ ⟨mb, rfl, rfl⟩
 refine WLv Z (R_build Z zv68 pl68 Z Z) ?_
 refine WLd Z (D_box (cs := [_, _, _, _, _, _, _, _, _, _, _, _]) Z Z Z) ?_
 rintro _ _ ⟨b2, rfl, rfl⟩
 refine WLa Z (WL_nil (WQ_code (WC_seq (WCr (WLf Z fa30_1 (WLl Z sc23 mmD Z (WLv Z (R_len Z Tryz.underlying23 Z) ?_)))))))
 refine WLa Z (WL_nil (WQ_code (WC_block (WC_loopF (G := Unit) [2, 3, 7, 8, 38, 39, 40, 41, 42, 43, 44, 45, 46, 47, 48, 49, 50, 51, 52, 53, 54, 55, 56, 57, 58, 59, 60, 61, 62] (fun y => True) (fun y => [(38, .int .i64 0)]) (fun y => []) (fun y => 0) (()) (trivial) leZ pqD ?_))))
 rintro y _
 refine WCr (WLa Z (WL_nil (WQ_code (WC_seq (WC_dT Z (by omega) ?_)))))
 refine WC_skip (WQ_code (WC_seq (WC_block (WCr (WLf Z fa30_4 (WLl Z sc3 mmD Z (WLf Z fa30_5 (WLl Z sc3 mmD Z (WLf Z fa30_6 (WLl Z sc25 mmD Z (WLc Z (pnew_bad op idle keep (by unfold POk at hq; omega)) Z pqD ?_)))))))))))
 rintro _ _ ⟨_, ⟨rfl, rfl⟩, rfl⟩
 refine WLa Z (WLa Z (WLa Z (WLa Z (WLa Z (WL_nil (WQ_code (WC_seq (WCr (WLa Z (WLa Z (WL_nil (WQ_code (WC_dT Z (by decide) ?_)))))))))))))
 refine WCr (WLa Z (WLa Z (WL_nil (WQ_code (WC_ret ?_)))))
 refine WQ2 Z (by
   exact ⟨rfl, rfl⟩) pqD
theorem xnew_ok (k : Nat) (W : List Int) (oa : Option Addr) (c : Nat) (ent : Ent) (ha : Rd oa ent W) (limit : Int) (brk : Nat) (op idle : Int) (keep : Nat) (p : Plan) (h : VOkB (k : Int) W limit brk) (hp : OkP p) (hq : POk op idle keep) (hsd : p.seed < 4294967296) (hkp : keep ≤ 18446744073709551615) : Spec Tryz.prog 9 [.agg (xsetL (k : Int) oa W.length c limit brk op idle keep p).toArray] [ent]
  (fun r H' => ∃ m, r = .tuple #[ptrP m.p, .int .i64 0] ∧ H' = ent :: pxH m (px0 k W limit brk op idle keep p) ∧ PXIs 0 m (px0 k W limit brk op idle keep p)) := by
 have hWl := h.2.1
 obtain ⟨⟨hq1, hq2⟩, ⟨hq3, hq4⟩, hq5⟩ := hq
 refine Spec.of (E := [(0, .agg (xsetL (k : Int) oa W.length c limit brk op idle keep p).toArray)]) Tryz.func9 rfl (by kernel_rfl) Tryz.ntmps9 rfl rfl (fun w => ?_)
 refine WCr (WLd Z (D_box (cs := [_, _, _, _, _, _, _, _, _, _, _, _, _, _]) Z Z Z) ?_)
 rintro _ _ ⟨b1, rfl, rfl⟩
 refine WLa Z (WLa Z (WL_nil (WQ_code (WCr (WLf Z fa30_0 (WLl Z sc22 mmD Z (WLf Z fa30_1 (WLl Z sc23 mmD Z (WLf Z fa30_2 (WLl Z sc3 mmD Z (WLf Z fa30_3 (WLl Z sc25 mmD Z (WLc Z (xbnew_ok k W oa c ent ha limit brk h) Z pqD ?_)))))))))))))
 rintro _ _ ⟨_, ⟨bm, rfl, rfl, hbm⟩, rfl⟩
 refine WLa Z (WLa Z (WLa Z (WLa Z (WLa Z (WL_nil (WQ_code (WC_seq (WCr (WLa Z (WLa Z (WLa Z (WL_set (s := 23) (v := .bool false) Z (by rfl) ?_))))))))))))
 refine WLf Z fa30_7 (WLv Z (R_loadA (vs := [_, _, _, _, _, _, _]) Z ag28 Z mmD Z ((atZ : At _ 7 [_, _, _, _, _, _, _]))) ?_)
 refine WLq Z (valid_ok p) Z pqD ?_
 refine WL_set (s := 26) (v := .bool true) Z (by exact congrArg Value.bool (decide_eq_true hp)) ?_
 refine WLa Z (WLa Z (WL_nil (WQ_code (WC_F Z (WC_skip (WQ_code (WCr (WLa Z (WLf Z fa30_7 (WLv Z (R_loadA (vs := [_, _, _, _, _, _, _]) Z ag28 Z mmD Z ((atZ : At _ 7 [_, _, _, _, _, _, _]))) ?_))))))))))
 refine WLd Z (D_makeMap Z) ?_
 rintro _ _ ⟨mb, rfl, rfl⟩
 refine WLv Z (R_build Z zv68 pl68 Z Z) ?_
 refine WLd Z (D_box (cs := [_, _, _, _, _, _, _, _, _, _, _, _]) Z Z Z) ?_
 rintro _ _ ⟨b2, rfl, rfl⟩
 refine WLa Z (WL_nil (WQ_code (WC_seq (WCr (WLf Z fa30_1 (WLl Z sc23 mmD Z (WLv Z (R_len Z Tryz.underlying23 Z) ?_)))))))
 refine WLa Z (WL_nil (WQ_code (WC_block (WC_none 63 ?_))))
 refine WC_none 79 ?_
 refine WC_loopF (G := XnW) [2, 3, 7, 8, 38, 39, 40, 41, 42, 43, 44, 45, 46, 47, 48, 49, 50, 51, 52, 53, 54, 55, 56, 57, 58, 59, 60, 61, 62] (fun y => y.j ≤ W.length ∧ y.L.length = y.j ∧ (∀ q ∈ y.L, PIs q (PS.new op.toNat idle.toNat keep)) ∧ y.B = poolsH y.L (List.replicate y.j (PS.new op.toNat idle.toNat keep)) ∧ Own y.o y.L.length y.c 1 (y.L.flatMap (fun q => [ptrP q.p])) y.t) (fun y => [(38, .int .i64 (y.j : Int))]) (fun y => [⟨some b2, cl ([ptrB bm.p, slV y.o y.L.length y.c] ++ plL p ++ [.int .u64 0, .map (some mb), .slice none 0 0]) 68⟩, ⟨y.o, cl (y.L.flatMap (fun q => [ptrP q.p]) ++ y.t) 79⟩] ++ y.B) (fun y => W.length - y.j) (⟨0, [], [], none, 0, []⟩) (⟨Nat.zero_le _, Z, fun q hq => (by cases hq), Z, Own.empty 1⟩) leZ pqD ?_
 rintro y ⟨hyj, hyL, hyp, hyB, hyo⟩
 refine WCr (WLa Z (WL_nil (WQ_code (WC_seq ?_))))
 refine WC_dec Z (fun c1 => ?_) (fun c1 => ?_)
 ·refine WC_skip (WQ_code (WC_seq (WC_block (WCr (WLf Z fa30_4 (WLl Z sc3 mmD Z (WL_set (s := 42) (v := .int .i64 ((op.toNat : Nat) : Int)) Z (by rw [Int.toNat_of_nonneg (by omega)]) ?_)))))))
  refine WLf Z fa30_5 (WLl Z sc3 mmD Z (WL_set (s := 44) (v := .int .i64 ((idle.toNat : Nat) : Int)) Z (by rw [Int.toNat_of_nonneg (by omega)]) ?_))
  refine WLf Z fa30_6 (WLl Z sc25 mmD Z (WLc Z (pnew_ok op.toNat idle.toNat keep ⟨by omega, by omega⟩ (by omega) ⟨hq5, hkp⟩) Z pqD ?_))
  rintro _ _ ⟨_, ⟨pm9, rfl, rfl, hpm9⟩, rfl⟩
  refine WLa Z (WLa Z (WLa Z (WLa Z (WLa Z (WL_nil (WQ_code (WC_seq (WCr (WLa Z (WLa Z (WL_nil (WQ_code (WC_dF Z (by decide) ?_)))))))))))))
  refine WC_skip (WQ_code (WC_region (WLa Z (WLa Z (WLa Z (WLf Z fa68_1 (WLl Z sc56 mmD Z (WLa Z (WLd Z (D_buildSlice Z si56 Z Z Z) ?_)))))))))
  rintro _ _ ⟨b3, rfl, rfl⟩
  refine WLd Z (D_append Z si56 Z (hyo) plD Z mmD ((atZ : At _ 0 [_])) (Z) (Z) (by omega) (by omega)) ?_
  rintro _ _ ⟨ob4, cap4, tl4, rfl, own4, rfl⟩
  rw [show y.L.flatMap (fun q => [ptrP q.p]) ++ [ptrP pm9.p] = (y.L ++ [pm9]).flatMap (fun q => [ptrP q.p]) from by simp, show y.L.length + 1 = (y.L ++ [pm9]).length from by simp] at own4 ⊢
  refine WLa Z (WLf Z fa68_1 (WLs (vs := [_]) Z Tryz.sizeOf56 Z Z plD (nb Z) ?_))
  refine WL_nil (WQ_code (WC_region (WLv Z (R_add Z Z Z (by omega)) ?_)))
  refine WLa Z (WL_nil ?_)
  refine WQ_nextF (⟨y.j + 1, y.L ++ [pm9], y.B ++ poH pm9 (PS.new op.toNat idle.toNat keep), ob4, cap4, tl4⟩) (⟨by dsimp only; omega, by dsimp only; rw [List.length_append, hyL]; rfl, fun q hq => by rcases List.mem_append.1 hq with hq | hq; exact hyp q hq; rw [List.mem_singleton.1 hq]; exact hpm9, by dsimp only; rw [hyB, List.replicate_succ', poolsH_snoc (by rw [List.length_replicate, hyL])], own4⟩) (by dsimp only; omega) leZ (psZ) Z pqD
 ·have hjl : y.j = W.length := by omega
  refine WC_exit (WQ_code (WCr (WLa Z (WLa Z (WLa Z (WL_nil (WQ_code (WC_ret ?_))))))))
  rw [hjl] at hyL hyB
  rw [hyB, hyL]
  have hlen : (px0 k W limit brk op idle keep p).P.length = W.length := List.length_replicate ..
  have hpx : pxH (⟨b2, bm, y.L, y.o, y.c, y.t, mb, #[], 0, none, 0, 0, [], []⟩ : XM) (px0 k W limit brk op idle keep p) = [⟨some b2, cl ([ptrB bm.p, slV y.o W.length y.c] ++ plL p ++ [.int .u64 0, .map (some mb), .slice none 0 0]) 68⟩, ⟨some mb, .map #[] 0⟩, ⟨none, cl [] 63⟩, ⟨y.o, cl (y.L.flatMap (fun q => [ptrP q.p]) ++ y.t) 79⟩] ++ (balH bm ++ poolsH y.L (List.replicate W.length (PS.new op.toNat idle.toNat keep))) := by
   unfold pxH pxE pxC
   rw [hlen]; rfl
  refine WQ2 Z (by
    exact ⟨(⟨b2, bm, y.L, y.o, y.c, y.t, mb, #[], 0, none, 0, 0, [], []⟩ : XM), rfl, (congrArg (List.cons ent) hpx).symm, ⟨hbm, by rw [hlen]; exact hyL, fun i mi si h1 h2 => by (have h3 := List.mem_of_getElem? h2); rw [List.eq_of_mem_replicate h3]; exact hyp mi (List.mem_of_getElem? h1), by rw [hlen, ← hyL]; exact hyo, Mk.empty, OwnS.empty 5, hp, hsd, fun s hs => (by cases hs), by rw [hlen]; show (bs0 k W limit brk).V.length = _; unfold bs0; rw [List.length_map], Nat.zero_le _⟩⟩) pqD
theorem WQ_shape {X : Ctx} {K : Act → World → Prop} {E : Env} {H A A' F : Heap} (q : Pulls A H F) (hp : A.Perm A') (h : WQ X K E (A' ++ F)) : WQ X K E H := fun a w ha hw => h a w ha (hw.perm (q.perm.trans (hp.append_right F)))
def dueK (S : List Ss) (ys : List Int) : Nat := ys.foldl (fun a k => if (sesK S k).st = 1 then min a (sesK S k).til else a) 18446744073709551615
def dueV (S : List Ss) : Nat := S.foldl (fun a s => if s.st = 1 then min a s.til else a) 18446744073709551615
theorem dueK_snoc (S : List Ss) (ys : List Int) (k : Int) : dueK S (ys ++ [k]) = if (sesK S k).st = 1 then min (dueK S ys) (sesK S k).til else dueK S ys := by unfold dueK; rw [List.foldl_append]; rfl
theorem dueK_perm {S : List Ss} (hn : (S.map (·.num)).Nodup) {ys : List Int} (h : ys.Perm ((sesM S).map (·.1))) : dueK S ys = dueV S := by
 have h1 : dueK S ys = dueK S (S.map (·.num)) := by
  rw [sesM_keys] at h
  exact h.foldl_eq' (fun x _ y _ z => by (repeat' split) <;> omega) _
 rw [h1]
 unfold dueK dueV
 rw [List.foldl_map]
 have key : ∀ (L : List Ss) (a : Nat), (∀ s ∈ L, s ∈ S) → L.foldl (fun a s => if (sesK S s.num).st = 1 then min a (sesK S s.num).til else a) a = L.foldl (fun a s => if s.st = 1 then min a s.til else a) a := by
  intro L
  induction L with
  | nil => intro a _; rfl
  | cons s r ih =>
   intro a hL
   rw [List.foldl_cons, List.foldl_cons, sesK_at hn (hL s (List.mem_cons_self ..))]
   exact ih _ fun q hq => hL q (List.mem_cons_of_mem _ hq)
 exact key S _ fun s hs => hs
theorem xdue_ok {N : Nat} {m : XM} {x : PX} (h : PXIs N m x) (hn : (x.S.map (·.num)).Nodup) : Spec Tryz.prog 22 [ptrP m.p] ([pxE m x, pxM m] ++ ssH x.S) (fun r H' => r = .int .u64 (dueV x.S : Int) ∧ H' = [pxE m x, pxM m] ++ ssH x.S) := by
 have hM := h.mp
 refine Spec.of (E := [(0, ptrP m.p)]) Tryz.func22 rfl (by kernel_rfl) Tryz.ntmps22 rfl rfl (fun w => ?_)
 refine WCr (WLa Z (WL_nil (WQ_code (WCr (WLa Z (WL_nil (WQ_code (WC_seq (WCr (WLa Z (WLv Z (R_ptrEqNil Z Tryz.underlying33 Z) ?_)))))))))))
 refine WL_nil (WQ_code (WC_F Z (WC_skip (WQ_code (WC_seq (WCr (WLa Z (WLa Z (WLf Z fa68_4 (WLl Z sc66 mmD Z (WLd Z (D_rangeMap Z Tryz.underlying66 Z mmD) ?_)))))))))))
 rintro _ _ ⟨bi, rfl, rfl⟩
 refine WL_nil (WQ_code (WC_block (WC_loopF (G := KyG Int) [3, 5, 14, 15, 16, 17, 18, 19, 20, 21, 22, 23, 24, 25, 26, 27, 28] (fun y => KsG ekW (sesM x.S) m.ses y.seen y.ys) (fun y => [(3, .int .u64 (dueK x.S y.ys : Int))]) (fun y => [⟨some bi, .mapIter (some m.sb) m.smc y.seen m.smc⟩]) (fun y => (sesM x.S).length - y.ys.length) (⟨#[], [], []⟩) (KsG.new ekW (sesM x.S) m.ses) leZ pqD ?_)))
 rintro y hks
 refine WCr (WLd Z (D_nextMap Z Z plD mmD hM.born) ?_)
 rintro _ _ (⟨rfl, rfl, hall⟩ | ⟨e, he, hns, rfl, rfl⟩)
 ·refine WLa Z (WL_set (s := 15) (v := .bool false) Z (by rfl) ?_)
  refine WL_nil (WQ_code (WC_seq (WC_F Z (WC_exit (WQ_code (WCr (WLa Z (WLa Z (WL_nil (WQ_code (WC_ret ?_)))))))))))
  rw [dueK_perm hn (hks.done hM hall)]
  refine WQ1 Z (by
    exact ⟨rfl, rfl⟩) pqD
 ·refine WLa Z (WL_set (s := 15) (v := .bool true) Z (by rfl) ?_)
  refine WL_nil (WQ_code (WC_seq (WC_T Z (WC_skip (WQ_code (WC_block (WCr ?_)))))))
  obtain ⟨⟨k, v9⟩, hx, hek, hev⟩ := hM.back he
  dsimp only at hek hev
  obtain ⟨hmay, hks2⟩ := hks.next ekW_inj hM he hns hek
  obtain ⟨s, hs, hsx⟩ := List.mem_map.1 hx
  obtain ⟨rfl, rfl⟩ := Prod.mk.inj hsx
  obtain ⟨A, B, hS⟩ := List.append_of_mem hs
  have hsk := sesK_at hn hs
  refine WLv Z (R_entryMap Z Z mmD mmD he hM.bnd) ?_
  rw [hek, hev]
  refine WLa Z (WLa Z (WL_nil (WQ_code (WCr (WLa Z ?_)))))
  have hpm9 : (ssH x.S).Perm (seE s :: ssH (A ++ B)) := by rw [hS]; exact ssH_split A B s
  refine WL_shape (A := ssH x.S) pqD hpm9 ?_
  refine WLa Z (WLf Z fa90_4 (WLl Z sc49 mmD Z (WLa Z (WL_nil (WQ_code ?_)))))
  refine WC_dec Z (fun c1 => ?_) (fun c1 => ?_)
  ·have hc9 : s.st = 1 := c1
   refine WC_region (WLa Z (WLa Z (WLa Z (WLf Z fa90_5 (WLl Z sc25 mmD Z (WLv Z (R_min Z Z Z) ?_))))))
   refine WL_set (s := 28) (v := .int .u64 ((dueK x.S (y.ys ++ [s.num]) : Nat) : Int)) Z (by exact congrArg (Value.int .u64) (by rw [dueK_snoc, hsk, if_pos hc9]; omega)) ?_
   refine WLa Z (WL_nil (WQ_shape (A := seE s :: ssH (A ++ B)) pqD hpm9.symm ?_))
   refine WQ_nextF (gg := y) (⟨y.seen.push e.born, y.ys ++ [s.num], []⟩) (hks2) (by have := hks2.len; rw [List.length_append, List.length_singleton] at this; dsimp only; rw [List.length_append, List.length_singleton]; omega) leZ (psZ) Z pqD
  ·have hc9 : ¬ s.st = 1 := c1
   refine WC_set (s := 3) (v := .int .u64 ((dueK x.S (y.ys ++ [s.num]) : Nat) : Int)) Z (by rw [dueK_snoc, hsk, if_neg hc9]) ?_
   refine WC_skip (WQ_shape (A := seE s :: ssH (A ++ B)) pqD hpm9.symm ?_)
   refine WQ_nextF (gg := y) (⟨y.seen.push e.born, y.ys ++ [s.num], []⟩) (hks2) (by have := hks2.len; rw [List.length_append, List.length_singleton] at this; dsimp only; rw [List.length_append, List.length_singleton]; omega) leZ (psZ) Z pqD
theorem xdue_all {N : Nat} {m : XM} {x : PX} (h : PXIs N m x) (hn : (x.S.map (·.num)).Nodup) : Spec Tryz.prog 22 [ptrP m.p] (pxH m x) (fun r H' => r = .int .u64 (dueV x.S : Int) ∧ H' = pxH m x) := by
 have hp : (pxH m x).Perm (([pxE m x, pxM m] ++ ssH x.S) ++ ([pxV m x, pxQ m] ++ (balH m.bm ++ poolsH m.pm x.P))) := by
  refine List.Perm.cons _ (List.Perm.cons _ ?_)
  show ([pxV m x, pxQ m] ++ (ssH x.S ++ (balH m.bm ++ poolsH m.pm x.P))).Perm (ssH x.S ++ ([pxV m x, pxQ m] ++ (balH m.bm ++ poolsH m.pm x.P)))
  exact List.perm_append_comm_assoc _ _ _
 refine Spec.re ((((xdue_ok h hn).fr _).perm hp).mono ?_)
 rintro r H' ⟨H1, ⟨hr, rfl⟩, rfl⟩
 exact ⟨pxH m x, hp.symm, hr, rfl⟩
theorem sum_set {f : PS → Nat} : ∀ {P : List PS} {i : Nat} {si : PS} (s' : PS), P[i]? = some si → ((P.set i s').map f).sum + f si = (P.map f).sum + f s'
 | [], _, _, _, h => by simp at h
 | a :: r, 0, si, s', h => by
  simp at h; subst h
  simp only [List.set_cons_zero, List.map_cons, List.sum_cons]; omega
 | a :: r, i + 1, si, s', h => by
  have ih := sum_set (f := f) (P := r) (i := i) (si := si) s' (by simpa using h)
  simp only [List.set_cons_succ, List.map_cons, List.sum_cons]; omega
abbrev lat (S : List Ss) : Nat := S.countP (fun s => decide (s.st = 1))
def wP (P : List PS) : Nat := (P.map wt).sum
theorem lat_mid (A B : List Ss) (s : Ss) : lat (A ++ s :: B) = lat (A ++ B) + (if s.st = 1 then 1 else 0) := by
 unfold lat
 rw [List.countP_append, List.countP_append, List.countP_cons]
 by_cases h : s.st = 1
 ·rw [if_pos (decide_eq_true h), if_pos h]; omega
 ·rw [if_neg (by simpa using h), if_neg h]; omega
def wX (x : PX) : Nat := wP x.P + lat x.S
theorem dialed_lost_w {s : PS} (h : PH s) (c : Int) (now : Nat) : wt (s.dialed c false now) ≤ wt s := by
 by_cases he : s.inE c 1 now = 0
 ·obtain ⟨k, x, rfl, _, hx, hst, _⟩ := inE_zero he
  rw [dialed_lost he]
  have r := (lose_R (h.at_ now) hx (by rw [hst]; decide)).w
  have h9 : wt (s.at_ now) = wt s := rfl
  omega
 ·rw [dialed_no he]; exact Nat.le_refl _
theorem dialed_w {s : PS} (h : PH s) (c : Int) (made : Bool) (now : Nat) : wt (s.dialed c made now) ≤ wt s + 1 := by
 by_cases he : s.inE c 1 now = 0
 ·obtain ⟨k, _, _, _, r⟩ := dialed_R h he made; exact r.w
 ·rw [dialed_no he]; exact Nat.le_succ _
theorem put_w {s : PS} (h : PH s) (c : Int) (good : Bool) (now : Nat) : wt (s.put c good now) ≤ wt s + 1 := by
 by_cases he : s.inE c 2 now = 0
 ·obtain ⟨k, _, _, _, r⟩ := put_R h he good; exact r.w
 ·rw [put_no he]; exact Nat.le_succ _
theorem adv_w {s : PS} (h : PH s) (now : Nat) : wt (s.advance now) ≤ wt s := by
 by_cases hm : s.may true now = 0
 ·rw [adv_ok hm]
  have r1 : AdR (s.at_ now) (s.adv1 now) := tmos_R (s.late now) (h.at_ now)
  have r2 := shuts_R ((s.adv1 now).old now) r1.ph (old_nodup _ _) fun a ha => (old_mem ha).1
  have := (r1.trans r2).w
  have h9 : wt (s.at_ now) = wt s := rfl
  omega
 ·rw [adv_no hm]; exact Nat.le_refl _
theorem get_w {s : PS} (h : PH s) (who : Int) (now dl : Nat) : wt (s.getS who now dl) ≤ wt s + 1 := by
 by_cases he : getE_ s who now dl = 0
 ·exact (get_ev h he).2.1
 ·rw [(get_err he).1]; exact Nat.le_succ _
theorem adv_E {s : PS} (h : PH s) (now : Nat) : (s.advance now).E.length ≤ s.E.length + wt s := by
 by_cases hm : s.may true now = 0
 ·rw [adv_ok hm]
  have a1 := shuts_E ((s.adv1 now).old now) (s.adv1 now)
  have a2 := (tmo_rest (s.late now) (s.at_ now)).2.2.2.1
  have a3 := (late_perm s now).length_eq
  have a4 := List.length_filter_le (fun x : Qp => decide (x.dl ≤ now)) s.Q
  have a5 := old_len (s.adv1 now) now
  have a6 : (s.adv1 now).C = s.C := (tmo_rest (s.late now) (s.at_ now)).1
  have a7 : (s.adv1 now).E.length = s.E.length + (s.late now).length := a2
  have a8 : (allI 3 (s.adv1 now).C).length = cn 3 s.C := by rw [a6]; exact allF_cn 3 s.C 0
  unfold wt
  omega
 ·rw [adv_no hm]; exact Nat.le_add_right _ _
theorem lose_E (s : PS) (c : Nat) : (s.lose c).E.length ≤ s.E.length + 1 := next_E (s.set c ⟨0, 0, 0⟩)
theorem dialed_E (s : PS) (c : Int) (made : Bool) (now : Nat) : (s.dialed c made now).E.length ≤ s.E.length + 1 := by
 unfold PS.dialed
 split
 ·omega
 ·split
  ·exact Nat.le_succ _
  ·exact lose_E (s.at_ now) _
theorem put_E (s : PS) (c : Int) (good : Bool) (now : Nat) : (s.put c good now).E.length ≤ s.E.length + 2 := by
 by_cases h : s.inE c 2 now = 0
 ·obtain ⟨k, x, rfl, _⟩ := inE_zero h
  have h5 : (((s.at_ now).tell 5 (-1) (k : Int)).lose k).E.length ≤ s.E.length + 2 := by
   have := lose_E ((s.at_ now).tell 5 (-1) (k : Int)) k
   have h6 : ((s.at_ now).tell 5 (-1) (k : Int)).E.length = s.E.length + 1 := by show (s.E ++ [_]).length = _; rw [List.length_append]; rfl
   omega
  cases good with
  | false => rw [put_bad h]; exact h5
  | true =>
   cases hQ : s.Q with
   | cons a r => rw [put_use h hQ]; show (s.E ++ [_]).length ≤ _; rw [List.length_append, List.length_singleton]; omega
   | nil =>
    by_cases hl : (allI 3 s.C).length < s.most
    ·rw [put_idle h hQ hl]; show s.E.length ≤ _; omega
    ·rw [put_over h hQ hl]; exact h5
 ·rw [put_no h]; omega
theorem evS_le {x : PX} (h : PXG x) {b : Nat} (hB : PXB b x) (now : Nat) : evS now x.P ≤ wP x.P := by
 have key : ∀ (L : List PS), (∀ s ∈ L, PH s ∧ s.E = []) → evS now L ≤ wP L := by
  intro L
  induction L with
  | nil => intro _; exact Nat.le_refl _
  | cons s r ih =>
   intro hL
   obtain ⟨h1, h2⟩ := hL s (List.mem_cons_self ..)
   have a := adv_E h1 now
   rw [h2, List.length_nil] at a
   have b := ih fun q hq => hL q (List.mem_cons_of_mem _ hq)
   unfold evS wP at b ⊢
   rw [List.map_cons, List.sum_cons, List.map_cons, List.sum_cons]
   unfold evA at b ⊢
   omega
 refine key x.P fun s hs => ?_
 obtain ⟨j, hj⟩ := List.mem_iff_getElem?.1 hs
 exact ⟨(h.po j s hj).ph, (hB s hs).1⟩
theorem drainL_lat (i : Nat) : ∀ (n : Nat) (x : PX), PXG x → lat (PX.drainL i n x).S ≤ lat x.S
 | 0, _, _ => Nat.le_refl _
 | n + 1, x, h => by
  unfold PX.drainL
  split
  ·exact Nat.le_refl _
  ·rename_i si hi
   split
   ·exact Nat.le_refl _
   ·rename_i e r hE
    obtain ⟨hk, g2⟩ := drE_ok h hi hE
    refine Nat.le_trans (drainL_lat i n _ g2) ?_
    rcases hk with hk | ⟨hk, A, s9, B, hS, hw, hst9, _⟩
    ·rw [drE_5 hk]; exact Nat.le_refl _
    ·have h0 : lat x.S = lat (A ++ B) := by rw [hS, lat_mid, if_neg (by rw [hst9]; decide)]; rfl
     rcases hk with hk | hk | hk
     ·rw [drE_1 (x := x.nxP i si) h.nd hS hw.symm hk, h0]
      show lat (A ++ _ :: B) ≤ _
      rw [lat_mid, if_neg (by show ¬ (4 : Int) = 1; decide)]; exact Nat.le_refl _
     ·rw [drE_2 (x := x.nxP i si) h.nd hS hw.symm hk, h0]
      show lat (A ++ _ :: B) ≤ _
      rw [lat_mid, if_neg (by show ¬ (3 : Int) = 1; decide)]; exact Nat.le_refl _
     ·rw [drE_4 (x := x.nxP i si) h.nd hS hw.symm hk, h0]; exact Nat.le_refl _
theorem drain_lat {x : PX} (h : PXG x) (i : Nat) : lat (x.drain i).S ≤ lat x.S := by obtain ⟨n, e⟩ := drain_eqL x i; rw [e]; exact drainL_lat i n x h
theorem drain_wP {x : PX} {i : Nat} {si : PS} (hi : x.P[i]? = some si) : wP (x.drain i).P = wP x.P := by
 rw [drain_dry hi]
 have := sum_set (f := wt) { si with E := [] } hi
 have h9 : wt { si with E := [] } = wt si := rfl
 unfold wP
 omega
theorem drain_B {x : PX} {b : Nat} {i : Nat} {si : PS} (hi : x.P[i]? = some si) (hB : ∀ (j : Nat) (sj : PS), x.P[j]? = some sj → (j ≠ i → sj.E = []) ∧ sj.n ≤ b) : PXB b (x.drain i) := fun s hs => by
 rw [drain_dry hi] at hs
 obtain ⟨j, hj⟩ := List.mem_iff_getElem?.1 hs
 by_cases e : i = j
 ·subst e
  rw [List.getElem?_set_self (List.getElem?_eq_some_iff.1 hi).1] at hj
  rw [← Option.some.inj hj]
  exact ⟨rfl, (hB i si hi).2⟩
 ·rw [List.getElem?_set_ne e] at hj
  exact ⟨(hB j s hj).1 (fun q => e q.symm), (hB j s hj).2⟩
theorem lat_fldF {x : PX} (hn : (x.S.map (·.num)).Nodup) {A B : List Ss} {s : Ss} (hS : x.S = A ++ s :: B) : lat (x.fldF s).S ≤ lat (A ++ B) + 1 := by
 rw [fldF_eq hS hn]
 split
 ·show lat (A ++ _ :: B) ≤ _
  rw [lat_mid, if_pos (show (x.later s).st = 1 from rfl)]; exact Nat.le_refl _
 ·exact Nat.le_succ _
theorem attF_w {x : PX} (h : PXG x) {A B : List Ss} {s : Ss} (hS : x.S = A ++ s :: B) : wX (x.attF s) ≤ wP x.P + lat (A ++ B) + 1 := by
 unfold PX.attF
 by_cases hc : x.b.cand x.now = []
 ·rw [if_pos hc]
  have := lat_fldF h.nd hS
  unfold wX
  rw [(fldF_rest (x := x) s).1]; omega
 ·rw [if_neg hc]
  cases hsi : x.P[x.pk s]? with
  | none =>
   unfold wX; rw [hS, lat_mid]; dsimp only
   split <;> omega
  | some si =>
   dsimp only
   obtain ⟨p1, _⟩ := attX_fields x s si
   have h1 := sum_set (f := wt) (si.getS s.num x.now s.dl) hsi
   have h2 := get_w (h.po _ si hsi).ph s.num x.now s.dl
   have h9 : ¬ (x.attS s si).st = 1 := by
    by_cases k1 : (x.pv s si).k = 1
    ·rw [(attX_1 k1).2]; show ¬ (4 : Int) = 1; decide
    ·by_cases k2 : (x.pv s si).k = 2
     ·rw [(attX_2 k1 k2).2]; show ¬ (3 : Int) = 1; decide
     ·rw [(attX_3 k1 k2).2]; show ¬ (2 : Int) = 1; decide
   have h3 : lat (updS x.S s.num fun _ => x.attS s si) = lat (A ++ B) := by
    rw [updS_at hS h.nd, lat_mid, if_neg h9]; rfl
   show wP (x.attX s si).P + lat (updS x.S s.num fun _ => x.attS s si) ≤ _
   rw [h3, p1]
   unfold wP
   omega
theorem dueF_w {x : PX} (h : PXG x) (now : Nat) {A B : List Ss} {s : Ss} (hS : x.S = A ++ s :: B) (hst : s.st = 1) : wX (x.dueF now s) ≤ wX x := by
 have h0 : wX x = wP x.P + lat (A ++ B) + 1 := by unfold wX; rw [hS, lat_mid, if_pos hst]; omega
 unfold PX.dueF
 split
 ·rw [filt_num hS h.nd, h0]
  show wP x.P + lat (A ++ B) ≤ _; omega
 ·rw [h0]; exact attF_w h hS
structure PXO (w b e : Nat) (x : PX) : Prop where
 g : PXG x
 w : wX x ≤ w
 b : PXB b x
 e : x.E.length ≤ e
 tr : x.pl.tries ≤ 100
theorem PXO.le {w b e w2 b2 e2 : Nat} {x : PX} (h : PXO w b e x) (h1 : w ≤ w2) (h2 : b ≤ b2) (h3 : e ≤ e2) : PXO w2 b2 e2 x := ⟨h.g, Nat.le_trans h.w h1, fun s hs => ⟨(h.b s hs).1, Nat.le_trans (h.b s hs).2 h2⟩, Nat.le_trans h.e h3, h.tr⟩
theorem PXO.nx {w b e : Nat} {x : PX} (h : PXO w b e x) : PXO w b e x.nx := ⟨⟨h.g.bl, h.g.nd, h.g.ks, h.g.bk, h.g.po⟩, h.w, h.b, by show (x.E.drop 1).length ≤ e; rw [List.length_drop]; have := h.e; omega, h.tr⟩
theorem PXG.beg0 {x : PX} (h : PXG x) {n : Int} {now dl : Nat} {key : ByteArray} (p : Nat) (hk : key.size ≤ 64) (hn : x.now ≤ now) (hno : n ∉ x.S.map (·.num)) : PXG (x.beg0 n now dl key p) := by
 refine ⟨Nat.le_trans h.bl hn, ?_, fun s hs => ?_, fun s hs he => ?_, fun i si hi => ?_⟩
 ·show ((x.S ++ [newS n dl key p]).map (·.num)).Nodup
  rw [List.map_append, List.nodup_append]
  exact ⟨h.nd, by simp, fun a ha b hb => by simp at hb; rw [hb]; rintro rfl; exact hno ha⟩
 ·rcases List.mem_append.1 hs with hs | hs
  ·exact h.ks s hs
  ·rw [List.mem_singleton.1 hs]; exact ⟨hk, Nat.zero_le _⟩
 ·rcases List.mem_append.1 hs with hs | hs
  ·exact h.bk s hs he
  ·rw [List.mem_singleton.1 hs] at he
   have he : (0 : Int) = 2 ∨ (0 : Int) = 3 ∨ (0 : Int) = 4 := he
   omega
 ·have hp := (h.po i si hi).later hn
  exact ⟨hp.ph, hp.nw, hp.nd, hp.ks, fun w hw => by
   obtain ⟨y, hy, r⟩ := hp.wt w hw
   exact ⟨y, List.mem_append_left _ hy, r⟩, fun c y hy hs => by
   rcases hp.dl c y hy hs with ⟨z, hz, r⟩ | q
   ·exact .inl ⟨z, List.mem_append_left _ hz, r⟩
   ·exact .inr q⟩
theorem PXO.begin {w b e : Nat} {x : PX} (h : PXO w b e x) {n : Int} {now dl : Nat} {key : ByteArray} (p : Nat) (he : x.begE n now dl key = 0) : PXO (w + 1) (b + 1) (e + 1) (x.begin n now dl key p) := by
 obtain ⟨hr, hk, hn1, hn2, hd, hno, hm⟩ := begE_zero he
 have g0 := h.g.beg0 (dl := dl) p hk hn1 hno
 have hS : (x.beg0 n now dl key p).S = x.S ++ newS n dl key p :: [] := rfl
 have hB : PXB b (x.beg0 n now dl key p) := h.b
 obtain ⟨r1, r2, r3, r4, r5⟩ := attF_rest g0 (newS n dl key p) hB
 have hw := attF_w g0 hS
 refine ⟨g0.attF hS (by show (0 : Int) ≠ 2; decide) (by show (0 : Int) ≠ 3; decide) h.tr, ?_, r4, ?_, by rw [show (x.begin n now dl key p).pl = _ from r2]; exact h.tr⟩
 ·have := h.w
  unfold wX at this
  rw [List.append_nil] at hw
  have hw : wX (x.begin n now dl key p) ≤ wP x.P + lat x.S + 1 := hw
  omega
 ·have := h.e
  have r3 : (x.begin n now dl key p).E.length ≤ x.E.length + 1 := r3
  omega
theorem NoDial.dialed {x : PX} (h : PXG x) {s : Ss} (hs : s ∈ x.S) (hst : s.st = 3) {i : Nat} {si : PS} (hbe : s.be = (i : Int)) (hi : x.P[i]? = some si) {now : Nat} (hn : x.now ≤ now) (hnw : now ≠ 18446744073709551615) : NoDial s.num (x.dial1 s false now i si) := by
 have hil := (List.getElem?_eq_some_iff.1 hi).1
 -- who dials for s, does so by its own connection
 have own : ∀ (j : Nat) (sj : PS), x.P[j]? = some sj → ∀ (c : Nat) (y : Cn), sj.C[c]? = some y → y.st = 1 → y.who = s.num → j = i ∧ s.cn = (c : Int) := fun j sj hj c y hy h1 hw => by
  rcases (h.po j sj hj).dl c y hy h1 with ⟨z, hz, e1, e2, e3, e4⟩ | e
  ·have : z = s := uniq_num h.nd hz hs (e1.trans hw)
   subst this
   rw [hbe] at e3
   exact ⟨by omega, e4⟩
  ·exact absurd (by rw [← hw]; exact ev_pend e) (h.noPend hs (by rw [hst]; decide) hj)
 refine fun j sj hj y hy h1 hw => ?_
 obtain ⟨c, hc⟩ := List.mem_iff_getElem?.1 hy
 have hj : (x.P.set i (si.dialed s.cn false now))[j]? = some sj := hj
 by_cases e : i = j
 ·subst e
  rw [List.getElem?_set_self hil] at hj
  rw [← Option.some.inj hj] at hc
  have hp := h.po i si hi
  rcases (opd_dialed si s.cn false now).dl c y hc h1 with q | q
  ·obtain ⟨_, hcn⟩ := own i si hi c y q h1 hw
   have hcl := (List.getElem?_eq_some_iff.1 q).1
   rw [hp.ph.len] at hcl
   have hin : si.inE s.cn 1 now = 0 := by
    have hpn := hp.nw
    refine inE_ok (may_fine (decide_eq_true (by omega)) (by omega)) ?_
    rw [hcn, Int.toNat_natCast, q]
    rintro (e9 | e9)
    ·omega
    ·exact e9 (by rw [Option.map_some, h1])
   rw [hcn] at hin hc
   rw [dialed_lost hin] at hc
   have hset : ((si.at_ now).set c ⟨0, 0, 0⟩).C[c]? = some ⟨0, 0, 0⟩ := List.getElem?_set_self (by show c < si.C.length; rw [hp.ph.len]; exact hcl)
   rcases (opd_next ((si.at_ now).set c ⟨0, 0, 0⟩)).dl c y hc h1 with q2 | q2
   ·rw [hset] at q2
    rw [← Option.some.inj q2] at h1
    exact absurd h1 (by decide)
   · -- it was told of: who waits
    have q3 := ev_pend q2
    have q4 := ((opd_next ((si.at_ now).set c ⟨0, 0, 0⟩)).pend).mem_iff.1 q3
    rw [hw] at q4
    exact h.noPend hs (by rw [hst]; decide) hi q4
  ·have q3 := (opd_dialed si s.cn false now).pend.mem_iff.1 (ev_pend q)
   rw [hw] at q3
   exact h.noPend hs (by rw [hst]; decide) hi q3
 ·rw [List.getElem?_set_ne e] at hj
  obtain ⟨q, _⟩ := own j sj hj c y hc h1 hw
  exact e q.symm
theorem dial1_B {x : PX} {b : Nat} (hB : PXB b x) (h : PXG x) {s : Ss} {good : Bool} {now i : Nat} {si : PS} (hi : x.P[i]? = some si) : ∀ (j : Nat) (sj : PS), (x.dial1 s good now i si).P[j]? = some sj → (j ≠ i → sj.E = []) ∧ sj.n ≤ b + 1 := fun j sj hj => by
 have hj : (x.P.set i (si.dialed s.cn good now))[j]? = some sj := hj
 by_cases e : i = j
 ·subst e
  rw [List.getElem?_set_self (List.getElem?_eq_some_iff.1 hi).1] at hj
  refine ⟨fun q => absurd rfl q, ?_⟩
  rw [← Option.some.inj hj]
  have h1 := (hB si (List.mem_of_getElem? hi)).2
  by_cases he : si.inE s.cn 1 now = 0
  ·obtain ⟨k, _, _, _, r⟩ := dialed_R (h.po i si hi).ph he good
   have := r.n; omega
  ·rw [dialed_no he]; omega
 ·rw [List.getElem?_set_ne e] at hj
  have := hB sj (List.mem_of_getElem? hj)
  exact ⟨fun _ => this.1, by omega⟩
theorem PXO.dialed {w b e : Nat} {x : PX} (h : PXO w b e x) {A B : List Ss} {s : Ss} (hS : x.S = A ++ s :: B) (hst : s.st = 3) (good : Bool) {now : Nat} (hn : x.now ≤ now) (hnw : now ≠ 18446744073709551615) : PXO (w + 1) (b + 1) (e + 3) (x.dialN s good now) := by
 have hs : s ∈ x.S := by rw [hS]; exact List.mem_append_right _ (List.mem_cons_self ..)
 obtain ⟨i, hbe, hil⟩ := h.g.bk s hs (.inr (.inl hst))
 obtain ⟨si, hi⟩ := getE (T := x.P) (i := i) hil
 have hph := (h.g.po i si hi).ph
 have hsE := (h.b si (List.mem_of_getElem? hi)).1
 have g1 := h.g.dial1 s good hi hn
 have hB1 := dial1_B (s := s) (good := good) (now := now) h.b h.g hi
 have hi1 : (x.dial1 s good now i si).P[i]? = some (si.dialed s.cn good now) := List.getElem?_set_self hil
 have hdE := dialed_E si s.cn good now
 rw [hsE, List.length_nil] at hdE
 have hw1 := sum_set (f := wt) (si.dialed s.cn good now) hi
 have hl0 : lat x.S = lat (A ++ B) := by rw [hS, lat_mid, if_neg (by rw [hst]; decide)]; rfl
 have hw0 := h.w
 unfold wX wP at hw0
 have he0 := h.e
 rw [dialN_eq hbe hi]
 cases good with
 | true =>
  rw [if_pos rfl, updS_at hS h.g.nd]
  have hC0 : si.dialed s.cn true now = { si.dialed s.cn true now with E := [] } := by
   have : (si.dialed s.cn true now).E = [] := by
    unfold PS.dialed
    split
    ·exact hsE
    ·rw [if_pos rfl]; exact hsE
   rw [← this]
  refine ⟨?_, ?_, ?_, ?_, h.tr⟩
  ·refine g1.swap (s' := { s with st := 4 }) hS rfl rfl (h.g.ks s hs) (fun _ => ⟨i, hbe, by rw [show (x.dial1 s true now i si).P.length = _ from List.length_set ..]; exact hil⟩) g1.bl rfl fun j sj hj => ?_
   have hj : (x.dial1 s true now i si).P[j]? = some sj := hj
   refine (g1.po j sj hj).chg (n := s.num) (by show OnlyAt s.num x.S _; rw [hS]; exact onlyAt_swap _) (g1.noPend (x := x.dial1 s true now i si) hs (by rw [hst]; decide) hj) fun c y hy h1 hw => ?_
   exfalso
   rcases (g1.po j sj hj).dl c y hy h1 with ⟨z, hz, e1, e2, e3, e4⟩ | q
   ·have : z = s := uniq_num h.g.nd hz hs (e1.trans hw)
    subst this
    rw [hbe] at e3
    obtain rfl : i = j := by omega
    rw [hi1] at hj
    have hj := Option.some.inj hj
    rw [← hj] at hy
    rcases (opd_dialed si z.cn true now).dl c y hy h1 with q | q
    ·have hp := h.g.po i si hi
     have hcl := (List.getElem?_eq_some_iff.1 q).1
     rw [hp.ph.len] at hcl
     have hpn := hp.nw
     have hin : si.inE z.cn 1 now = 0 := by
      refine inE_ok (may_fine (decide_eq_true (by omega)) (by omega)) ?_
      rw [e4, Int.toNat_natCast, q]
      rintro (e9 | e9)
      ·omega
      ·exact e9 (by rw [Option.map_some, h1])
     rw [e4] at hin hy
     rw [dialed_made hin] at hy
     have hset : ((si.at_ now).set c ⟨2, 0, 0⟩).C[c]? = some ⟨2, 0, 0⟩ := List.getElem?_set_self (by show c < si.C.length; rw [hp.ph.len]; exact hcl)
     rw [hset] at hy
     rw [← Option.some.inj hy] at h1
     exact absurd h1 (by decide)
    ·rw [hC0] at q; cases q
   ·exact absurd (by rw [← hw]; exact ev_pend q) (g1.noPend (x := x.dial1 s true now i si) hs (by rw [hst]; decide) hj)
  ·have h2 := dialed_w hph s.cn true now
   show ((x.P.set i (si.dialed s.cn true now)).map wt).sum + lat (A ++ _ :: B) ≤ _
   rw [lat_mid, if_neg (by show ¬ (4 : Int) = 1; decide)]
   omega
  ·intro sj hj
   obtain ⟨j, hj⟩ := List.mem_iff_getElem?.1 hj
   have hj : (x.dial1 s true now i si).P[j]? = some sj := hj
   have := hB1 j sj hj
   refine ⟨?_, this.2⟩
   by_cases e9 : j = i
   ·subst e9
    rw [hi1] at hj
    rw [← Option.some.inj hj, hC0]
   ·exact this.1 e9
  ·show (x.E ++ [_]).length ≤ _
   rw [List.length_append, List.length_singleton]; omega
 | false =>
  rw [if_neg (by decide)]
  have gd := g1.drain i
  have hs3 : s ∈ ((x.dial1 s false now i si).drain i).S := drain_keep g1 i hs (by rw [hst]; decide)
  obtain ⟨A3, B3, hS3⟩ := List.append_of_mem hs3
  have g3 : PXG { (x.dial1 s false now i si).drain i with b := ((x.dial1 s false now i si).drain i).b.doneX now s.cal false } := by
   refine ⟨?_, gd.nd, gd.ks, gd.bk, gd.po⟩
   have := gd.bl
   rw [drain_now] at this
   show (BS.doneX _ _ _ _).last ≤ ((x.dial1 s false now i si).drain i).now
   rw [drain_now]
   exact doneX_last _ _ _ _ this
  have hnd3 := (NoDial.dialed h.g hs hst hbe hi hn hnw).drain i
  have hpl3 : ((x.dial1 s false now i si).drain i).pl = x.pl := drain_pl _ i
  obtain ⟨r1, r2, r3, r4, r5⟩ := fldF_rest (x := { (x.dial1 s false now i si).drain i with b := ((x.dial1 s false now i si).drain i).b.doneX now s.cal false }) s
  refine ⟨g3.fldF hS3 (by rw [hst]; decide) hnd3 (by show ((x.dial1 s false now i si).drain i).pl.tries ≤ 100; rw [hpl3]; exact h.tr), ?_, ?_, ?_, by rw [r3]; show ((x.dial1 s false now i si).drain i).pl.tries ≤ 100; rw [hpl3]; exact h.tr⟩
  ·have h2 := dialed_lost_w hph s.cn now
   have h3 : lat _ ≤ lat (A3 ++ B3) + 1 := lat_fldF g3.nd hS3
   have h4 := drain_lat g1 i
   rw [hS3, lat_mid, if_neg (by rw [hst]; decide)] at h4
   have h4 : lat (A3 ++ B3) + 0 ≤ lat x.S := h4
   have h5 := drain_wP hi1
   have h5 : wP ((x.dial1 s false now i si).drain i).P = ((x.P.set i (si.dialed s.cn false now)).map wt).sum := h5
   unfold wX
   rw [r1]
   show wP ((x.dial1 s false now i si).drain i).P + _ ≤ _
   omega
  ·intro sj hj
   rw [r1] at hj
   exact drain_B hi1 hB1 sj hj
  ·have h6 : ((x.dial1 s false now i si).drain i).E.length ≤ x.E.length + (si.dialed s.cn false now).E.length := drain_E hi1
   have r4 : _ ≤ ((x.dial1 s false now i si).drain i).E.length + 1 := r4
   omega
theorem PXO.end_ {w b e : Nat} {x : PX} (h : PXO w b e x) {A B : List Ss} {s : Ss} (hS : x.S = A ++ s :: B) (hst : s.st = 4) (good : Bool) {now : Nat} (hn : x.now ≤ now) : PXO (w + 1) (b + 1) (e + 3) (x.endN s good now) := by
 have hs : s ∈ x.S := by rw [hS]; exact List.mem_append_right _ (List.mem_cons_self ..)
 obtain ⟨i, hbe, hil⟩ := h.g.bk s hs (.inr (.inr hst))
 obtain ⟨si, hi⟩ := getE (T := x.P) (i := i) hil
 have hph := (h.g.po i si hi).ph
 have hsE := (h.b si (List.mem_of_getElem? hi)).1
 have hsn := (h.b si (List.mem_of_getElem? hi)).2
 have g1 := h.g.end1 hS hst good hi hn
 have hX : x.endN s good now = PX.drain { x with now := now, P := x.P.set i (si.put s.cn good now), b := x.b.doneX now s.cal good, S := A ++ B } i := by
  rw [endN_eq hbe hi]; unfold PX.end1; rw [filt_num hS h.g.nd]
 have hi1 : (x.P.set i (si.put s.cn good now))[i]? = some (si.put s.cn good now) := List.getElem?_set_self hil
 have hpE := put_E si s.cn good now
 rw [hsE, List.length_nil] at hpE
 have hw1 := sum_set (f := wt) (si.put s.cn good now) hi
 have hl0 : lat x.S = lat (A ++ B) := by rw [hS, lat_mid, if_neg (by rw [hst]; decide)]; rfl
 have hw0 := h.w
 unfold wX wP at hw0
 have he0 := h.e
 rw [hX]
 refine ⟨g1.drain i, ?_, drain_B hi1 fun j sj hj => ?_, ?_, by rw [drain_pl]; exact h.tr⟩
 ·have h2 := put_w hph s.cn good now
  have h4 := drain_lat g1 i
  have h4 : lat _ ≤ lat (A ++ B) := h4
  unfold wX
  rw [drain_wP hi1]
  show ((x.P.set i (si.put s.cn good now)).map wt).sum + _ ≤ _
  omega
 ·have hj : (x.P.set i (si.put s.cn good now))[j]? = some sj := hj
  by_cases e9 : i = j
  ·subst e9
   rw [hi1] at hj
   refine ⟨fun q => absurd rfl q, ?_⟩
   rw [← Option.some.inj hj]
   by_cases he : si.inE s.cn 2 now = 0
   ·obtain ⟨k, _, _, _, r⟩ := put_R hph he good
    have := r.n; omega
   ·rw [put_no he]; omega
  ·rw [List.getElem?_set_ne e9] at hj
   have := h.b sj (List.mem_of_getElem? hj)
   exact ⟨fun _ => this.1, by omega⟩
 ·have h6 := drain_E (x := { x with now := now, P := x.P.set i (si.put s.cn good now), b := x.b.doneX now s.cal good, S := A ++ B }) hi1
  have h6 : _ ≤ x.E.length + (si.put s.cn good now).E.length := h6
  omega
theorem advP_w {x : PX} (h : PXG x) (i : Nat) : wX (x.advP x.now i) ≤ wX x := by
 unfold PX.advP
 cases hi : x.P[i]? with
 | none => exact Nat.le_refl _
 | some si =>
  have hp := h.po i si hi
  obtain ⟨a, b⟩ := ph_adv hp.ph hp.nw
  have g1 := h.pool hi (hp.op (opd_adv (pend_who hp) x.now) a b)
  have h1 := sum_set (f := wt) (si.advance x.now) hi
  have h2 := adv_w hp.ph x.now
  have h3 := drain_lat g1 i
  have h4 := drain_wP (x := { x with P := x.P.set i (si.advance x.now) }) (List.getElem?_set_self (List.getElem?_eq_some_iff.1 hi).1)
  have h4 : wP (PX.drain { x with P := x.P.set i (si.advance x.now) } i).P = ((x.P.set i (si.advance x.now)).map wt).sum := h4
  have h3 : lat (PX.drain { x with P := x.P.set i (si.advance x.now) } i).S ≤ lat x.S := h3
  show wP (PX.drain _ i).P + lat (PX.drain _ i).S ≤ wP x.P + lat x.S
  rw [h4]
  unfold wP
  omega
theorem advP_E {x : PX} (i : Nat) : (x.advP x.now i).E.length ≤ x.E.length + (match x.P[i]? with | none => 0 | some si => (si.advance x.now).E.length) := by
 unfold PX.advP
 cases hi : x.P[i]? with
 | none => exact Nat.le_refl _
 | some si => exact drain_E (x := { x with P := x.P.set i (si.advance x.now) }) (List.getElem?_set_self (List.getElem?_eq_some_iff.1 hi).1)
theorem advK_w {x : PX} (h : PXG x) {now : Nat} (hn : x.now ≤ now) : ∀ k, k ≤ x.P.length → wX (x.advK now k) ≤ wX x ∧ (x.advK now k).E.length + evS now (x.P.drop k) ≤ x.E.length + evS now x.P
 | 0, _ => ⟨Nat.le_refl _, Nat.le_refl _⟩
 | k + 1, hk => by
  obtain ⟨a, b⟩ := advK_w h hn k (by omega)
  have g := h.advK hn k
  obtain ⟨f1, f2, f3, f4⟩ := advK_facts x now k
  obtain ⟨si, hsi⟩ := getE (T := x.P) (i := k) (by omega)
  have h1 := advP_w g k
  have h2 := advP_E (x := x.advK now k) k
  rw [f4 k (Nat.le_refl _), hsi] at h2
  dsimp only at h2
  rw [f1] at h1 h2
  have h3 := evS_drop (now := now) hsi
  rw [advK_next]
  omega
theorem PXO.adv {w b e : Nat} {x : PX} (h : PXO w b e x) {now : Nat} (hn : x.now ≤ now) (hnm : ∀ s ∈ x.S, 0 ≤ s.num ∧ s.num ≤ 100) (hnk : ((x.advK now x.P.length).S.map (·.num)).length ≤ 101) : PXO w (b + 102) (e + w + 101) (x.adv now) := by
 have g0 := h.g.advK hn x.P.length
 obtain ⟨w0, e0⟩ := advK_w h.g hn x.P.length (Nat.le_refl _)
 rw [List.drop_length] at e0
 have e0 : (x.advK now x.P.length).E.length + 0 ≤ x.E.length + evS now x.P := e0
 have hev := evS_le h.g h.b now
 have hB0 := advK_B h.g h.b now x.P.length
 obtain ⟨f1, f2, f3, f4⟩ := advK_facts x now x.P.length
 have hdl : (x.advK now x.P.length).due.length ≤ 101 := by
  have a1 := (due_perm (x.advK now x.P.length)).length_eq
  have a2 := List.length_filter_le (fun s : Ss => decide (s.st = 1 ∧ s.til ≤ (x.advK now x.P.length).now)) (x.advK now x.P.length).S
  rw [List.length_map] at hnk
  omega
 have key : ∀ (L : List Ss) (y : PX) (k : Nat), PXG y → y.pl.tries ≤ 100 → PXB (b + 1 + k) y → (L.map (·.num)).Nodup → (∀ s ∈ L, s ∈ y.S ∧ s.st = 1) → PXG (L.foldl (PX.dueF now) y) ∧ wX (L.foldl (PX.dueF now) y) ≤ wX y ∧ PXB (b + 1 + k + L.length) (L.foldl (PX.dueF now) y) ∧ (L.foldl (PX.dueF now) y).E.length ≤ y.E.length + L.length ∧ (L.foldl (PX.dueF now) y).pl.tries ≤ 100 := by
  intro L
  induction L with
  | nil => intro y k g t bb _ _; exact ⟨g, Nat.le_refl _, bb, Nat.le_refl _, t⟩
  | cons s r ih =>
   intro y k g t bb hnd hL
   obtain ⟨hs, hst⟩ := hL s (List.mem_cons_self ..)
   obtain ⟨A, B, hS⟩ := List.append_of_mem hs
   rw [List.map_cons, List.nodup_cons] at hnd
   obtain ⟨r1, r2, r3, r4, r5⟩ := dueF_rest g now s bb
   obtain ⟨q1, q2, q3, q4, q5⟩ := ih (y.dueF now s) (k + 1) (g.dueF now hS hst t) (by rw [r2]; exact t) r4 hnd.2 fun z hz => ⟨dueF_only y now s z (hL z (List.mem_cons_of_mem _ hz)).1 (fun e9 => hnd.1 (by rw [← e9]; exact List.mem_map_of_mem hz)), (hL z (List.mem_cons_of_mem _ hz)).2⟩
   have hw := dueF_w g now hS hst
   rw [List.foldl_cons, List.length_cons]
   exact ⟨q1, Nat.le_trans q2 hw, by rw [show b + 1 + k + (r.length + 1) = b + 1 + (k + 1) + r.length from by omega]; exact q3, by omega, q5⟩
 obtain ⟨q1, q2, q3, q4, q5⟩ := key (x.advK now x.P.length).due (x.advK now x.P.length) 0 g0 (by rw [f2]; exact h.tr) hB0 (due_nodup g0.nd) fun s hs => ⟨(due_mem hs).1, (due_mem hs).2.1⟩
 have hw := h.w
 have he := h.e
 have hwP : wP x.P ≤ wX x := Nat.le_add_right _ _
 exact ⟨q1, Nat.le_trans q2 (Nat.le_trans w0 hw), fun s hs => ⟨(q3 s hs).1, by have := (q3 s hs).2; omega⟩, by show ((x.advK now x.P.length).due.foldl (PX.dueF now) (x.advK now x.P.length)).E.length ≤ _; omega, q5⟩
def PX.dialX (x : PX) (n : Int) (good : Bool) (now : Nat) : PX := if x.inX n 3 now ≠ 0 then x else match x.S.find? (fun s => decide (s.num = n)) with
 | none => x
 | some s => x.dialN s good now
def PX.endX (x : PX) (n : Int) (good : Bool) (now : Nat) : PX := if x.inX n 4 now ≠ 0 then x else match x.S.find? (fun s => decide (s.num = n)) with
 | none => x
 | some s => x.endN s good now
def PX.advX (x : PX) (now : Nat) : PX := if x.may true now ≠ 0 then x else x.adv now
def PX.stX (x : PX) (n : Int) : Int × Int × Int := match x.S.find? (fun s => decide (s.num = n)) with
 | none => (0, -1, -1)
 | some s => (s.st, s.be, s.cn)
def hdX : List Xv → Xv
 | [] => ⟨0, 0, 0, 0, 0⟩
 | e :: _ => e
theorem find_out {S : List Ss} {n : Int} (h : n ∉ S.map (·.num)) : S.find? (fun s => decide (s.num = n)) = none := List.find?_eq_none.2 fun s hs => by
 simp only [decide_eq_true_eq]
 exact fun e => h (by rw [← e]; exact List.mem_map_of_mem hs)
theorem drainL_num {Q : Int → Prop} (i : Nat) : ∀ (n : Nat) (x : PX), PXG x → (∀ s ∈ x.S, Q s.num) → ∀ s ∈ (PX.drainL i n x).S, Q s.num
 | 0, _, _, hq => hq
 | n + 1, x, h, hq => by
  unfold PX.drainL
  split
  ·exact hq
  ·rename_i si hi
   split
   ·exact hq
   ·rename_i e r hE
    obtain ⟨hk, g2⟩ := drE_ok h hi hE
    refine drainL_num i n _ g2 ?_
    rcases hk with hk | ⟨hk, A, s9, B, hS, hw, hst9, _⟩
    ·rw [drE_5 hk]; exact hq
    ·rw [hS] at hq
     have h9 : Q s9.num := hq s9 (List.mem_append_right _ (List.mem_cons_self ..))
     rcases hk with hk | hk | hk
     ·rw [drE_1 (x := x.nxP i si) h.nd hS hw.symm hk]
      exact mem_swap (p := fun s => Q s.num) hq _ h9
     ·rw [drE_2 (x := x.nxP i si) h.nd hS hw.symm hk]
      exact mem_swap (p := fun s => Q s.num) hq _ h9
     ·rw [drE_4 (x := x.nxP i si) h.nd hS hw.symm hk]
      exact mem_drop (p := fun s => Q s.num) hq
theorem drain_num {Q : Int → Prop} {x : PX} (h : PXG x) (i : Nat) (hq : ∀ s ∈ x.S, Q s.num) : ∀ s ∈ (x.drain i).S, Q s.num := by obtain ⟨n, e⟩ := drain_eqL x i; rw [e]; exact drainL_num i n x h hq
theorem advP_num {Q : Int → Prop} {x : PX} (h : PXG x) (i : Nat) (hq : ∀ s ∈ x.S, Q s.num) : ∀ s ∈ (x.advP x.now i).S, Q s.num := by
 unfold PX.advP
 cases hi : x.P[i]? with
 | none => exact hq
 | some si =>
  have hp := h.po i si hi
  obtain ⟨a, b⟩ := ph_adv hp.ph hp.nw
  exact drain_num (h.pool hi (hp.op (opd_adv (pend_who hp) x.now) a b)) i hq
theorem advK_num {Q : Int → Prop} {x : PX} (h : PXG x) {now : Nat} (hn : x.now ≤ now) (hq : ∀ s ∈ x.S, Q s.num) : ∀ k, ∀ s ∈ (x.advK now k).S, Q s.num
 | 0 => hq
 | k + 1 => by
  have ih := advK_num h hn hq k
  have g := h.advK hn k
  have := advP_num g k ih
  rw [(advK_facts x now k).1] at this
  rw [advK_next]; exact this
theorem PXO.b4 {w b e : Nat} {x : PX} (h : PXO w b e x) (hb : b ≤ 1000000) : ∀ si ∈ x.P, si.E.length ≤ 10000 ∧ si.n < 1000000000000 := fun si hi => by
 have := h.b si hi
 rw [this.1]; exact ⟨Nat.zero_le _, by omega⟩
theorem pre2 {a b : Ent} {R : Heap} {F : FuncId} {args : List Value} {v : Value} (h : Spec Tryz.prog F args [a, b] (fun r H' => r = v ∧ H' = [a, b])) : Spec Tryz.prog F args ([a, b] ++ R) (fun r H' => r = v ∧ H' = [a, b] ++ R) :=
 (h.fr R).mono fun r H' ⟨H1, ⟨e1, e2⟩, e3⟩ => ⟨e1, by rw [e3, e2]⟩
theorem pre1 {a : Ent} {R : Heap} {F : FuncId} {args : List Value} {v : Value} (h : Spec Tryz.prog F args [a] (fun r H' => r = v ∧ H' = [a])) : Spec Tryz.prog F args ([a] ++ R) (fun r H' => r = v ∧ H' = [a] ++ R) :=
 (h.fr R).mono fun r H' ⟨H1, ⟨e1, e2⟩, e3⟩ => ⟨e1, by rw [e3, e2]⟩
theorem xl_begin {N : Nat} {m : XM} {x : PX} {w b e : Nat} (h : PXIs N m x) (o : PXO w b e x) (hN : N ≤ 8000) (hE : e ≤ 10000) (hB : b ≤ 1000000) (n : Int) (now dl : Nat) (hb : now ≤ 18446744073709551615) (key : ByteArray) :
  Spec Tryz.prog 12 [ptrP m.p, .int .i64 n, .int .u64 (now : Int), .int .u64 (dl : Int), .string key] (pxH m x) (fun r H' => ∃ m' x', r = .int .i64 (x.begE n now dl key) ∧ H' = pxH m' x' ∧ PXIs (N + 1) m' x' ∧ m'.p = m.p ∧ PXO (w + 1) (b + 1) (e + 1) x' ∧ ((x.begE n now dl key ≠ 0 ∧ x' = x) ∨ (x.begE n now dl key = 0 ∧ ∃ p, x' = x.begin n now dl key p))) := by
 by_cases he : x.begE n now dl key = 0
 ·refine (xbegin_ok h o.g (by omega) (Nat.le_trans o.e hE) (o.b4 hB) n now dl hb key he).mono ?_
  rintro r H' ⟨m', p, h1, h2, h3, h4⟩
  exact ⟨m', _, by rw [he]; exact h1, h2, h3, h4, o.begin p he, .inr ⟨he, p, rfl⟩⟩
 ·refine (pre2 (R := [pxV m x, pxQ m] ++ (ssH x.S ++ (balH m.bm ++ poolsH m.pm x.P))) (xbegin_bad h n now dl key he)).mono ?_
  rintro r H' ⟨h1, h2⟩
  exact ⟨m, x, h1, h2, h.le (Nat.le_succ N), rfl, o.le (Nat.le_succ _) (Nat.le_succ _) (Nat.le_succ _), .inl ⟨he, rfl⟩⟩
theorem xl_dialed {N : Nat} {m : XM} {x : PX} {w b e : Nat} (h : PXIs N m x) (o : PXO w b e x) (hN : N ≤ 7900) (hE : e ≤ 10000) (n : Int) (good : Bool) (now : Nat) (hb : now ≤ 18446744073709551615) :
  Spec Tryz.prog 13 [ptrP m.p, .int .i64 n, .bool good, .int .u64 (now : Int)] (pxH m x) (fun r H' => ∃ m', r = .int .i64 (x.inX n 3 now) ∧ H' = pxH m' (x.dialX n good now) ∧ PXIs (N + 3) m' (x.dialX n good now) ∧ m'.p = m.p ∧ PXO (w + 1) (b + 1) (e + 3) (x.dialX n good now)) := by
 by_cases he : x.inX n 3 now = 0
 ·obtain ⟨A, s, B, hS, rfl, hst, hm, hr, hn1, hn2⟩ := inX_zero he
  have hs : s ∈ x.S := by rw [hS]; exact List.mem_append_right _ (List.mem_cons_self ..)
  have hX : x.dialX s.num good now = x.dialN s good now := by unfold PX.dialX; rw [if_neg (by rw [he]; decide), find_num o.g.nd hs]
  obtain ⟨i, hbe, hil⟩ := o.g.bk s hs (.inr (.inl hst))
  obtain ⟨si, hi⟩ := getE (T := x.P) (i := i) hil
  have hsE := (o.b si (List.mem_of_getElem? hi)).1
  rw [he, hX]
  have oo := o.dialed hS hst good hn1 hn2
  have hdE := dialed_E si s.cn good now
  rw [hsE, List.length_nil] at hdE
  cases good with
  | true =>
   refine (xdialed_made h o.g (by omega) (Nat.le_trans o.e hE) hS hst hb hm hbe hi (by rw [hsE]; exact Nat.zero_le _)).mono ?_
   rintro r H' ⟨m', h1, h2, h3, h4⟩
   exact ⟨m', h1, h2, h3.le (by omega), h4, oo⟩
  | false =>
   refine (xdialed_lost h o.g (by omega) (Nat.le_trans o.e hE) hS hst hb hm hbe hi (by rw [hsE]; exact Nat.zero_le _) (by omega)).mono ?_
   rintro r H' ⟨m', h1, h2, h3, h4⟩
   exact ⟨m', h1, h2, h3, h4, oo⟩
 ·have hX : x.dialX n good now = x := by unfold PX.dialX; rw [if_pos he]
  rw [hX]
  refine (xdialed_err h n good now he).mono ?_
  rintro r H' ⟨h1, h2⟩
  exact ⟨m, h1, h2, h.le (by omega), rfl, o.le (by omega) (by omega) (by omega)⟩
theorem xl_end {N : Nat} {m : XM} {x : PX} {w b e : Nat} (h : PXIs N m x) (o : PXO w b e x) (hN : N ≤ 7900) (hE : e ≤ 10000) (n : Int) (good : Bool) (now : Nat) (hb : now ≤ 18446744073709551615) :
  Spec Tryz.prog 14 [ptrP m.p, .int .i64 n, .bool good, .int .u64 (now : Int)] (pxH m x) (fun r H' => ∃ m', r = .int .i64 (x.inX n 4 now) ∧ H' = pxH m' (x.endX n good now) ∧ PXIs (N + 3) m' (x.endX n good now) ∧ m'.p = m.p ∧ PXO (w + 1) (b + 1) (e + 3) (x.endX n good now)) := by
 by_cases he : x.inX n 4 now = 0
 ·obtain ⟨A, s, B, hS, rfl, hst, hm, hr, hn1, hn2⟩ := inX_zero he
  have hs : s ∈ x.S := by rw [hS]; exact List.mem_append_right _ (List.mem_cons_self ..)
  have hX : x.endX s.num good now = x.endN s good now := by unfold PX.endX; rw [if_neg (by rw [he]; decide), find_num o.g.nd hs]
  obtain ⟨i, hbe, hil⟩ := o.g.bk s hs (.inr (.inr hst))
  obtain ⟨si, hi⟩ := getE (T := x.P) (i := i) hil
  have hsE := (o.b si (List.mem_of_getElem? hi)).1
  rw [he, hX]
  have oo := o.end_ hS hst good hn1
  have hdE := put_E si s.cn good now
  rw [hsE, List.length_nil] at hdE
  refine (xend_ok h o.g (by omega) (Nat.le_trans o.e hE) hS hst good hb hm hbe hi (by rw [hsE]; exact Nat.zero_le _) (by omega)).mono ?_
  rintro r H' ⟨m', h1, h2, h3, h4⟩
  exact ⟨m', h1, h2, h3, h4, oo⟩
 ·have hX : x.endX n good now = x := by unfold PX.endX; rw [if_pos he]
  rw [hX]
  refine (xend_err h n good now he).mono ?_
  rintro r H' ⟨h1, h2⟩
  exact ⟨m, h1, h2, h.le (by omega), rfl, o.le (by omega) (by omega) (by omega)⟩
theorem xl_adv {N : Nat} {m : XM} {x : PX} {w b e : Nat} (h : PXIs N m x) (o : PXO w b e x) (hN : N ≤ 7000) (hw : w ≤ 1000) (hE : e ≤ 10000) (hB : b ≤ 1000000) (hP : x.P.length ≤ 100) (now : Nat) (hb : now ≤ 18446744073709551615) :
  Spec Tryz.prog 15 [ptrP m.p, .int .u64 (now : Int)] (pxH m x) (fun r H' => ∃ m', r = .int .i64 (x.may true now) ∧ H' = pxH m' (x.advX now) ∧ PXIs (N + w + 101) m' (x.advX now) ∧ m'.p = m.p ∧ PXO w (b + 102) (e + w + 101) (x.advX now)) := by
 by_cases he : x.may true now = 0
 ·have hX : x.advX now = x.adv now := by unfold PX.advX; rw [if_neg (by rw [he]; decide)]
  obtain ⟨_, hn1, hn2⟩ := xmay_zero_of he
  have hev := evS_le o.g o.b now
  have hww := o.w
  have hwP : wP x.P ≤ wX x := Nat.le_add_right _ _
  rw [he, hX]
  refine (xadv_ok h o.g now hb he (Nat.le_trans o.e hE) hP o.b (by omega) (by omega)).mono ?_
  rintro r H' ⟨m', N', h1, h2, h3, h4, h5⟩
  refine ⟨m', h1, h2, h4.le (by omega), h5, o.adv hn1 h.num ?_⟩
  rw [List.length_map]
  exact nums_len (o.g.advK hn1 x.P.length).nd (advK_num (Q := fun n => 0 ≤ n ∧ n ≤ 100) o.g hn1 h.num x.P.length)
 ·have hX : x.advX now = x := by unfold PX.advX; rw [if_pos he]
  rw [hX]
  refine (pre1 (R := [pxM m, pxV m x, pxQ m] ++ (ssH x.S ++ (balH m.bm ++ poolsH m.pm x.P))) (xadv_err m x now he)).mono ?_
  rintro r H' ⟨h1, h2⟩
  exact ⟨m, h1, h2, h.le (by omega), rfl, o.le (by omega) (by omega) (by omega)⟩
abbrev encR (s : Ss) : List Value := [.int .i64 s.num, .string s.key, .int .u64 (s.dl : Int), .int .u64 (s.til : Int), .int .i64 (s.tr : Int), .int .i64 s.st, .int .i64 s.cal, .int .i64 s.be, .int .i64 s.cn]
structure MM where
 p : Nat
 bm : Bm
 pm : List PM
 ob : Option Nat
 oc : Nat
 otl : List Value
 so : Option Nat
 sc : Nat
 stl : List Value
 eb : Option Nat
 ek : Nat
 ec : Nat
 epre : List Value
 etl : List Value
structure MIs (N : Nat) (M : MM) (x : PX) : Prop where
 bal : BIs N M.bm x.b
 len : M.pm.length = x.P.length
 po : ∀ (i : Nat) (mi : PM) (si : PS), M.pm[i]? = some mi → x.P[i]? = some si → PIs mi si
 oq : Own M.ob x.P.length M.oc 1 (M.pm.flatMap (fun q => [ptrP q.p])) M.otl
 sO : Own M.so x.S.length M.sc 9 (x.S.flatMap encR) M.stl
 eO : OwnS M.eb M.ek x.E.length M.ec 5 M.epre (x.E.flatMap encX) M.etl
 ok : OkP x.pl
 seed : x.pl.seed < 4294967296
 vl : x.b.V.length = x.P.length
 now : x.now ≤ 18446744073709551614
theorem MIs.le {N N2 : Nat} {M : MM} {x : PX} (h : MIs N M x) (hN : N ≤ N2) : MIs N2 M x := ⟨h.bal.le hN, h.len, h.po, h.oq, h.sO, h.eO, h.ok, h.seed, h.vl, h.now⟩
def setS (S : List Ss) (s : Ss) : List Ss := if s.num ∈ S.map (·.num) then updS S s.num fun _ => s else S ++ [s]
structure A9 where
 wt : Int
 n : Int
 now : Nat
 dl : Nat
 key : ByteArray
 good : Bool
abbrev encA9 (a : A9) : List Value := [.int .i64 a.wt, .int .i64 a.n, .int .u64 (a.now : Int), .int .u64 (a.dl : Int), .string a.key, .bool a.good]
def fewB (n : Nat) (T : List A9) (most : Nat) : Prop := (∀ a ∈ T.take most, a.key.size ≤ 100) ∧ T.length ≤ most ∧ (n ≤ 8 ∨ n = 65)
instance (n : Nat) (T : List A9) (most : Nat) : Decidable (fewB n T most) := by unfold fewB; infer_instance
theorem fewB_big {n y : Nat} {T : List A9} {most : Nat} {a : A9} (h : T[y]? = some a) (hy : (y : Int) < (most : Int)) (hk : 100 < (a.key.size : Int)) : ¬ fewB n T most := fun e => by
 have hm : a ∈ T.take most := List.mem_of_getElem? (i := y) (by rw [List.getElem?_take]; rw [if_pos (by omega)]; exact h)
 have := e.1 a hm
 omega
theorem fewB_end {n y : Nat} {T : List A9} {most : Nat} (h1 : y ≤ T.length) (h2 : y ≤ most) (h3 : ∀ a ∈ T.take y, a.key.size ≤ 100) (h4 : ¬ (y : Int) < (T.length : Int) ∨ ¬ (y : Int) < (most : Int)) : fewB n T most ↔ ((T.length : Int) ≤ (most : Int) ∧ ((n : Int) ≤ 8 ∨ (n : Int) = 65)) := by
 have h5 : ∀ a ∈ T.take most, a.key.size ≤ 100 := by
  rcases h4 with h4 | h4
  ·have : y = T.length := by omega
   subst this
   intro a ha
   rw [List.take_of_length_le (by omega)] at ha h3
   exact h3 a ha
  ·have : y = most := by omega
   subst this
   exact h3
 unfold fewB
 constructor
 ·rintro ⟨_, q1, q2⟩; omega
 ·rintro ⟨q1, q2⟩; exact ⟨h5, by omega, by omega⟩
theorem few_ok (k : Int) (oa : Option Addr) (n c : Nat) (limit : Int) (brk : Nat) (op idle : Int) (keep : Nat) (p : Plan) (hn : n ≤ 9223372036854775807) (T : List A9) (oa2 : Option Addr) (c2 : Nat) (en2 : Ent) (ha2 : Arg oa2 en2 6 encA9 T) (hT : T.length ≤ 9223372036854775807) (most : Nat) (hm : most ≤ 1000) :
  Spec Tryz.prog 7 [.agg (xsetL k oa n c limit brk op idle keep p).toArray, .slice oa2 T.length c2, .int .i64 (most : Int)] [en2] (fun r H' => r = .bool (decide (fewB n T most)) ∧ H' = [en2]) := by
 refine Spec.of (E := [(0, .agg (xsetL k oa n c limit brk op idle keep p).toArray), (1, .slice oa2 T.length c2), (2, .int .i64 (most : Int))]) Tryz.func7 rfl (by kernel_rfl) Tryz.ntmps7 rfl rfl (fun w => ?_)
 refine WCr (WLd Z (D_box (cs := [_, _, _, _, _, _, _, _, _, _, _, _, _, _]) Z Z Z) ?_)
 rintro _ _ ⟨b1, rfl, rfl⟩
 refine WLa Z (WL_nil (WQ_code (WC_seq (WCr (WLa Z (WL_nil (WQ_code (WC_block (WC_loopF (G := Nat) [6, 7, 8, 9, 10, 11, 12, 13, 14, 15, 16, 17, 18, 19, 20, 21, 22, 23, 24, 25] (fun y => y ≤ T.length ∧ y ≤ most ∧ ∀ a ∈ T.take y, a.key.size ≤ 100) (fun y => [(7, .int .i64 (y : Int))]) (fun y => []) (fun y => most - y) (0) (⟨Nat.zero_le _, Nat.zero_le _, by simp⟩) leZ pqZ ?_)))))))))
 rintro y ⟨hy1, hy2, hy3⟩
 refine WC_seq (WCr (WLa Z (WLa Z (WLv Z (R_len Z Tryz.underlying41 Z) ?_))))
 refine WLa Z (WLa Z ?_)
 refine WL_splitD (s := 12) Z (fun c1 => ?_) (fun c1 => ?_)
 ·refine WLa Z (WLa Z (WLa Z (WLa Z (WL_nil (WQ_code ?_)))))
  refine WC_dec Z (fun c2 => ?_) (fun c2 => ?_)
  ·refine WC_skip (WQ_code (WC_seq (WC_block (WCr ?_))))
   obtain ⟨a, hak⟩ := getE (T := T) (i := y) (by omega)
   obtain ⟨lb, lk, lcs, le, lfr, rfl, rfl, hat⟩ := ha2.some (by omega)
   refine WLa Z (WLa Z (WLv Z (R_indexAddr Z Tryz.underlying41 Tryz.sizeOf43 Z Z (by omega)) ?_))
   refine WLf Z fa43_4 (WLv Z (R_loadG (v := .string a.key) Z sc9 Z mmZ (hat y a hak 4 _ Z)) ?_)
   refine WLv Z (R_lenStr Z Tryz.underlying9 Z) ?_
   refine WLa Z (WL_nil (WQ_code ?_))
   refine WC_dec Z (fun c3 => ?_) (fun c3 => ?_)
   ·refine WCr (WLa Z (WL_nil (WQ_code (WC_ret ?_))))
    refine WQ1 Z (by
      refine ⟨congrArg Value.bool ?_, rfl⟩
      first | (rw [decide_eq_false (fewB_big hak (by omega) (by omega))]) | (have hE := fewB_end (n := n) hy1 hy2 hy3 (by omega); refine Bool.eq_iff_iff.2 ?_; refine Iff.trans ?_ decide_eq_true_iff.symm; refine Iff.trans ?_ hE.symm; clear hE hy3 ha2; grind)) pqZ
   ·refine WC_skip (WQ_code (WC_region (WLa Z (WLv Z (R_add Z Z Z (by omega)) ?_))))
    refine WLa Z (WL_nil ?_)
    refine WQ_nextF (y + 1) (⟨by omega, by omega, fun v hv => by rw [take_next hak] at hv; rcases List.mem_append.1 hv with hv | hv; exact hy3 v hv; rw [List.mem_singleton.1 hv]; omega⟩) (by omega) leZ (psZ) Z pqZ
  ·refine WC_exit (WQ_code (WCr (WLa Z (WLv Z (R_len Z Tryz.underlying41 Z) ?_))))
   refine WLa Z (WLa Z (WLa Z ?_))
   refine WL_splitD (s := 30) Z (fun c4 => ?_) (fun c4 => ?_)
   ·refine WLf Z fa30_1 (WLl Z sc23 mmZ Z (WLv Z (R_len Z Tryz.underlying23 Z) ?_))
    refine WLa Z (WLa Z ?_)
    refine WL_splitD (s := 35) Z (fun c5 => ?_) (fun c5 => ?_)
    ·refine WLa Z (WLa Z (WLa Z (WLa Z (WLa Z (WLa Z (WLa Z (WL_nil (WQ_code (WC_ret ?_)))))))))
     refine WQ1 Z (by
       refine ⟨congrArg Value.bool ?_, rfl⟩
       first | (rw [decide_eq_false (fewB_big hak (by omega) (by omega))]) | (have hE := fewB_end (n := n) hy1 hy2 hy3 (by omega); refine Bool.eq_iff_iff.2 ?_; refine Iff.trans ?_ decide_eq_true_iff.symm; refine Iff.trans ?_ hE.symm; clear hE hy3 ha2; grind)) pqZ
    ·refine WLf Z fa30_1 (WLl Z sc23 mmZ Z (WLv Z (R_len Z Tryz.underlying23 Z) ?_))
     refine WLa Z (WLa Z (WLa Z (WLa Z (WL_nil (WQ_code (WC_ret ?_))))))
     refine WQ1 Z (by
       refine ⟨congrArg Value.bool ?_, rfl⟩
       first | (rw [decide_eq_false (fewB_big hak (by omega) (by omega))]) | (have hE := fewB_end (n := n) hy1 hy2 hy3 (by omega); refine Bool.eq_iff_iff.2 ?_; refine Iff.trans ?_ decide_eq_true_iff.symm; refine Iff.trans ?_ hE.symm; clear hE hy3 ha2; grind)) pqZ
   ·refine WLa Z (WLa Z (WLa Z (WLa Z (WLa Z (WLa Z (WLa Z (WLa Z (WLa Z (WLa Z (WLa Z (WLa Z (WL_nil (WQ_code (WC_ret ?_))))))))))))))
    refine WQ1 Z (by
      refine ⟨congrArg Value.bool ?_, rfl⟩
      first | (rw [decide_eq_false (fewB_big hak (by omega) (by omega))]) | (have hE := fewB_end (n := n) hy1 hy2 hy3 (by omega); refine Bool.eq_iff_iff.2 ?_; refine Iff.trans ?_ decide_eq_true_iff.symm; refine Iff.trans ?_ hE.symm; clear hE hy3 ha2; grind)) pqZ
 ·refine WLa Z (WLa Z (WLa Z (WLa Z (WL_nil (WQ_code (WC_F Z (WC_exit (WQ_code (WCr (WLa Z (WLv Z (R_len Z Tryz.underlying41 Z) ?_)))))))))))
  refine WLa Z (WLa Z (WLa Z ?_))
  refine WL_splitD (s := 30) Z (fun c6 => ?_) (fun c6 => ?_)
  ·refine WLf Z fa30_1 (WLl Z sc23 mmZ Z (WLv Z (R_len Z Tryz.underlying23 Z) ?_))
   refine WLa Z (WLa Z ?_)
   refine WL_splitD (s := 35) Z (fun c7 => ?_) (fun c7 => ?_)
   ·refine WLa Z (WLa Z (WLa Z (WLa Z (WLa Z (WLa Z (WLa Z (WL_nil (WQ_code (WC_ret ?_)))))))))
    refine WQ1 Z (by
      refine ⟨congrArg Value.bool ?_, rfl⟩
      first | (rw [decide_eq_false (fewB_big hak (by omega) (by omega))]) | (have hE := fewB_end (n := n) hy1 hy2 hy3 (by omega); refine Bool.eq_iff_iff.2 ?_; refine Iff.trans ?_ decide_eq_true_iff.symm; refine Iff.trans ?_ hE.symm; clear hE hy3 ha2; grind)) pqZ
   ·refine WLf Z fa30_1 (WLl Z sc23 mmZ Z (WLv Z (R_len Z Tryz.underlying23 Z) ?_))
    refine WLa Z (WLa Z (WLa Z (WLa Z (WL_nil (WQ_code (WC_ret ?_))))))
    refine WQ1 Z (by
      refine ⟨congrArg Value.bool ?_, rfl⟩
      first | (rw [decide_eq_false (fewB_big hak (by omega) (by omega))]) | (have hE := fewB_end (n := n) hy1 hy2 hy3 (by omega); refine Bool.eq_iff_iff.2 ?_; refine Iff.trans ?_ decide_eq_true_iff.symm; refine Iff.trans ?_ hE.symm; clear hE hy3 ha2; grind)) pqZ
  ·refine WLa Z (WLa Z (WLa Z (WLa Z (WLa Z (WLa Z (WLa Z (WLa Z (WLa Z (WLa Z (WLa Z (WLa Z (WL_nil (WQ_code (WC_ret ?_))))))))))))))
   refine WQ1 Z (by
     refine ⟨congrArg Value.bool ?_, rfl⟩
     first | (rw [decide_eq_false (fewB_big hak (by omega) (by omega))]) | (have hE := fewB_end (n := n) hy1 hy2 hy3 (by omega); refine Bool.eq_iff_iff.2 ?_; refine Iff.trans ?_ decide_eq_true_iff.symm; refine Iff.trans ?_ hE.symm; clear hE hy3 ha2; grind)) pqZ
end Go.Proofs.YtelmlkdibcdebaaGreat
