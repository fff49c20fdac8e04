/-
  Chapter 46 (pool), part PoolS: contracts of functions that the laws call, each for the heap it names.
-/
import Derived.Test.YteofigbgdbpjgaaRows
import Derived.Test.YteofigbgdbpjgaaZB
import Derived.Test.YteofigbgdbpjgaaSLMapJ
import Derived.Test.YteofigbgdbpjgaaSLScope
import Derived.Test.YteofigbgdbpjgaaTab
import Derived.Test.YteofigbgdbpjgaaPoolM
import Derived.Test.YteofigbgdbpjgaaSLKeys
set_option linter.unusedVariables false
set_option maxRecDepth 20000
set_option maxHeartbeats 2000000
namespace Go.Proofs.Yteofigbgdbpjgaa


structure AsI where
  l : List Int
  ob : Option Nat
  c : Nat
  tl : List Value
theorem ekW_inj (a b : Int) (h : ekW a = ekW b) : a = b := by simp only [ekW, Value.int.injEq, true_and] at h; exact h
theorem wkit_ok {W : List (Int × (Nat × Nat))} (bb mb : Nat) (es : Array MapEntry) (c : Nat) (hM : Mk ekW evW es c W) : IterAny Try.prog 76 [.pointer (some ⟨bb, 0, none⟩)] [⟨some bb, cl [.map (some mb)] 69⟩, ⟨some mb, .map es c⟩] (fun a : Int => [ekW a]) (fun pre x => x ∈ W.map (·.1) ∧ x ∉ pre) (fun xs => xs.Perm (W.map (·.1))) := by
  intro lp J Jx hY hj h0
  refine Spec.of (E := [(0, yieldV lp), (1, .pointer (some ⟨bb, 0, none⟩))]) Try.func76 rfl (by kernel_rfl) Try.ntmps76 rfl rfl (fun w => ?_)
  refine WC_seq ?_
  refine WC_region ?_
  refine WL_val rfl rfl rfl (R_load rfl sc69 rfl (mmZ) rfl) ?_
  refine WL_do rfl rfl rfl (D_rangeMap rfl Try.underlying69 rfl mmZ) ?_
  rintro _ _ ⟨bi, rfl, rfl⟩
  refine WL_nil ?_
  refine WQ_code ?_
  refine WC_block ?_
  refine WC_loopH (G := KyG Int) [3, 6, 7, 8, 9, 10, 11, 12, 13] (fun y => KsG ekW W es y.seen y.ys ∧ J y.ys y.hj) (fun y => []) (fun y => [⟨some bi, .mapIter (some mb) c y.seen c⟩, ⟨some bb, cl [.map (some mb)] 69⟩, ⟨some mb, .map es c⟩] ++ y.hj) (fun y => W.length - y.ys.length) (⟨#[], [], hj⟩) (⟨KsG.new ekW W es, h0⟩) leZ (pqZ) ?_
  rintro y ⟨hks, hJ⟩
  refine WC_seq ?_
  refine WC_region ?_
  refine WL_do rfl rfl rfl (D_nextMap rfl rfl plZ mmZ hM.born) ?_
  rintro _ _ (⟨rfl, rfl, hall⟩ | ⟨e, he, hns, rfl, rfl⟩)
  · refine WL_val rfl rfl rfl (R_extract rfl rfl rfl) ?_
    refine WL_set (s := 7) (v := .bool false) rfl (by rfl) ?_
    refine WL_nil ?_
    refine WQ_code ?_
    refine WC_seq ?_
    refine WC_F rfl ?_
    refine WC_exit ?_
    refine WQ_ret rfl rfl .nil rfl (by
        first | exact ⟨_, .inr ⟨_, hJ2⟩, rfl⟩ | exact ⟨_, .inl ⟨_, hks.done hM hall, hJ⟩, rfl⟩) (pqZ)
  · refine WL_val rfl rfl rfl (R_extract rfl rfl rfl) ?_
    refine WL_set (s := 7) (v := .bool true) rfl (by rfl) ?_
    refine WL_nil ?_
    refine WQ_code ?_
    refine WC_seq ?_
    refine WC_T rfl ?_
    refine WC_skip ?_
    refine WQ_code ?_
    refine WC_block ?_
    refine WC_seq ?_
    refine WC_region ?_
    obtain ⟨⟨k, v9⟩, hx, hek, hev⟩ := hM.back he
    dsimp only at hek hev
    obtain ⟨hmay, hks2⟩ := hks.next ekW_inj hM he hns hek
    refine WL_val rfl rfl rfl (R_entryMap rfl rfl mmZ mmZ he hM.bnd) ?_
    rw [hek, hev]
    refine WL_val rfl rfl rfl (R_extract rfl rfl rfl) ?_
    refine WL_val rfl rfl rfl (R_assign rfl rfl) ?_
    refine WL_nil ?_
    refine WQ_code ?_
    refine WC_seq ?_
    refine WC_region ?_
    refine WL_val rfl rfl rfl (R_move rfl rfl) ?_
    refine WL_val rfl rfl rfl (R_move rfl rfl) ?_
    refine WL_do rfl rfl rfl (D_yield (F := [_, _, _]) (hY y.ys k y.hj hmay hJ) rfl rfl rfl rfl (List.Perm.refl _)) ?_
    rintro _ _ ⟨hj2, (⟨rfl, hJ2⟩ | ⟨rfl, hJ2⟩), rfl⟩
    · refine WL_val rfl rfl rfl (R_not rfl rfl) ?_
      refine WL_nil ?_
      refine WQ_code ?_
      refine WC_F rfl ?_
      refine WC_skip ?_
      refine WQ_nextH (gg := y) (⟨y.seen.push e.born, y.ys ++ [k], hj2⟩) (⟨hks2, hJ2⟩) (by have := hks2.len; rw [List.length_append, List.length_singleton] at this; dsimp only; rw [List.length_append, List.length_singleton]; omega) leZ (psZ) rfl (pqZ)
    · refine WL_val rfl rfl rfl (R_not rfl rfl) ?_
      refine WL_nil ?_
      refine WQ_code ?_
      refine WC_T rfl ?_
      refine WC_ret ?_
      refine WQ_ret rfl rfl .nil rfl (by
          first | exact ⟨_, .inr ⟨_, hJ2⟩, rfl⟩ | exact ⟨_, .inl ⟨_, hks.done hM hall, hJ⟩, rfl⟩) (pqZ)
theorem wkeys_ok (mb : Nat) : Spec Try.prog 48 [.map (some mb)] [] (fun r H' => ∃ bb, r = .func (.func 76) #[] #[.pointer (some ⟨bb, 0, none⟩)] ∧ H' = [⟨some bb, cl [.map (some mb)] 69⟩]) := by
  refine Spec.of (E := [(0, .map (some mb))]) Try.func48 rfl (by kernel_rfl) Try.ntmps48 rfl rfl (fun w => ?_)
  refine WC_seq ?_
  refine WC_region ?_
  refine WL_do rfl rfl rfl (D_box (cs := [_]) rfl rfl rfl) ?_
  rintro _ _ ⟨b1, rfl, rfl⟩
  refine WL_val rfl rfl rfl (R_assign rfl rfl) ?_
  refine WL_nil ?_
  refine WQ_code ?_
  refine WC_seq ?_
  refine WC_region ?_
  refine WL_val rfl rfl rfl (R_makeFunc rfl rfl rfl) ?_
  refine WL_val rfl rfl rfl (R_assign rfl rfl) ?_
  refine WL_nil ?_
  refine WQ_code ?_
  refine WC_ret ?_
  refine WQ_ret rfl rfl (.cons (.tmp rfl) .nil) rfl (by
      exact ⟨b1, rfl, rfl⟩) (pqZ)
theorem wapps_ok {W : List (Int × (Nat × Nat))} (hl : W.length ≤ 1001) (bb mb : Nat) (es : Array MapEntry) (c : Nat) (hM : Mk ekW evW es c W) : Spec Try.prog 75 [.slice none 0 0, .func (.func 76) #[] #[.pointer (some ⟨bb, 0, none⟩)]] [⟨some bb, cl [.map (some mb)] 69⟩, ⟨some mb, .map es c⟩] (fun r H' => ∃ (xs : List Int) (o : Option Nat) (c2 : Nat) (tl : List Value), xs.Perm (W.map (·.1)) ∧ r = slV o xs.length c2 ∧ Own o xs.length c2 1 (ivs xs) tl ∧ H' = ⟨o, cl (ivs xs ++ tl) 3⟩ :: [⟨some bb, cl [.map (some mb)] 69⟩, ⟨some mb, .map es c⟩]) := by
  refine Spec.ofM (E := [(0, .slice none 0 0), (1, .func (.func 76) #[] #[.pointer (some ⟨bb, 0, none⟩)])]) Try.func75 rfl (by kernel_rfl) Try.ntmps75 rfl rfl (fun w => ?_)
  refine WC_seq ?_
  refine WC_region ?_
  refine WL_do rfl rfl rfl (D_box (cs := [_]) rfl rfl rfl) ?_
  rintro _ _ ⟨b1, rfl, rfl⟩
  refine WL_val rfl rfl rfl (R_assign rfl rfl) ?_
  refine WL_nil ?_
  refine WQ_code ?_
  refine WC_seq ?_
  refine WC_seq ?_
  refine WC_region ?_
  refine WL_val rfl rfl rfl (R_move rfl rfl) ?_
  refine WL_nil ?_
  refine WQ_code ?_
  refine WC_block ?_
  refine WC_none 3 ?_
  refine WC_rangeA (G := AsI) (GX := Unit) (wkit_ok bb mb es c hM) rfl rfl (fun _ => rfl) rfl (fun pre g => g.l = pre ∧ (pre.Nodup ∧ ∀ x ∈ pre, x ∈ W.map (·.1)) ∧ Own g.ob g.l.length g.c 1 (ivs g.l) g.tl) (fun g => [⟨some b1, cl [slV g.ob g.l.length g.c] 78⟩, ⟨g.ob, cl (ivs g.l ++ g.tl) 3⟩]) (fun _ _ _ => False) (fun _ => []) (⟨[], none, 0, []⟩) (⟨rfl, ⟨.nil, fun x hx => by cases hx⟩, Own.empty 1⟩) (pqZ) (pqZ) ?_ ?_ ?_
  · intro l pre x gg hx hI w2
    obtain ⟨hgl, ⟨hgn, hgs⟩, hgo⟩ := hI
    have hbl : gg.l.length ≤ 1001 := by rw [hgl]; have := pigeonG pre (W.map (·.1)) hgn hgs; rw [List.length_map] at this; omega
    refine WC_region ?_
    refine WL_val rfl rfl rfl (R_assign rfl rfl) ?_
    refine WL_nil ?_
    refine WQ_begin (fun w3 => ?_)
    refine WC_block ?_
    refine WC_region ?_
    refine WL_val rfl rfl rfl (R_load rfl sc78 rfl (mmZ) rfl) ?_
    refine WL_val rfl rfl rfl (R_move rfl rfl) ?_
    refine WL_do rfl rfl rfl (D_buildSlice rfl si78 rfl rfl rfl) ?_
    rintro _ _ ⟨b2, rfl, rfl⟩
    refine WL_do rfl rfl rfl (D_append rfl si78 rfl (hgo) (plZ) rfl (mmZ) ((atZ : At _ 0 [_])) (rfl) (rfl) (by omega) (by omega)) ?_
    rintro _ _ ⟨ob3, cap3, tl3, rfl, own3, rfl⟩
    rw [show ivs gg.l ++ [Value.int .i64 x] = ivs (gg.l ++ [x]) from by simp [ivs], show gg.l.length + 1 = (gg.l ++ [x]).length from by simp] at own3 ⊢
    refine WL_do0 rfl rfl (D_store (vs := [_]) rfl Try.sizeOf78 rfl rfl rfl rfl rfl (plZ) (by exact Nat.le_of_ble_eq_true rfl)) ?_
    rintro _ _ rfl
    refine WL_nil ?_
    refine WQ_rnd (⟨gg.l ++ [x], ob3, cap3, tl3⟩) ?_ (pqZ)
    exact (⟨by rw [← hgl], ⟨by rw [List.nodup_append]; exact ⟨hgn, by simp, fun a ha b hb => by rw [List.mem_singleton.1 hb]; rintro rfl; exact hx.2 ha⟩, fun y hy => by rcases List.mem_append.1 hy with hy | hy; exact hgs y hy; rw [List.mem_singleton.1 hy]; exact hx.1⟩, own3⟩)
  · intro dl xs gg hall hI
    obtain ⟨hgl, _, hgo⟩ := hI
    subst hgl
    refine WQ_code ?_
    refine WC_seq ?_
    refine WC_region ?_
    refine WL_val rfl rfl rfl (R_load rfl sc78 rfl (mmZ) rfl) ?_
    refine WL_val rfl rfl rfl (R_assign rfl rfl) ?_
    refine WL_nil ?_
    refine WQ_code ?_
    refine WC_ret ?_
    refine WQ_retM rfl (plZ) rfl (.cons (.tmp rfl) .nil) rfl (by
        exact ⟨gg.l, gg.ob, gg.c, gg.tl, hall, rfl, hgo, rfl⟩) (pqZ)
  · intro dl c pre gx hIx
    exact hIx.elim
theorem wcoll_ok {W : List (Int × (Nat × Nat))} (hl : W.length ≤ 1001) (bb mb : Nat) (es : Array MapEntry) (c : Nat) (hM : Mk ekW evW es c W) : Spec Try.prog 47 [.func (.func 76) #[] #[.pointer (some ⟨bb, 0, none⟩)]] [⟨some bb, cl [.map (some mb)] 69⟩, ⟨some mb, .map es c⟩] (fun r H' => ∃ (xs : List Int) (o : Option Nat) (c2 : Nat) (tl : List Value), xs.Perm (W.map (·.1)) ∧ r = slV o xs.length c2 ∧ Own o xs.length c2 1 (ivs xs) tl ∧ H' = ⟨o, cl (ivs xs ++ tl) 3⟩ :: [⟨some bb, cl [.map (some mb)] 69⟩, ⟨some mb, .map es c⟩]) := by
  refine Spec.of (E := [(0, .func (.func 76) #[] #[.pointer (some ⟨bb, 0, none⟩)])]) Try.func47 rfl (by kernel_rfl) Try.ntmps47 rfl rfl (fun w => ?_)
  refine WC_seq ?_
  refine WC_region ?_
  refine WL_val rfl rfl rfl (R_assign rfl rfl) ?_
  refine WL_nil ?_
  refine WQ_code ?_
  refine WC_seq ?_
  refine WC_region ?_
  refine WL_val rfl rfl rfl (R_move rfl rfl) ?_
  refine WL_do rfl rfl rfl (D_call (wapps_ok hl bb mb es c hM) rfl rfl rfl rfl (pqZ)) ?_
  rintro _ _ ⟨_, ⟨xs, o9, c9, tl9, hperm, rfl, own9, rfl⟩, rfl⟩
  refine WL_val rfl rfl rfl (R_assign rfl rfl) ?_
  refine WL_nil ?_
  refine WQ_code ?_
  refine WC_ret ?_
  refine WQ_ret rfl rfl (.cons (.tmp rfl) .nil) rfl (by
      exact ⟨xs, o9, c9, tl9, hperm, rfl, own9, rfl⟩) (pqZ)

end Go.Proofs.Yteofigbgdbpjgaa
