/-
  Chapter 48 (balance), part Alike: contracts of functions that the laws call, each for the heap it names.
-/
import Derived.Test.YtiokpmgbabpikaaRows
import Derived.Test.YtiokpmgbabpikaaZSLOpt
import Derived.Test.YtiokpmgbabpikaaTab
import Derived.Test.YtiokpmgbabpikaaStepM
import Derived.Test.YtiokpmgbabpikaaStep1
set_option linter.unusedVariables false
set_option maxRecDepth 20000
set_option maxHeartbeats 4000000
namespace Go.Proofs.Ytiokpmgbabpikaa


theorem candK_pre {L : List Bk} {now k : Nat} : ∀ {n : Nat}, k ≤ n → candK L now k <+: candK L now n
  | 0, h => by obtain rfl : k = 0 := by omega
               exact List.prefix_refl _
  | n + 1, h => by
    by_cases e : k = n + 1
    · subst e; exact List.prefix_refl _
    · rw [candK_next]
      exact (candK_pre (n := n) (by omega)).trans (List.prefix_append ..)
theorem cand_at {L : List Bk} {now k : Nat} (hk : k < L.length) (h : okAt L now k = true) : (cand L now)[(candK L now k).length]? = some (k : Int) := by
  obtain ⟨t, ht⟩ := candK_pre (L := L) (now := now) (k := k + 1) (n := L.length) (by omega)
  show (candK L now L.length)[_]? = _
  rw [← ht, candK_next, if_pos h, List.append_assoc, List.getElem?_append_right (Nat.le_refl _), Nat.sub_self]
  rfl
theorem alike_ok {N : Nat} {m : Bm} {s : BS} {l : Lm} (hb : BIs N m s) (hl : LmIs N l) (hr : Rel s l) (hN : N ≤ 8000) : Spec Try.prog 16 [ptrB m.p, lmV l] (balH m ++ lmH l) (fun r H' => r = .bool true ∧ H' = balH m ++ lmH l) := by
  have hml : m.last = l.last := hb.last.trans hr.last.symm
  have hsl : s.last = l.last := hr.last.symm
  have hln : l.n = s.V.length := by rw [← hl.hn, cq_len (hr.to hb), hb.is.hn]; exact hb.len
  have hnn := hl.n
  have hgv : s.gv = l.gv := hr.gv.symm
  have hglv := hl.gv
  have hcll := hl.cl
  have hll := hb.is.last
  have hcm : cand m.L l.last = cand l.L l.last := (hb.cand _).trans (hr.candE _).symm
  have hhn := hl.hn
  have hhm := hb.is.hn
  have hbn := hb.len
  refine Spec.of (E := [(0, ptrB m.p), (1, lmV l)]) Try.func16 rfl (by kernel_rfl) Try.ntmps16 rfl rfl (fun w => ?_)
  refine WC_seq ?_
  refine WC_region ?_
  refine WL_do rfl rfl rfl (D_box (cs := [_, _, _, _, _, _]) rfl rfl rfl) ?_
  rintro _ _ ⟨b1, rfl, rfl⟩
  refine WL_val rfl rfl rfl (R_assign rfl rfl) ?_
  refine WL_nil ?_
  refine WQ_code ?_
  refine WC_seq ?_
  refine WC_region ?_
  refine WL_val rfl rfl rfl (R_move rfl rfl) ?_
  refine WL_val rfl rfl rfl (R_fieldAddr rfl fa45_5 rfl) ?_
  refine WL_val rfl rfl rfl (R_load rfl sc30 rfl (mmY) rfl) ?_
  refine WL_do rfl rfl rfl (D_call (bcand_ok m N s.C hb.is l.last (by omega) (by omega)) rfl rfl rfl rfl (pqY)) ?_
  rintro _ _ ⟨_, ⟨o9, c9, tl9, rfl, own9, rfl⟩, rfl⟩
  rw [hcm] at own9 ⊢
  refine WL_val rfl rfl rfl (R_assign rfl rfl) ?_
  refine WL_nil ?_
  refine WQ_code ?_
  refine WC_seq ?_
  refine WC_region ?_
  refine WL_val rfl rfl rfl (R_loadA (vs := [_, _, _, _, _, _]) rfl ag45 rfl (mmY) rfl (atZ)) ?_
  refine WL_val rfl rfl rfl (R_fieldAddr rfl fa45_5 rfl) ?_
  refine WL_val rfl rfl rfl (R_load rfl sc30 rfl (mmY) rfl) ?_
  refine WL_do rfl rfl rfl (D_call (lcands_ok l l.last hl.hn hl.n.2 (hr.fit hb (by omega)) (by omega)) rfl rfl rfl rfl (pqY)) ?_
  rintro _ _ ⟨_, ⟨cb, rfl, rfl⟩, rfl⟩
  refine WL_val rfl rfl rfl (R_assign rfl rfl) ?_
  refine WL_nil ?_
  refine WQ_code ?_
  refine WC_seq ?_
  refine WC_region ?_
  refine WL_val rfl rfl rfl (R_assign rfl rfl) ?_
  refine WL_nil ?_
  refine WQ_code ?_
  refine WC_seq ?_
  refine WC_seq ?_
  refine WC_region ?_
  refine WL_val rfl rfl rfl (R_assign rfl rfl) ?_
  refine WL_nil ?_
  refine WQ_code ?_
  refine WC_block ?_
  refine WC_loopF (G := Nat) [4, 7, 8, 9, 10, 21, 22, 23, 24, 25, 26, 27, 28, 29, 30, 31, 32, 33, 34, 35, 36, 37, 38, 39, 40, 41, 42, 43, 44, 45, 46, 47, 48, 49, 50, 51, 52, 53, 54, 55, 56, 57, 58, 59, 60, 61, 62, 63] (fun y => y ≤ l.n) (fun y => [(7, .int .i64 ((candK l.L l.last y).length : Int)), (8, .int .i64 (y : Int))]) (fun y => []) (fun y => l.n - y) (0) (Nat.zero_le _) leZ (pqY) ?_
  rintro y hy
  refine WC_seq ?_
  refine WC_seq ?_
  refine WC_region ?_
  refine WL_val rfl rfl rfl (R_move rfl rfl) ?_
  refine WL_val rfl rfl rfl (R_fieldAddr rfl fa45_1 rfl) ?_
  refine WL_val rfl rfl rfl (R_load rfl sc42 rfl (mmY) rfl) ?_
  refine WL_val rfl rfl rfl (R_len rfl Try.underlying42 rfl) ?_
  refine WL_val rfl rfl rfl (R_lss rfl rfl rfl) ?_
  refine WL_nil ?_
  refine WQ_code ?_
  refine WC_dec rfl (fun c1 => ?_) (fun c1 => ?_)
  · refine WC_skip ?_
    refine WQ_code ?_
    refine WC_seq ?_
    refine WC_block ?_
    refine WC_seq ?_
    refine WC_region ?_
    obtain ⟨x9, hx9⟩ := getE (T := l.L) (i := y) (by omega)
    obtain ⟨y9, hy9, _, ea9, _, _⟩ := hr.get hb hx9
    refine WL_val rfl rfl rfl (R_move rfl rfl) ?_
    refine WL_val rfl rfl rfl (R_move rfl rfl) ?_
    refine WL_do rfl rfl rfl (D_call (bactive_ok m y y9 hy9 hb.is.hn hb.is.n.2) rfl rfl rfl rfl (pqY)) ?_
    rintro _ _ ⟨_, ⟨rfl, rfl⟩, rfl⟩
    rw [← ea9]
    refine WL_val rfl rfl rfl (R_move rfl rfl) ?_
    refine WL_val rfl rfl rfl (R_extract rfl rfl rfl) ?_
    refine WL_val rfl rfl rfl (R_extract rfl rfl rfl) ?_
    refine WL_val rfl rfl rfl (R_assign rfl rfl) ?_
    refine WL_val rfl rfl rfl (R_assign rfl rfl) ?_
    refine WL_nil ?_
    refine WQ_code ?_
    refine WC_seq ?_
    refine WC_seq ?_
    refine WC_region ?_
    refine WL_val rfl rfl rfl (R_move rfl rfl) ?_
    refine WL_val rfl rfl rfl (R_fieldAddr rfl fa45_1 rfl) ?_
    refine WL_val rfl rfl rfl (R_load rfl sc42 rfl (mmY) rfl) ?_
    refine WL_val rfl rfl rfl (R_move rfl rfl) ?_
    refine WL_val rfl rfl rfl (R_indexAddrN rfl Try.underlying42 Try.sizeOf82 rfl rfl (by omega)) ?_
    refine WL_val rfl rfl rfl (R_fieldAddr rfl fa82_2 rfl) ?_
    refine WL_val rfl rfl rfl (R_load (v := .int .i64 x9.act) rfl sc3 rfl (mmY) (fm_get0 encLB5 hx9 (j := 2) (by omega))) ?_
    refine WL_val rfl rfl rfl (R_neq rfl rfl rfl) ?_
    refine WL_val rfl rfl rfl (R_move rfl rfl) ?_
    refine WL_set (s := 42) (v := .bool false) rfl (by simp) ?_
    refine WL_val rfl rfl rfl (R_move rfl rfl) ?_
    refine WL_val rfl rfl rfl (R_neq rfl rfl rfl) ?_
    refine WL_val rfl rfl rfl (R_pickF rfl rfl rfl) ?_
    refine WL_set (s := 45) (v := .bool false) rfl (by simp) ?_
    refine WL_nil ?_
    refine WQ_code ?_
    refine WC_F rfl ?_
    refine WC_skip ?_
    refine WQ_code ?_
    refine WC_seq ?_
    refine WC_region ?_
    refine WL_val rfl rfl rfl (R_move rfl rfl) ?_
    refine WL_val rfl rfl rfl (R_move rfl rfl) ?_
    refine WL_val rfl rfl rfl (R_indexAddrN rfl Try.underlying85 Try.sizeOf4 rfl rfl (by omega)) ?_
    refine WL_val rfl rfl rfl (R_load (v := .bool (okAt l.L l.last y)) rfl sc4 rfl (mmY) (arr_get (fun i => Value.bool (okAt l.L l.last i)) (show y < l.n by omega))) ?_
    refine WL_nil ?_
    refine WQ_code ?_
    refine WC_if rfl (fun c2 => ?_) (fun c2 => ?_)
    · have hok := c2
      have hcat := cand_at (L := l.L) (now := l.last) (by omega) hok
      have hclt := (List.getElem?_eq_some_iff.1 hcat).1
      have hcb9 := candK_len l.L l.last y
      obtain ⟨w9, ho9⟩ := own9.some_of (by omega)
      have hnx9 : (candK l.L l.last (y + 1)).length = (candK l.L l.last y).length + 1 := by rw [candK_next, if_pos hok, List.length_append]; rfl
      refine WC_seq ?_
      refine WC_seq ?_
      refine WC_region ?_
      refine WL_val rfl rfl rfl (R_move rfl rfl) ?_
      refine WL_val rfl rfl rfl (R_move rfl rfl) ?_
      refine WL_val rfl rfl rfl (R_len rfl Try.underlying26 rfl) ?_
      refine WL_val rfl rfl rfl (R_geq rfl rfl rfl) ?_
      refine WL_val rfl rfl rfl (R_move rfl rfl) ?_
      refine WL_set (s := 54) (v := .bool false) rfl (by exact congrArg Value.bool (decide_eq_false (by omega))) ?_
      refine WL_val rfl rfl rfl (R_move rfl rfl) ?_
      refine WL_val rfl rfl rfl (R_move rfl rfl) ?_
      refine WL_val rfl rfl rfl (R_idxO ho9 rfl Try.underlying26 Try.sizeOf3 rfl rfl (by omega)) ?_
      refine WL_val rfl rfl rfl (R_loadO (v := .int .i64 (y : Int)) ho9 rfl sc3 rfl (mmY) (fm_get0 encI1 hcat (j := 0) (by omega))) ?_
      refine WL_val rfl rfl rfl (R_move rfl rfl) ?_
      refine WL_val rfl rfl rfl (R_neq rfl rfl rfl) ?_
      refine WL_val rfl rfl rfl (R_pickF rfl rfl rfl) ?_
      refine WL_set (s := 61) (v := .bool false) rfl (by simp) ?_
      refine WL_nil ?_
      refine WQ_code ?_
      refine WC_F rfl ?_
      refine WC_skip ?_
      refine WQ_code ?_
      refine WC_region ?_
      refine WL_val rfl rfl rfl (R_move rfl rfl) ?_
      refine WL_val rfl rfl rfl (R_add rfl rfl rfl (by omega)) ?_
      refine WL_val rfl rfl rfl (R_assign rfl rfl) ?_
      refine WL_nil ?_
      refine WQ_code ?_
      refine WC_region ?_
      refine WL_val rfl rfl rfl (R_move rfl rfl) ?_
      refine WL_val rfl rfl rfl (R_add rfl rfl rfl (by omega)) ?_
      refine WL_val rfl rfl rfl (R_assign rfl rfl) ?_
      refine WL_nil ?_
      refine WQ_nextF (y + 1) (by omega) (by omega) leZ (psZ) rfl (pqY)
    · have hnok := c2
      have hnx9 : (candK l.L l.last (y + 1)).length = (candK l.L l.last y).length := by rw [candK_next, hnok, if_neg (by decide), List.append_nil]
      have hcb9 := candK_len l.L l.last y
      refine WC_skip ?_
      refine WQ_code ?_
      refine WC_region ?_
      refine WL_val rfl rfl rfl (R_move rfl rfl) ?_
      refine WL_val rfl rfl rfl (R_add rfl rfl rfl (by omega)) ?_
      refine WL_val rfl rfl rfl (R_assign rfl rfl) ?_
      refine WL_nil ?_
      refine WQ_nextF (y + 1) (by omega) (by omega) leZ (psZ) rfl (pqY)
  · have hyn : y = l.L.length := by omega
    have hat9 : (candK l.L l.last y).length = (cand l.L l.last).length := by rw [hyn]
    refine WC_exit ?_
    refine WQ_code ?_
    refine WC_seq ?_
    refine WC_region ?_
    refine WL_val rfl rfl rfl (R_move rfl rfl) ?_
    refine WL_val rfl rfl rfl (R_fieldAddr rfl fa45_1 rfl) ?_
    refine WL_val rfl rfl rfl (R_load rfl sc42 rfl (mmY) rfl) ?_
    refine WL_val rfl rfl rfl (R_len rfl Try.underlying42 rfl) ?_
    refine WL_do rfl rfl rfl (D_call (bactive_bad m (l.n : Int) (.inr (by omega))) rfl rfl rfl rfl (pqY)) ?_
    rintro _ _ ⟨_, ⟨rfl, rfl⟩, rfl⟩
    refine WL_val rfl rfl rfl (R_move rfl rfl) ?_
    refine WL_val rfl rfl rfl (R_extract rfl rfl rfl) ?_
    refine WL_val rfl rfl rfl (R_extract rfl rfl rfl) ?_
    refine WL_val rfl rfl rfl (R_assign rfl rfl) ?_
    refine WL_val rfl rfl rfl (R_assign rfl rfl) ?_
    refine WL_nil ?_
    refine WQ_code ?_
    refine WC_seq ?_
    refine WC_region ?_
    refine WL_val rfl rfl rfl (R_move rfl rfl) ?_
    refine WL_val rfl rfl rfl (R_move rfl rfl) ?_
    refine WL_val rfl rfl rfl (R_len rfl Try.underlying26 rfl) ?_
    refine WL_val rfl rfl rfl (R_eql rfl rfl rfl) ?_
    refine WL_val rfl rfl rfl (R_move rfl rfl) ?_
    refine WL_set (s := 76) (v := .bool true) rfl (by exact congrArg Value.bool (decide_eq_true (by omega))) ?_
    refine WL_val rfl rfl rfl (R_move rfl rfl) ?_
    refine WL_val rfl rfl rfl (R_eql rfl rfl rfl) ?_
    refine WL_val rfl rfl rfl (R_pickT rfl rfl rfl) ?_
    refine WL_set (s := 79) (v := .bool true) rfl (by simp) ?_
    refine WL_val rfl rfl rfl (R_move rfl rfl) ?_
    refine WL_val rfl rfl rfl (R_move rfl rfl) ?_
    refine WL_val rfl rfl rfl (R_eql rfl rfl rfl) ?_
    refine WL_val rfl rfl rfl (R_pickT rfl rfl rfl) ?_
    refine WL_set (s := 83) (v := .bool true) rfl (by simp) ?_
    refine WL_val rfl rfl rfl (R_assign rfl rfl) ?_
    refine WL_nil ?_
    refine WQ_code ?_
    refine WC_ret ?_
    refine WQ_ret rfl rfl (.cons (.tmp rfl) .nil) rfl (by
        exact ⟨rfl, rfl⟩) (pqY)

end Go.Proofs.Ytiokpmgbabpikaa
