/-
  Chapter 07 (slot), part Play: contracts of functions that the laws call, each for the heap it names.
-/
import Derived.Test.YtnolalkkdigcbaaRows
import Derived.Test.YtnolalkkdigcbaaSLArr
import Derived.Test.YtnolalkkdigcbaaTab
import Derived.Test.YtnolalkkdigcbaaDoB
import Derived.Test.YtnolalkkdigcbaaKnown
import Derived.Test.YtnolalkkdigcbaaTurn
set_option linter.unusedVariables false
set_option maxRecDepth 20000
set_option maxHeartbeats 1000000
namespace Go.Proofs.Ytnolalkkdigcbaa


structure Act where
  what : Int
  value : Int
  fn : Int
  fg : Int
def encA (a : Act) : List Value := [.int .i64 a.what, .int .i64 a.value, .int .i64 a.fn, .int .i64 a.fg]
/-- What one call leaves: tables that are alike. -/
def DoQ (n k : Nat) (r : Value) (H' : Heap) : Prop := ∃ p pb c tl T W, T.length = n ∧ Fine T ∧ Alike T W ∧ W.length ≤ k + 1 ∧ DoP p pb c tl T (n : Int) W r H'
theorem alike_given {T : List Pl} {W : List Fl} (hA : Alike T W) (hlen : W.length ≤ 1000) : ∀ x ∈ T, 0 ≤ x.given ∧ x.given ≤ 1000 := fun x hx => by
  obtain ⟨i, hi⟩ := List.mem_iff_getElem?.1 hx
  rw [hA.cnt i x hi]
  have : cnt W (i : Int) ≤ W.length := cntTo_le W (i : Int) W.length
  omega
theorem alike_fine {T : List Pl} {W : List Fl} (hA : Alike T W) (hlen : W.length ≤ 1000) (ne : T ≠ []) (h : T.length ≤ 128) : Fine T :=
  ⟨ne, h, fun x hx => by have := alike_given hA hlen x hx; omega⟩
theorem set_ne {T : List Pl} (h : T ≠ []) (i : Nat) (y : Pl) : T.set i y ≠ [] := fun e => h (by rw [List.set_eq_nil_iff] at e; exact e)
theorem do_any (p pb c : Nat) (tl : List Value) (T : List Pl) (hT : Fine T) (ob : Option Nat) (cw : Nat) (W : List Fl) (tw : List Value) (hown : Own ob W.length cw 4 (W.flatMap encL) tw) (hA : Alike T W) (hlen : W.length ≤ 999) (a : Act) :
    Spec Try.prog 11 [ptr p, refV (T.length : Int) ob W.length cw, .agg (encA a).toArray] (tabH p pb c tl T ++ [⟨ob, cl (W.flatMap encL ++ tw) 44⟩]) (DoQ T.length W.length) := by
  obtain ⟨what, value, fn, fg⟩ := a
  have hlen' : W.length ≤ 1000 := by omega
  have same : ∀ r H', DoP p pb c tl T (T.length : Int) W r H' → DoQ T.length W.length r H' := fun r H' h => ⟨p, pb, c, tl, T, W, rfl, hT, hA, by omega, h⟩
  have upd : ∀ (i : Nat) (x y : Pl) (j : Nat) (f : Fl), T[i]? = some x → x.opn = true → Open1 W (i : Int) j ⟨i, x.given - 1, x.value, false⟩ → y.given = x.given → f = ⟨i, y.given - 1, y.value, !y.opn⟩ →
      ∀ r H', DoP p pb c tl (T.set i y) (T.length : Int) (W.set j f) r H' → DoQ T.length W.length r H' := fun i x y j f hx ho hj hy hf r H' h => by
    have hA' := alike_upd hA hx ho hj hy hf
    exact ⟨p, pb, c, tl, T.set i y, W.set j f, List.length_set, alike_fine hA' (by rw [List.length_set]; exact hlen') (set_ne hT.ne _ _) (by rw [List.length_set]; exact hT.len), hA', by rw [List.length_set]; omega, h⟩
  by_cases h0 : what = 0
  · subst h0
    rcases closed_or T with h | ⟨i, x, hx, ho, hl⟩
    · exact (do_open_full p pb c tl T hT ob cw W tw hown hA hlen' value fn fg h).mono same
    · refine (do_open_at p pb c tl T hT ob cw W tw hown hA hlen' value fn fg i x hx ho hl).mono fun r H' h => ?_
      have hA' := alike_open hA hx ho value
      exact ⟨p, pb, c, tl, _, _, List.length_set, alike_fine hA' (by rw [List.length_append, List.length_singleton]; omega) (set_ne hT.ne _ _) (by rw [List.length_set]; exact hT.len), hA', by rw [List.length_append, List.length_singleton]; exact Nat.le_refl _, h⟩
  by_cases h1 : what = 1
  · subst h1
    by_cases h : ∃ i x, OpenAt T fn fg i x
    · obtain ⟨i, x, h⟩ := h
      obtain ⟨j, hj, hg⟩ := hA.some h
      refine (do_close_yes p pb c tl T hT ob cw W tw hown hA hlen' value fn fg i x h j hj hg).mono ?_
      obtain ⟨rfl, hx, ho, _⟩ := h
      exact upd i x { x with opn := false } j _ hx ho hj rfl rfl
    · exact (do_close_no p pb c tl T hT ob cw W tw hown hA hlen' value fn fg (fun i x e => h ⟨i, x, e⟩)).mono same
  by_cases h2 : what = 2
  · subst h2
    by_cases h : ∃ i x, OpenAt T fn fg i x
    · obtain ⟨i, x, h⟩ := h
      obtain ⟨j, hj, hg⟩ := hA.some h
      exact (do_get_yes p pb c tl T hT ob cw W tw hown hA hlen' value fn fg i x h j hj hg).mono same
    · exact (do_get_no p pb c tl T hT ob cw W tw hown hA hlen' value fn fg (fun i x e => h ⟨i, x, e⟩)).mono same
  by_cases h3 : what = 3
  · subst h3
    by_cases h : ∃ i x, OpenAt T fn fg i x
    · obtain ⟨i, x, h⟩ := h
      obtain ⟨j, hj, hg⟩ := hA.some h
      refine (do_set_yes p pb c tl T hT ob cw W tw hown hA hlen' value fn fg i x h j hj hg).mono ?_
      obtain ⟨rfl, hx, ho, _⟩ := h
      exact upd i x { x with value := value } j _ hx ho hj rfl (by simp [ho])
    · exact (do_set_no p pb c tl T hT ob cw W tw hown hA hlen' value fn fg (fun i x e => h ⟨i, x, e⟩)).mono same
  by_cases h45 : what = 4 ∨ what = 5
  · by_cases h : ∃ (i : Nat) (x : Pl), fn = (i : Int) ∧ T[i]? = some x ∧ x.opn = true
    · obtain ⟨i, x, hfn, hx, ho⟩ := h
      obtain ⟨j, hj⟩ := hA.yes i x hx ho
      rcases h45 with rfl | rfl
      · exact (do_at4_yes p pb c tl T hT ob cw W tw hown hA hlen' value fn fg i x hfn hx ho j hj).mono same
      · exact (do_at5_yes p pb c tl T hT ob cw W tw hown hA hlen' value fn fg i x hfn hx ho j hj).mono (upd i x { x with opn := false } j _ hx ho hj rfl rfl)
    · have hc : ∀ (i : Nat) (x : Pl), fn = (i : Int) → T[i]? = some x → x.opn = false := fun i x e hx => by
        cases ho : x.opn with
        | false => rfl
        | true => exact absurd ⟨i, x, e, hx, ho⟩ h
      have hno : NoOpen W fn := by
        by_cases hr : fn < 0 ∨ (T.length : Int) ≤ fn
        · exact hA.out fn hr
        · obtain ⟨i, rfl⟩ := Int.eq_ofNat_of_zero_le (show 0 ≤ fn by omega)
          obtain ⟨x, hx⟩ := ex_of (T := T) (i := i) (by omega)
          exact hA.no i x hx (hc i x rfl hx)
      rcases h45 with rfl | rfl
      · exact (do_at4_no p pb c tl T hT ob cw W tw hown hA hlen' value fn fg hc hno).mono same
      · exact (do_at5_no p pb c tl T hT ob cw W tw hown hA hlen' value fn fg hc hno).mono same
  refine (do_copy p pb c tl T hT ob cw W tw hown hA hlen' value fn fg what h0 h1 h2 h3 (fun e => h45 (.inl e)) (fun e => h45 (.inr e)) (fun x hx => (alike_given hA hlen' x hx).2)).mono fun r H' h => ?_
  obtain ⟨p2, pb2, c2, tl2, h⟩ := h
  exact ⟨p2, pb2, c2, tl2, T, W, rfl, hT, hA, by omega, h⟩
structure St where
  k : Nat
  p : Nat
  pb : Nat
  c : Nat
  tl : List Value
  T : List Pl
  ob : Option Nat
  cw : Nat
  W : List Fl
  tw : List Value
structure StOk (n : Nat) (s : St) : Prop where
  len : s.T.length = n
  fine : Fine s.T
  alike : Alike s.T s.W
  own : Own s.ob s.W.length s.cw 4 (s.W.flatMap encL) s.tw
  few : s.W.length ≤ s.k
theorem alike_fresh (n : Nat) : Alike (freshT n) [] := by
  refine ⟨fun k x hx ho => ?_, fun k x hx ho i y hy => by simp at hy, fun n hn i y hy => by simp at hy, fun k x hx => ?_⟩
  · obtain ⟨_, rfl⟩ := List.mem_replicate.1 (List.mem_of_getElem? hx)
    cases ho
  · obtain ⟨_, rfl⟩ := List.mem_replicate.1 (List.mem_of_getElem? hx)
    rfl
theorem fresh_fine (n : Nat) (h1 : 1 ≤ n) (h2 : n ≤ 128) : Fine (freshT n) := by rw [← T1_zero]; exact T1_fine n 0 h1 h2
theorem plays_long (most : Int) (oa : Option Addr) (n c : Nat) (h : 60 < n) (hb : (n : Int) ≤ 9223372036854775807) : Spec Try.prog 5 [.int .i64 most, .slice oa n c] [] (fun r H' => r = .bool true ∧ H' = []) := by
  refine Spec.of (E := [(0, .int .i64 most), (1, .slice oa n c)]) Try.func5 rfl (by kernel_rfl) Try.ntmps5 rfl rfl (fun w => ?_)
  refine WC_seq ?_
  refine WC_region ?_
  refine WL_val rfl rfl rfl (R_assign rfl rfl) ?_
  refine WL_nil ?_
  refine WQ_code ?_
  refine WC_seq ?_
  refine WC_seq ?_
  refine WC_region ?_
  refine WL_val rfl rfl rfl (R_move rfl rfl) ?_
  refine WL_val rfl rfl rfl (R_len rfl Try.underlying22 rfl) ?_
  refine WL_val rfl rfl rfl (R_gtr rfl rfl rfl) ?_
  refine WL_nil ?_
  refine WQ_code ?_
  refine WC_dT rfl (by omega) ?_
  refine WC_seq ?_
  refine WC_region ?_
  refine WL_do rfl rfl rfl (D_call (known_ok) rfl rfl rfl rfl (by repeat (first | exact Pulls.nil | exact Pulls.all | (apply Pulls.cons; (repeat (first | exact Pull.head | apply Pull.tail))) | apply Pulls.skip))) ?_
  rintro _ _ ⟨_, ⟨rfl, rfl⟩, rfl⟩
  refine WL_val rfl rfl rfl (R_assign rfl rfl) ?_
  refine WL_nil ?_
  refine WQ_code ?_
  refine WC_ret ?_
  refine WQ_ret rfl rfl (.cons (.tmp rfl) .nil) rfl (by
      exact ⟨rfl, rfl⟩) (by repeat (first | exact Pulls.nil | exact Pulls.all | (apply Pulls.cons; (repeat (first | exact Pull.head | apply Pull.tail))) | apply Pulls.skip))
theorem plays_bad (most : Int) (hm : most < 1 ∨ 128 < most) (oa : Option Addr) (n c : Nat) (h : n ≤ 60) : Spec Try.prog 5 [.int .i64 most, .slice oa n c] [] (fun r H' => r = .bool true ∧ H' = []) := by
  refine Spec.of (E := [(0, .int .i64 most), (1, .slice oa n c)]) Try.func5 rfl (by kernel_rfl) Try.ntmps5 rfl rfl (fun w => ?_)
  refine WC_seq ?_
  refine WC_region ?_
  refine WL_val rfl rfl rfl (R_assign rfl rfl) ?_
  refine WL_nil ?_
  refine WQ_code ?_
  refine WC_seq ?_
  refine WC_seq ?_
  refine WC_region ?_
  refine WL_val rfl rfl rfl (R_move rfl rfl) ?_
  refine WL_val rfl rfl rfl (R_len rfl Try.underlying22 rfl) ?_
  refine WL_val rfl rfl rfl (R_gtr rfl rfl rfl) ?_
  refine WL_nil ?_
  refine WQ_code ?_
  refine WC_dF rfl (by omega) ?_
  refine WC_skip ?_
  refine WQ_code ?_
  refine WC_seq ?_
  refine WC_region ?_
  refine WL_val rfl rfl rfl (R_move rfl rfl) ?_
  refine WL_do rfl rfl rfl (D_call (new_bad most hm) rfl rfl rfl rfl (by repeat (first | exact Pulls.nil | exact Pulls.all | (apply Pulls.cons; (repeat (first | exact Pull.head | apply Pull.tail))) | apply Pulls.skip))) ?_
  rintro _ _ ⟨_, ⟨rfl, rfl⟩, rfl⟩
  refine WL_val rfl rfl rfl (R_move rfl rfl) ?_
  refine WL_val rfl rfl rfl (R_extract rfl rfl rfl) ?_
  refine WL_val rfl rfl rfl (R_extract rfl rfl rfl) ?_
  refine WL_val rfl rfl rfl (R_assign rfl rfl) ?_
  refine WL_val rfl rfl rfl (R_assign rfl rfl) ?_
  refine WL_nil ?_
  refine WQ_code ?_
  refine WC_seq ?_
  refine WC_region ?_
  refine WL_val rfl rfl rfl (R_move rfl rfl) ?_
  refine WL_do rfl rfl rfl (D_call (rnew_bad most hm) rfl rfl rfl rfl (by repeat (first | exact Pulls.nil | exact Pulls.all | (apply Pulls.cons; (repeat (first | exact Pull.head | apply Pull.tail))) | apply Pulls.skip))) ?_
  rintro _ _ ⟨_, ⟨rfl, rfl⟩, rfl⟩
  refine WL_val rfl rfl rfl (R_move rfl rfl) ?_
  refine WL_val rfl rfl rfl (R_extract rfl rfl rfl) ?_
  refine WL_val rfl rfl rfl (R_extract rfl rfl rfl) ?_
  refine WL_do rfl rfl rfl (D_alloc rfl zv30) ?_
  rintro _ _ ⟨b1, rfl, rfl⟩
  refine WL_do0 rfl rfl (D_store (vs := [_, _]) rfl Try.sizeOf30 rfl rfl rfl rfl rfl (by repeat (first | exact Pull.head | apply Pull.tail)) (by exact Nat.le_of_ble_eq_true rfl)) ?_
  rintro _ _ rfl
  refine WL_val rfl rfl rfl (R_assign rfl rfl) ?_
  refine WL_nil ?_
  refine WQ_code ?_
  refine WC_seq ?_
  refine WC_seq ?_
  refine WC_region ?_
  refine WL_val rfl rfl rfl (R_move rfl rfl) ?_
  refine WL_val rfl rfl rfl (R_move rfl rfl) ?_
  refine WL_val rfl rfl rfl (R_neq rfl rfl rfl) ?_
  refine WL_val rfl rfl rfl (R_move rfl rfl) ?_
  refine WL_set (s := 29) (v := .bool false) rfl (by simp) ?_
  refine WL_val rfl rfl rfl (R_move rfl rfl) ?_
  refine WL_val rfl rfl rfl (R_ptrEqNil rfl Try.underlying24 rfl) ?_
  refine WL_val rfl rfl rfl (R_move rfl rfl) ?_
  refine WL_val rfl rfl rfl (R_neq rfl rfl rfl) ?_
  refine WL_val rfl rfl rfl (R_boolNe rfl Try.underlying4 rfl rfl) ?_
  refine WL_val rfl rfl rfl (R_pickF rfl rfl rfl) ?_
  refine WL_nil ?_
  refine WQ_code ?_
  refine WC_F rfl ?_
  refine WC_skip ?_
  refine WQ_code ?_
  refine WC_seq ?_
  refine WC_seq ?_
  refine WC_region ?_
  refine WL_val rfl rfl rfl (R_move rfl rfl) ?_
  refine WL_val rfl rfl rfl (R_ptrEqNil rfl Try.underlying24 rfl) ?_
  refine WL_nil ?_
  refine WQ_code ?_
  refine WC_T rfl ?_
  refine WC_seq ?_
  refine WC_region ?_
  refine WL_do rfl rfl rfl (D_call (known_ok) rfl rfl rfl rfl (by repeat (first | exact Pulls.nil | exact Pulls.all | (apply Pulls.cons; (repeat (first | exact Pull.head | apply Pull.tail))) | apply Pulls.skip))) ?_
  rintro _ _ ⟨_, ⟨rfl, rfl⟩, rfl⟩
  refine WL_val rfl rfl rfl (R_assign rfl rfl) ?_
  refine WL_nil ?_
  refine WQ_code ?_
  refine WC_ret ?_
  refine WQ_ret rfl rfl (.cons (.tmp rfl) .nil) rfl (by
      exact ⟨rfl, rfl⟩) (by repeat (first | exact Pulls.nil | exact Pulls.all | (apply Pulls.cons; (repeat (first | exact Pull.head | apply Pull.tail))) | apply Pulls.skip))
theorem plays_ok (m : Nat) (hm1 : 1 ≤ m) (hm2 : m ≤ 128) (oa : Option Addr) (ent : Ent) (l : List Act) (c : Nat) (ha : Arg oa ent 4 encA l) (h : l.length ≤ 60) :
    Spec Try.prog 5 [.int .i64 (m : Int), .slice oa l.length c] [ent] (fun r H' => r = .bool true ∧ H' = [ent]) := by
  refine Spec.of (E := [(0, .int .i64 (m : Int)), (1, .slice oa l.length c)]) Try.func5 rfl (by kernel_rfl) Try.ntmps5 rfl rfl (fun w => ?_)
  refine WC_seq ?_
  refine WC_region ?_
  refine WL_val rfl rfl rfl (R_assign rfl rfl) ?_
  refine WL_nil ?_
  refine WQ_code ?_
  refine WC_seq ?_
  refine WC_seq ?_
  refine WC_region ?_
  refine WL_val rfl rfl rfl (R_move rfl rfl) ?_
  refine WL_val rfl rfl rfl (R_len rfl Try.underlying22 rfl) ?_
  refine WL_val rfl rfl rfl (R_gtr rfl rfl rfl) ?_
  refine WL_nil ?_
  refine WQ_code ?_
  refine WC_dF rfl (by omega) ?_
  refine WC_skip ?_
  refine WQ_code ?_
  refine WC_seq ?_
  refine WC_region ?_
  refine WL_val rfl rfl rfl (R_move rfl rfl) ?_
  refine WL_do rfl rfl rfl (D_call (new_ok m hm1 hm2) rfl rfl rfl rfl (by repeat (first | exact Pulls.nil | exact Pulls.all | (apply Pulls.cons; (repeat (first | exact Pull.head | apply Pull.tail))) | apply Pulls.skip))) ?_
  rintro _ _ ⟨_, ⟨p, pb, rfl, rfl⟩, rfl⟩
  refine WL_val rfl rfl rfl (R_move rfl rfl) ?_
  refine WL_val rfl rfl rfl (R_extract rfl rfl rfl) ?_
  refine WL_val rfl rfl rfl (R_extract rfl rfl rfl) ?_
  refine WL_val rfl rfl rfl (R_assign rfl rfl) ?_
  refine WL_val rfl rfl rfl (R_assign rfl rfl) ?_
  refine WL_nil ?_
  refine WQ_code ?_
  refine WC_seq ?_
  refine WC_region ?_
  refine WL_val rfl rfl rfl (R_move rfl rfl) ?_
  refine WL_do rfl rfl rfl (D_call (rnew_ok m (by omega) (by omega)) rfl rfl rfl rfl (by repeat (first | exact Pulls.nil | exact Pulls.all | (apply Pulls.cons; (repeat (first | exact Pull.head | apply Pull.tail))) | apply Pulls.skip))) ?_
  rintro _ _ ⟨_, ⟨rfl, rfl⟩, rfl⟩
  refine WL_val rfl rfl rfl (R_move rfl rfl) ?_
  refine WL_val rfl rfl rfl (R_extract rfl rfl rfl) ?_
  refine WL_val rfl rfl rfl (R_extract rfl rfl rfl) ?_
  refine WL_do rfl rfl rfl (D_alloc rfl zv30) ?_
  rintro _ _ ⟨b1, rfl, rfl⟩
  refine WL_do0 rfl rfl (D_store (vs := [_, _]) rfl Try.sizeOf30 rfl rfl rfl rfl rfl (by repeat (first | exact Pull.head | apply Pull.tail)) (by exact Nat.le_of_ble_eq_true rfl)) ?_
  rintro _ _ rfl
  refine WL_val rfl rfl rfl (R_assign rfl rfl) ?_
  refine WL_nil ?_
  refine WQ_code ?_
  refine WC_seq ?_
  refine WC_seq ?_
  refine WC_region ?_
  refine WL_val rfl rfl rfl (R_move rfl rfl) ?_
  refine WL_val rfl rfl rfl (R_move rfl rfl) ?_
  refine WL_val rfl rfl rfl (R_neq rfl rfl rfl) ?_
  refine WL_val rfl rfl rfl (R_move rfl rfl) ?_
  refine WL_set (s := 29) (v := .bool false) rfl (by simp) ?_
  refine WL_val rfl rfl rfl (R_move rfl rfl) ?_
  refine WL_val rfl rfl rfl (R_ptrEqNil rfl Try.underlying24 rfl) ?_
  refine WL_val rfl rfl rfl (R_move rfl rfl) ?_
  refine WL_val rfl rfl rfl (R_neq rfl rfl rfl) ?_
  refine WL_val rfl rfl rfl (R_boolNe rfl Try.underlying4 rfl rfl) ?_
  refine WL_val rfl rfl rfl (R_pickF rfl rfl rfl) ?_
  refine WL_nil ?_
  refine WQ_code ?_
  refine WC_F rfl ?_
  refine WC_skip ?_
  refine WQ_code ?_
  refine WC_seq ?_
  refine WC_seq ?_
  refine WC_region ?_
  refine WL_val rfl rfl rfl (R_move rfl rfl) ?_
  refine WL_val rfl rfl rfl (R_ptrEqNil rfl Try.underlying24 rfl) ?_
  refine WL_nil ?_
  refine WQ_code ?_
  refine WC_F rfl ?_
  refine WC_skip ?_
  refine WQ_code ?_
  refine WC_seq ?_
  refine WC_seq ?_
  refine WC_region ?_
  refine WL_val rfl rfl rfl (R_move rfl rfl) ?_
  refine WL_val rfl rfl rfl (R_len rfl Try.underlying22 rfl) ?_
  refine WL_val rfl rfl rfl (R_move rfl rfl) ?_
  refine WL_nil ?_
  refine WQ_code ?_
  refine WC_block ?_
  refine WC_none 44 ?_
  refine WC_loopF (G := St) [4, 5, 10, 11, 41, 42, 43, 44, 45, 46, 47, 48, 49, 50, 51, 52, 53, 54, 55, 56, 57, 58, 59, 60, 61, 62, 63, 64, 65, 66, 67, 68, 69, 70] (fun g => g.k ≤ l.length ∧ StOk m g) (fun g => [(41, .int .i64 (g.k : Int)), (5, ptr g.p)]) (fun g => ⟨some b1, cl [.int .i64 (m : Int), slV g.ob g.W.length g.cw] 30⟩ :: ⟨g.ob, cl (g.W.flatMap encL ++ g.tw) 44⟩ :: tabH g.p g.pb g.c g.tl g.T) (fun g => l.length - g.k) (⟨0, p, pb, m, [], freshT m, none, 0, [], []⟩) (⟨Nat.zero_le _, List.length_replicate, fresh_fine m hm1 hm2, alike_fresh m, Own.empty 4, Nat.le_refl _⟩) (Le.lq (by repeat (first | exact Le.nil | refine Le.cons rfl (by first | rfl | (congr 1; omega)) ?_))) (by repeat (first | exact Pulls.nil | exact Pulls.all | (apply Pulls.cons; (repeat (first | exact Pull.head | apply Pull.tail))) | apply Pulls.skip)) ?_
  rintro g ⟨hk, hg⟩
  refine WC_seq ?_
  refine WC_region ?_
  refine WL_val rfl rfl rfl (R_lss rfl rfl rfl) ?_
  refine WL_nil ?_
  refine WQ_code ?_
  refine WC_seq ?_
  refine WC_dec rfl (fun c1 => ?_) (fun c1 => ?_)
  · refine WC_skip ?_
    refine WQ_code ?_
    refine WC_seq ?_
    refine WC_block ?_
    refine WC_seq ?_
    refine WC_region ?_
    obtain ⟨a, hak⟩ := exE (T := l) (i := g.k) (by omega)
    obtain ⟨lb, lk, lcs, le, lfr, rfl, rfl, hat⟩ := ha.some (by omega)
    refine WL_val rfl rfl rfl (R_indexAddrN rfl Try.underlying22 Try.sizeOf36 rfl rfl (by omega)) ?_
    refine WL_val rfl rfl rfl (R_loadAG (vs := [.int .i64 a.what, .int .i64 a.value, .int .i64 a.fn, .int .i64 a.fg]) rfl ag36 rfl (by repeat (first | exact List.Mem.head _ | refine List.Mem.tail _ ?_)) rfl (hat g.k a hak)) ?_
    refine WL_do rfl rfl rfl (D_alloc rfl zv36) ?_
    rintro _ _ ⟨b2, rfl, rfl⟩
    refine WL_do0 rfl rfl (D_store (vs := [_, _, _, _]) rfl Try.sizeOf36 rfl rfl rfl rfl rfl (by repeat (first | exact Pull.head | apply Pull.tail)) (by exact Nat.le_of_ble_eq_true rfl)) ?_
    rintro _ _ rfl
    refine WL_nil ?_
    refine WQ_code ?_
    refine WC_seq ?_
    refine WC_region ?_
    refine WL_val rfl rfl rfl (R_assign rfl rfl) ?_
    refine WL_nil ?_
    refine WQ_code ?_
    refine WC_seq ?_
    refine WC_region ?_
    refine WL_val rfl rfl rfl (R_move rfl rfl) ?_
    refine WL_val rfl rfl rfl (R_loadA (vs := [_, _]) rfl ag30 rfl (by repeat (first | exact List.Mem.head _ | refine List.Mem.tail _ ?_)) rfl (by repeat (first | exact At.nil | refine At.cons ?_ | refine At.succ ?_))) ?_
    refine WL_val rfl rfl rfl (R_loadA (vs := [_, _, _, _]) rfl ag36 rfl (by repeat (first | exact List.Mem.head _ | refine List.Mem.tail _ ?_)) rfl (by repeat (first | exact At.nil | refine At.cons ?_ | refine At.succ ?_))) ?_
    rw [show (m : Int) = (g.T.length : Int) from by rw [hg.len]]
    refine WL_do rfl rfl rfl (D_call (do_any g.p g.pb g.c g.tl g.T hg.fine g.ob g.cw g.W g.tw hg.own hg.alike (by have := hg.few; omega) a) rfl rfl rfl rfl (by repeat (first | exact Pulls.nil | exact Pulls.all | (apply Pulls.cons; (repeat (first | exact Pull.head | apply Pull.tail))) | apply Pulls.skip))) ?_
    rintro _ _ ⟨_, ⟨p2, pb2, c2, tl2, T2, W2, hl2, hf2, ha2, hw2, ob2, cw2, tw2, rfl, own2, rfl⟩, rfl⟩
    have hfl : (files T2).length = (flTo T2 T2.length).length := by rw [files, ← flTo_out, List.length_map]
    have hml : (g.T.length : Int) = (m : Int) := by rw [hg.len]
    have hml2 : (g.T.length : Int) = (T2.length : Int) := by rw [hl2]
    rw [hml2]
    refine WL_val rfl rfl rfl (R_move rfl rfl) ?_
    refine WL_val rfl rfl rfl (R_extract rfl rfl rfl) ?_
    refine WL_val rfl rfl rfl (R_extract rfl rfl rfl) ?_
    refine WL_val rfl rfl rfl (R_extract rfl rfl rfl) ?_
    refine WL_val rfl rfl rfl (R_assign rfl rfl) ?_
    refine WL_do0 rfl rfl (D_store (vs := [_, _]) rfl Try.sizeOf30 rfl rfl rfl rfl rfl (by repeat (first | exact Pull.head | apply Pull.tail)) (by exact Nat.le_of_ble_eq_true rfl)) ?_
    rintro _ _ rfl
    refine WL_val rfl rfl rfl (R_assign rfl rfl) ?_
    refine WL_nil ?_
    refine WQ_code ?_
    refine WC_seq ?_
    refine WC_draw _ [(0, true), (1, true), (2, true), (3, true), (4, true), (5, true), (6, false), (7, true), (8, true), (9, true), (10, true), (11, true), (12, true), (13, false), (14, false), (15, true), (16, true)] followsMixed rfl rfl (by kernel_rfl) .all ?_
    refine WM_val rfl rfl rfl rfl (R_move rfl rfl) ?_
    refine WM_val rfl rfl rfl rfl (R_not rfl rfl) ?_
    refine WM_val rfl rfl rfl rfl (R_move rfl rfl) ?_
    refine WM_val rfl rfl rfl rfl (R_move rfl rfl) ?_
    refine WM_call rfl (Spec.quiet (len_ok p2 pb2 c2 tl2 T2 hf2)) rfl rfl rfl rfl rfl rfl rfl (by repeat (first | exact Pulls.nil | exact Pulls.all | (apply Pulls.cons; (repeat (first | exact Pull.head | apply Pull.tail))) | apply Pulls.skip)) ?_
    refine WM_val rfl rfl rfl rfl (R_loadA (vs := [_, _]) rfl ag30 rfl (by repeat (first | exact List.Mem.head _ | refine List.Mem.tail _ ?_)) rfl (by repeat (first | exact At.nil | refine At.cons ?_ | refine At.succ ?_))) ?_
    refine WM_do rfl rfl rfl rfl (D_call (rfiles_ok (T2.length : Int) ob2 cw2 W2 tw2 own2 ha2 hf2.len rfl) rfl rfl rfl rfl (by repeat (first | exact Pulls.nil | exact Pulls.all | (apply Pulls.cons; (repeat (first | exact Pull.head | apply Pull.tail))) | apply Pulls.skip))) ?_
    rintro _ _ ⟨_, ⟨ob3, c3, tw3, rfl, own3, rfl⟩, rfl⟩
    refine ⟨⟨_, by repeat (first | exact Pulls.nil | exact Pulls.all | (apply Pulls.cons; (repeat (first | exact Pull.head | apply Pull.tail))) | apply Pulls.skip)⟩, ?_⟩
    refine WM_val rfl rfl rfl rfl (R_len rfl Try.underlying28 rfl) ?_
    refine WM_val rfl rfl rfl rfl (R_neq rfl rfl rfl) ?_
    refine WM_val rfl rfl rfl rfl (R_pickF rfl rfl rfl) ?_
    refine WM_val rfl rfl rfl rfl (R_move rfl rfl) ?_
    refine WM_set (s := 63) (v := .bool false) rfl (by simp [hfl]) ?_
    refine WM_val rfl rfl rfl rfl (R_move rfl rfl) ?_
    refine WM_val rfl rfl rfl rfl (R_loadA (vs := [_, _]) rfl ag30 rfl (by repeat (first | exact List.Mem.head _ | refine List.Mem.tail _ ?_)) rfl (by repeat (first | exact At.nil | refine At.cons ?_ | refine At.succ ?_))) ?_
    refine WM_do rfl rfl rfl rfl (D_call (rfiles_ok (T2.length : Int) ob2 cw2 W2 tw2 own2 ha2 hf2.len rfl) rfl rfl rfl rfl (by repeat (first | exact Pulls.nil | exact Pulls.all | (apply Pulls.cons; (repeat (first | exact Pull.head | apply Pull.tail))) | apply Pulls.skip))) ?_
    rintro _ _ ⟨_, ⟨ob3, c3, tw3, rfl, own3, rfl⟩, rfl⟩
    refine ⟨⟨_, by repeat (first | exact Pulls.nil | exact Pulls.all | (apply Pulls.cons; (repeat (first | exact Pull.head | apply Pull.tail))) | apply Pulls.skip)⟩, ?_⟩
    refine WM_do rfl rfl rfl rfl (D_call (lall_ok p2 pb2 c2 tl2 T2 hf2 _ _ (flTo T2 T2.length) _ (by assumption) (flTo_out T2 T2.length)) rfl rfl rfl rfl (by repeat (first | exact Pulls.nil | exact Pulls.all | (apply Pulls.cons; (repeat (first | exact Pull.head | apply Pull.tail))) | apply Pulls.skip))) ?_
    rintro _ _ ⟨_, ⟨rfl, rfl⟩, rfl⟩
    refine ⟨⟨_, by repeat (first | exact Pulls.nil | exact Pulls.all | (apply Pulls.cons; (repeat (first | exact Pull.head | apply Pull.tail))) | apply Pulls.skip)⟩, ?_⟩
    refine WM_val rfl rfl rfl rfl (R_not rfl rfl) ?_
    refine WM_val rfl rfl rfl rfl (R_pickF rfl rfl rfl) ?_
    refine WM_nil ?_
    refine WQ_code ?_
    refine WC_F rfl ?_
    refine WC_skip ?_
    refine WQ_code ?_
    refine WC_region ?_
    refine WL_val rfl rfl rfl (R_add rfl rfl rfl (by omega)) ?_
    refine WL_val rfl rfl rfl (R_move rfl rfl) ?_
    refine WL_nil ?_
    rw [← hml2, hml]
    refine WQ_nextF (⟨g.k + 1, p2, pb2, c2, tl2, T2, ob2, cw2, W2, tw2⟩) (⟨by dsimp only; omega, hl2.trans hg.len, hf2, ha2, own2, by have := hg.few; dsimp only; omega⟩) (by dsimp only; omega) (Le.lq (by repeat (first | exact Le.nil | refine Le.cons rfl (by first | rfl | (congr 1; omega)) ?_))) (by repeat (first | exact Pushed.refl | refine Pushed.push rfl ?_)) rfl (by repeat (first | exact Pulls.nil | exact Pulls.all | (apply Pulls.cons; (repeat (first | exact Pull.head | apply Pull.tail))) | apply Pulls.skip))
  · refine WC_exit ?_
    refine WQ_code ?_
    refine WC_seq ?_
    refine WC_region ?_
    refine WL_do rfl rfl rfl (D_call (known_ok) rfl rfl rfl rfl (by repeat (first | exact Pulls.nil | exact Pulls.all | (apply Pulls.cons; (repeat (first | exact Pull.head | apply Pull.tail))) | apply Pulls.skip))) ?_
    rintro _ _ ⟨_, ⟨rfl, rfl⟩, rfl⟩
    refine WL_val rfl rfl rfl (R_assign rfl rfl) ?_
    refine WL_nil ?_
    refine WQ_code ?_
    refine WC_ret ?_
    refine WQ_ret rfl rfl (.cons (.tmp rfl) .nil) rfl (by
        exact ⟨rfl, rfl⟩) (by repeat (first | exact Pulls.nil | exact Pulls.all | (apply Pulls.cons; (repeat (first | exact Pull.head | apply Pull.tail))) | apply Pulls.skip))

end Go.Proofs.Ytnolalkkdigcbaa
