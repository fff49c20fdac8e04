/-
  Chapter 02 (heap), part HeapS: contracts of functions that the laws call, each for the heap it names.
-/
import Derived.Test.YtliffiahoolemaaRows
import Derived.Test.YtliffiahoolemaaSLPhase
import Derived.Test.YtliffiahoolemaaSLInt
import Derived.Test.YtliffiahoolemaaTab
import Derived.Test.YtliffiahoolemaaHeapV
import Derived.Test.YtliffiahoolemaaSortL
set_option linter.unusedVariables false
set_option maxRecDepth 20000
set_option maxHeartbeats 2000000
namespace Go.Proofs.Ytliffiahoolemaa


/-! the order of elements: by their keys, equal ones as they were pushed -/
def lt2 (a b : WE) : Prop := a.k < b.k ∨ (a.k = b.k ∧ a.s < b.s)
instance (a b : WE) : Decidable (lt2 a b) := inferInstanceAs (Decidable (_ ∨ _))
theorem lt2_irrefl (a : WE) : ¬ lt2 a a := by unfold lt2; omega
theorem lt2_trans {a b c : WE} (h1 : lt2 a b) (h2 : lt2 b c) : lt2 a c := by unfold lt2 at *; omega
theorem lt2_asymm {a b : WE} (h1 : lt2 a b) (h2 : lt2 b a) : False := by unfold lt2 at *; omega
structure IsOrd (W O : List WE) : Prop where
  perm : O.Perm W
  ord : O.Pairwise lt2
theorem IsOrd.one : ∀ {W A B : List WE}, IsOrd W A → IsOrd W B → A = B
  | W, [], B, ha, hb => by
    have h := hb.perm.trans ha.perm.symm
    exact (List.perm_nil.1 h).symm
  | W, a :: A, [], ha, hb => by
    have h := ha.perm.trans hb.perm.symm
    exact (List.perm_nil.1 h)
  | W, a :: A, b :: B, ha, hb => by
    have hp := ha.perm.trans hb.perm.symm
    obtain ⟨h1, h2⟩ := List.pairwise_cons.1 ha.ord
    obtain ⟨h3, h4⟩ := List.pairwise_cons.1 hb.ord
    have e : a = b := by
      have ma := hp.mem_iff.1 (List.mem_cons_self (a := a) (l := A))
      have mb := hp.mem_iff.2 (List.mem_cons_self (a := b) (l := B))
      rcases List.mem_cons.1 ma with e | m1
      · exact e
      · rcases List.mem_cons.1 mb with e | m2
        · exact e.symm
        · exact (lt2_asymm (h1 b m2) (h3 a m1)).elim
    subst e
    rw [IsOrd.one (W := A) ⟨.refl _, h2⟩ ⟨(List.Perm.cons_inv hp).symm, h4⟩]
theorem IsOrd.nodup {W O : List WE} (h : IsOrd W O) (hn : (hds W).Nodup) : (hds O).Nodup := (h.perm.map (fun w : WE => w.h)).nodup_iff.2 hn
theorem IsOrd.len {W O : List WE} (h : IsOrd W O) : O.length = W.length := h.perm.length_eq
theorem ord_nil : IsOrd [] [] := ⟨.refl _, .nil⟩
/-- The elements of handles. -/
theorem Hp.els {W : List WE} {E : List El} {l l' : List Nat} {n : Nat} (hp : Hp W E l n) (p : l'.Perm l) : ∃ O : List WE, O.Perm W ∧ hds O = l' := by
  have h1 : ∀ w ∈ W, (wfind W w.h).getD ⟨w.h, 0, 0, 0⟩ = w := fun w hw => by rw [hp.find hw]; rfl
  refine ⟨l'.map (fun h => (wfind W h).getD ⟨h, 0, 0, 0⟩), ?_, ?_⟩
  · refine ((p.trans hp.perm).map _).trans ?_
    rw [hds, List.map_map]
    rw [show W.map ((fun h => (wfind W h).getD ⟨h, 0, 0, 0⟩) ∘ fun w => w.h) = W.map id from List.map_congr_left fun w hw => h1 w hw, List.map_id]
  · rw [hds, List.map_map]
    rw [show l'.map ((fun w : WE => w.h) ∘ fun h => (wfind W h).getD ⟨h, 0, 0, 0⟩) = l'.map id from List.map_congr_left fun h hh => ?_, List.map_id]
    obtain ⟨w, hw, e⟩ := (hp.mem h).1 (p.mem_iff.1 hh)
    subst e
    show ((wfind W w.h).getD ⟨w.h, 0, 0, 0⟩).h = w.h
    rw [h1 w hw]
theorem Hp.sorted {W O : List WE} {E : List El} {l : List Nat} {n : Nat} (hp : Hp W E l n) (p : O.Perm W) (hs : (hds O).Pairwise (fun a b => ¬ rk E b < rk E a)) : IsOrd W O := by
  refine ⟨p, ?_⟩
  rw [hds, List.pairwise_map] at hs
  have hn := ((p.map (fun w : WE => w.h)).nodup_iff.2 hp.nodup)
  rw [List.Nodup, List.pairwise_map] at hn
  have hb := List.pairwise_and_iff.2 ⟨hs, hn⟩
  refine List.Pairwise.imp_of_mem ?_ hb
  intro a b ma mb ⟨h1, h2⟩
  obtain ⟨x, hx, x1, x2, x3⟩ := hp.el a (p.mem_iff.1 ma)
  obtain ⟨y, hy, y1, y2, y3⟩ := hp.el b (p.mem_iff.1 mb)
  rw [rk_of hx, rk_of hy] at h1
  have b1 := hp.st.sq _ _ hx
  have b2 := hp.st.sq _ _ hy
  have hne : a.s ≠ b.s := fun e => h2 (by
    have hi := hp.inc
    rw [List.pairwise_iff_getElem] at hi
    obtain ⟨i, hil, rfl⟩ := List.mem_iff_getElem.1 (p.mem_iff.1 ma)
    obtain ⟨j, hjl, rfl⟩ := List.mem_iff_getElem.1 (p.mem_iff.1 mb)
    rcases Nat.lt_trichotomy i j with q | q | q
    · have := hi i j hil hjl q; omega
    · subst q; rfl
    · have := hi j i hjl hil q; omega)
  unfold lt2; omega
theorem ivn_map (l : List Nat) : ivn l = l.map (fun x : Nat => Value.int .i64 (x : Int)) := by
  induction l with
  | nil => rfl
  | cons x l ih => rw [ivn, List.flatMap_cons, List.map_cons, ← ih]; rfl
/-- The layout. -/
theorem hlay_x (p bx : Nat) (oe : Option Nat) (ne ce : Nat) (te : List Value) (n : Nat) (ol : Option Nat) (nl c : Nat) (tl : List Value) (E : List El) (l : List Nat) (W : List WE) (hp : Hp W E l n) (hne : E.length = ne) (hnl : l.length = nl) (hoe : Own oe ne ce 4 (E.flatMap encEl) te) (hol : Own ol nl c 1 (ivn l) tl) : Spec Try.prog 15 [ptrH p] (hH p bx oe ne ce te n ol nl c tl E l) (fun r H' => ∃ o2 c2 t2, r = slV o2 nl c2 ∧ Own o2 nl c2 1 (ivn l) t2 ∧ H' = ⟨o2, cl (ivn l ++ t2) 3⟩ :: hH p bx oe ne ce te n ol nl c tl E l) := by
  have hcp := hp.cap
  refine Spec.of (E := [(0, ptrH p)]) Try.func15 rfl (by kernel_rfl) Try.ntmps15 rfl rfl (fun w => ?_)
  refine WC_seq ?_
  refine WC_region ?_
  refine WL_val rfl rfl rfl (R_assign rfl rfl) ?_
  refine WL_nil ?_
  refine WQ_code ?_
  refine WC_seq ?_
  refine WC_seq ?_
  refine WC_region ?_
  refine WL_val rfl rfl rfl (R_move rfl rfl) ?_
  refine WL_do rfl rfl rfl (D_call (hzero_ok p bx _ _ _ _ _ _ _) rfl rfl rfl rfl (by repeat (first | exact Pulls.nil | exact Pulls.all | (apply Pulls.cons; (repeat (first | exact Pull.head | apply Pull.tail))) | apply Pulls.skip))) ?_
  rintro _ _ ⟨_, ⟨rfl, rfl⟩, rfl⟩
  refine WL_nil ?_
  refine WQ_code ?_
  refine WC_F rfl ?_
  refine WC_skip ?_
  refine WQ_code ?_
  refine WC_seq ?_
  refine WC_region ?_
  refine WL_val rfl rfl rfl (R_move rfl rfl) ?_
  refine WL_val rfl rfl rfl (R_nilCheck rfl rfl) ?_
  refine WL_val rfl rfl rfl (R_fieldAddr rfl fa59_3 rfl) ?_
  refine WL_val rfl rfl rfl (R_fieldAddr rfl fa57_0 rfl) ?_
  refine WL_val rfl rfl rfl (R_load rfl sc39 rfl (by repeat (first | exact List.Mem.head _ | refine List.Mem.tail _ ?_)) rfl) ?_
  refine WL_do rfl rfl rfl (D_call (hci_ok ol nl c (ivn l) tl hol (oneN l) (by omega)) rfl rfl rfl rfl (by repeat (first | exact Pulls.nil | exact Pulls.all | (apply Pulls.cons; (repeat (first | exact Pull.head | apply Pull.tail))) | apply Pulls.skip))) ?_
  rintro _ _ ⟨_, ⟨o3, c3, t3, rfl, own3, rfl⟩, rfl⟩
  refine WL_val rfl rfl rfl (R_assign rfl rfl) ?_
  refine WL_nil ?_
  refine WQ_code ?_
  refine WC_ret ?_
  refine WQ_ret rfl rfl (.cons (.tmp rfl) .nil) rfl (by
      exact ⟨o3, c3, t3, rfl, own3, rfl⟩) (by repeat (first | exact Pulls.nil | exact Pulls.all | (apply Pulls.cons; (repeat (first | exact Pull.head | apply Pull.tail))) | apply Pulls.skip))
theorem hlay_ok (g : HM) (W : List WE) (hg : HIs W g) : Spec Try.prog 15 [ptrH g.p] (gH g) (fun r H' => ∃ o2 c2 t2, r = slV o2 W.length c2 ∧ Own o2 W.length c2 1 (ivn g.l) t2 ∧ H' = ⟨o2, cl (ivn g.l ++ t2) 3⟩ :: gH g) := by
  obtain ⟨p, bx, oe, ne, ce, te, n, ol, nl, c, tl, E, l⟩ := g
  obtain ⟨hp, hne, hnl, hoe, hol⟩ := hg
  dsimp only at hp hne hnl hoe hol
  rw [← hp.len, hnl]
  exact hlay_x p bx oe ne ce te n ol nl c tl E l W hp hne hnl hoe hol
theorem hlay_nil : Spec Try.prog 15 [.pointer none] [] (fun r H' => r = slV none 0 0 ∧ H' = []) := by
  refine Spec.of (E := [(0, .pointer none)]) Try.func15 rfl (by kernel_rfl) Try.ntmps15 rfl rfl (fun w => ?_)
  refine WC_seq ?_
  refine WC_region ?_
  refine WL_val rfl rfl rfl (R_assign rfl rfl) ?_
  refine WL_nil ?_
  refine WQ_code ?_
  refine WC_seq ?_
  refine WC_seq ?_
  refine WC_region ?_
  refine WL_val rfl rfl rfl (R_move rfl rfl) ?_
  refine WL_do rfl rfl rfl (D_call (hzero_nil) rfl rfl rfl rfl (by repeat (first | exact Pulls.nil | exact Pulls.all | (apply Pulls.cons; (repeat (first | exact Pull.head | apply Pull.tail))) | apply Pulls.skip))) ?_
  rintro _ _ ⟨_, ⟨rfl, rfl⟩, rfl⟩
  refine WL_nil ?_
  refine WQ_code ?_
  refine WC_T rfl ?_
  refine WC_seq ?_
  refine WC_region ?_
  refine WL_val rfl rfl rfl (R_assign rfl rfl) ?_
  refine WL_nil ?_
  refine WQ_code ?_
  refine WC_ret ?_
  refine WQ_ret rfl rfl (.cons (.tmp rfl) .nil) rfl (by
      exact ⟨rfl, rfl⟩) (by repeat (first | exact Pulls.nil | exact Pulls.all | (apply Pulls.cons; (repeat (first | exact Pull.head | apply Pull.tail))) | apply Pulls.skip))
/-- The comparison of All. -/
theorem hac_ok (p bx be ne ce : Nat) (te : List Value) (n bl nl c : Nat) (tl : List Value) (E : List El) (l : List Nat) (hne : E.length = ne) (bq a b : Nat) (x y : El) (hx : E[a]? = some x) (hy : E[b]? = some y) (h1 : x.seq < 18446744073709551616) (h2 : y.seq < 18446744073709551616) :
    Spec Try.prog 39 [.int .i64 (a : Int), .int .i64 (b : Int), ptrH bq] (⟨some bq, cl [ptrH p] 23⟩ :: hR p bx be ne ce te n bl nl c tl E l) (fun r H' => r = .int .i64 (if rk E a < rk E b then -1 else 1) ∧ H' = ⟨some bq, cl [ptrH p] 23⟩ :: hR p bx be ne ce te n bl nl c tl E l) := by
  refine Spec.of (E := [(0, .int .i64 (a : Int)), (1, .int .i64 (b : Int)), (2, ptrH bq)]) Try.func39 rfl (by kernel_rfl) Try.ntmps39 rfl rfl (fun w => ?_)
  refine WC_seq ?_
  refine WC_region ?_
  refine WL_val rfl rfl rfl (R_assign rfl rfl) ?_
  refine WL_nil ?_
  refine WQ_code ?_
  refine WC_seq ?_
  refine WC_seq ?_
  refine WC_region ?_
  refine WL_val rfl rfl rfl (R_load rfl sc23 rfl (by repeat (first | exact List.Mem.head _ | refine List.Mem.tail _ ?_)) rfl) ?_
  refine WL_val rfl rfl rfl (R_nilCheck rfl rfl) ?_
  refine WL_val rfl rfl rfl (R_fieldAddr rfl fa59_3 rfl) ?_
  refine WL_val rfl rfl rfl (R_fieldAddr rfl fa57_1 rfl) ?_
  refine WL_val rfl rfl rfl (R_load rfl sc32 rfl (by repeat (first | exact List.Mem.head _ | refine List.Mem.tail _ ?_)) rfl) ?_
  refine WL_val rfl rfl rfl (R_move rfl rfl) ?_
  refine WL_val rfl rfl rfl (R_move rfl rfl) ?_
  refine WL_do rfl rfl rfl (D_call (bef_ok p bx be ne ce te n bl nl c tl E l hne a b x y hx hy h1 h2) rfl rfl rfl rfl (by repeat (first | exact Pulls.nil | exact Pulls.all | (apply Pulls.cons; (repeat (first | exact Pull.head | apply Pull.tail))) | apply Pulls.skip))) ?_
  rintro _ _ ⟨_, ⟨rfl, rfl⟩, rfl⟩
  refine WL_nil ?_
  refine WQ_code ?_
  refine WC_dec rfl (fun c1 => ?_) (fun c1 => ?_)
  · have h13 : rk E a < rk E b := c1
    refine WC_seq ?_
    refine WC_region ?_
    refine WL_val rfl rfl rfl (R_assign rfl rfl) ?_
    refine WL_nil ?_
    refine WQ_code ?_
    refine WC_ret ?_
    refine WQ_ret rfl rfl (.cons (.tmp rfl) .nil) rfl (by
        exact ⟨by rw [if_pos h13]; rfl, rfl⟩) (by repeat (first | exact Pulls.nil | exact Pulls.all | (apply Pulls.cons; (repeat (first | exact Pull.head | apply Pull.tail))) | apply Pulls.skip))
  · have h13 : ¬ rk E a < rk E b := c1
    refine WC_skip ?_
    refine WQ_code ?_
    refine WC_seq ?_
    refine WC_region ?_
    refine WL_val rfl rfl rfl (R_assign rfl rfl) ?_
    refine WL_nil ?_
    refine WQ_code ?_
    refine WC_ret ?_
    refine WQ_ret rfl rfl (.cons (.tmp rfl) .nil) rfl (by
        exact ⟨by rw [if_neg h13]; rfl, rfl⟩) (by repeat (first | exact Pulls.nil | exact Pulls.all | (apply Pulls.cons; (repeat (first | exact Pull.head | apply Pull.tail))) | apply Pulls.skip))
open Go.Shelf Go.RowKit Go.Lib Go.Sort
theorem hsort_ok (p bx : Nat) (oe : Option Nat) (ne ce : Nat) (te : List Value) (n : Nat) (ol : Option Nat) (nl c : Nat) (tl : List Value) (E : List El) (l : List Nat) (W : List WE) (hp : Hp W E l n) (hne : E.length = ne) (hnl : l.length = nl) (hoe : Own oe ne ce 4 (E.flatMap encEl) te) (hol : Own ol nl c 1 (ivn l) tl) (bq b c2 : Nat) (t2 : List Value) (h0 : 0 < nl) : Spec Try.prog 38 [slV (some b) nl c2, .func (.func 39) #[] #[ptrH bq]] (⟨some b, cl (ivn l ++ t2) 3⟩ :: ⟨some bq, cl [ptrH p] 23⟩ :: hH p bx oe ne ce te n ol nl c tl E l)
    (fun r H' => ∃ O, r = .tuple #[] ∧ IsOrd W O ∧ H' = ⟨some b, cl (ivn (hds O) ++ t2) 3⟩ :: ⟨some bq, cl [ptrH p] 23⟩ :: hH p bx oe ne ce te n ol nl c tl E l) := by
  obtain ⟨h9, hh9⟩ : ∃ h, h ∈ l := ⟨l[0]'(by omega), List.getElem_mem _⟩
  haveI : Inhabited { h : Nat // h ∈ l } := ⟨⟨h9, hh9⟩⟩
  have hcp := hp.cap
  obtain ⟨bl, rfl⟩ := hol.some_of h0
  obtain ⟨w9, x9, _, _, hx9, _⟩ := hp.in hh9
  obtain ⟨be, rfl⟩ := hoe.some_of (show 0 < ne by have := (List.getElem?_eq_some_iff.1 hx9).1; omega)
  have hs := sort_ok (enc := fun h : { h : Nat // h ∈ l } => Value.int .i64 (h.1 : Int)) lysF 38 rfl (fun h => rfl) (fun x y => if rk E x.1 < rk E y.1 then -1 else 1) ?swo 39 [ptrH bq] (⟨some bq, cl [ptrH p] 23⟩ :: hH p bx (some be) ne ce te n (some bl) nl c tl E l) (fun x y => ?cmp) (Enters.mk Try.func38 rfl rfl) b nl c2 3 l.attach t2 (by rw [List.length_attach]; exact hnl) (by omega)
  case swo => exact ⟨fun x => by simp [ltOf], fun x y z h1 h2 => by simp only [ltOf, decide_eq_true_eq] at *; split at h1 <;> split at h2 <;> split <;> omega, fun x y z h1 h2 => by simp only [ltOf, decide_eq_false_iff_not] at *; split at h1 <;> split at h2 <;> split <;> omega⟩
  case cmp =>
    obtain ⟨w1, x1, _, _, hx1, _⟩ := hp.in x.2
    obtain ⟨w2, x2, _, _, hx2, _⟩ := hp.in y.2
    exact hac_ok p bx be ne ce te n bl nl c tl E l hne bq x.1 y.1 x1 x2 hx1 hx2 (hp.st.sq _ _ hx1) (hp.st.sq _ _ hx2)
  rw [show l.attach.map (fun h : { h : Nat // h ∈ l } => Value.int .i64 (h.1 : Int)) = ivn l from by rw [ivn_map]; exact List.attach_map_val (f := fun x : Nat => Value.int .i64 (x : Int))] at hs
  refine hs.mono fun r H' ⟨d', e1, e2, e3, e4⟩ => ?_
  have p1 : (d'.map (·.1)).Perm l := by
    have := e2.map (fun h : { h : Nat // h ∈ l } => h.1)
    rwa [List.attach_map_subtype_val] at this
  obtain ⟨O, hO, hO2⟩ := hp.els p1
  refine ⟨O, e1, hp.sorted hO ?_, ?_⟩
  · rw [hO2, List.pairwise_map]
    refine e3.imp fun {a b} h => ?_
    simp only [ltOf, decide_eq_false_iff_not] at h
    split at h <;> omega
  · rw [e4, hO2, ivn_map, List.map_map]; rfl
/-- All: an iterator over the handles in order. -/
abbrev allH (bb : Nat) (ob : Option Nat) (n c : Nat) (O : List WE) (tl : List Value) : Heap := vitH bb ob n c (hds O) tl
theorem hall_x (p bx : Nat) (oe : Option Nat) (ne ce : Nat) (te : List Value) (n : Nat) (ol : Option Nat) (nl c : Nat) (tl : List Value) (E : List El) (l : List Nat) (W : List WE) (hp : Hp W E l n) (hne : E.length = ne) (hnl : l.length = nl) (hoe : Own oe ne ce 4 (E.flatMap encEl) te) (hol : Own ol nl c 1 (ivn l) tl) : Spec Try.prog 19 [ptrH p] (hH p bx oe ne ce te n ol nl c tl E l) (fun r H' => ∃ O bb ob c2 t2, r = vitV bb ∧ IsOrd W O ∧ Own ob W.length c2 1 (ivn (hds O)) t2 ∧ H' = allH bb ob W.length c2 O t2 ++ hH p bx oe ne ce te n ol nl c tl E l) := by
  have hcp := hp.cap
  have hlw : nl = W.length := by rw [← hp.len, hnl]
  refine Spec.of (E := [(0, ptrH p)]) Try.func19 rfl (by kernel_rfl) Try.ntmps19 rfl rfl (fun w => ?_)
  refine WC_seq ?_
  refine WC_region ?_
  refine WL_do rfl rfl rfl (D_box (cs := [_]) rfl rfl rfl) ?_
  rintro _ _ ⟨b1, rfl, rfl⟩
  refine WL_val rfl rfl rfl (R_assign rfl rfl) ?_
  refine WL_nil ?_
  refine WQ_code ?_
  refine WC_seq ?_
  refine WC_region ?_
  refine WL_val rfl rfl rfl (R_load rfl sc23 rfl (by repeat (first | exact List.Mem.head _ | refine List.Mem.tail _ ?_)) rfl) ?_
  refine WL_do rfl rfl rfl (D_call (hlay_x p bx oe ne ce te n ol nl c tl E l W hp hne hnl hoe hol) rfl rfl rfl rfl (by repeat (first | exact Pulls.nil | exact Pulls.all | (apply Pulls.cons; (repeat (first | exact Pull.head | apply Pull.tail))) | apply Pulls.skip))) ?_
  rintro _ _ ⟨_, ⟨o2, c2, t2, rfl, own2, rfl⟩, rfl⟩
  refine WL_val rfl rfl rfl (R_assign rfl rfl) ?_
  refine WL_nil ?_
  refine WQ_code ?_
  refine WC_seq ?_
  refine WC_seq ?_
  refine WC_region ?_
  refine WL_val rfl rfl rfl (R_move rfl rfl) ?_
  refine WL_val rfl rfl rfl (R_len rfl Try.underlying39 rfl) ?_
  refine WL_val rfl rfl rfl (R_gtr rfl rfl rfl) ?_
  refine WL_nil ?_
  refine WQ_code ?_
  refine WC_dec rfl (fun c1 => ?_) (fun c1 => ?_)
  · obtain ⟨b2, rfl⟩ := own2.some_of (by omega)
    refine WC_region ?_
    refine WL_val rfl rfl rfl (R_move rfl rfl) ?_
    refine WL_val rfl rfl rfl (R_makeFunc rfl rfl rfl) ?_
    refine WL_do rfl rfl rfl (D_call (hsort_ok p bx oe ne ce te n ol nl c tl E l W hp hne hnl hoe hol b1 b2 c2 t2 (by omega)) rfl rfl rfl rfl (by repeat (first | exact Pulls.nil | exact Pulls.all | (apply Pulls.cons; (repeat (first | exact Pull.head | apply Pull.tail))) | apply Pulls.skip))) ?_
    rintro _ _ ⟨_, ⟨O, rfl, hO, rfl⟩, rfl⟩
    refine WL_nil ?_
    refine WQ_code ?_
    refine WC_seq ?_
    refine WC_region ?_
    refine WL_val rfl rfl rfl (R_move rfl rfl) ?_
    refine WL_do rfl rfl rfl (D_call (val_ok _ _ _) rfl rfl rfl rfl (by repeat (first | exact Pulls.nil | exact Pulls.all | (apply Pulls.cons; (repeat (first | exact Pull.head | apply Pull.tail))) | apply Pulls.skip))) ?_
    rintro _ _ ⟨_, ⟨bb, rfl, rfl⟩, rfl⟩
    refine WL_val rfl rfl rfl (R_assign rfl rfl) ?_
    refine WL_nil ?_
    refine WQ_code ?_
    refine WC_ret ?_
    refine WQ_ret rfl rfl (.cons (.tmp rfl) .nil) rfl (by
        rw [← hlw]
        exact ⟨O, bb, some b2, c2, t2, rfl, hO, own2.like (by rw [fm_length encN1, fm_length encN1, List.length_map, hO.len, ← hlw, hnl]), rfl⟩) (by repeat (first | exact Pulls.nil | exact Pulls.all | (apply Pulls.cons; (repeat (first | exact Pull.head | apply Pull.tail))) | apply Pulls.skip))
  · obtain rfl : W = [] := List.eq_nil_of_length_eq_zero (by omega)
    obtain rfl : l = [] := List.eq_nil_of_length_eq_zero (by rw [hp.len]; rfl)
    subst hlw
    refine WC_skip ?_
    refine WQ_code ?_
    refine WC_seq ?_
    refine WC_region ?_
    refine WL_val rfl rfl rfl (R_move rfl rfl) ?_
    refine WL_do rfl rfl rfl (D_call (val_ok _ _ _) rfl rfl rfl rfl (by repeat (first | exact Pulls.nil | exact Pulls.all | (apply Pulls.cons; (repeat (first | exact Pull.head | apply Pull.tail))) | apply Pulls.skip))) ?_
    rintro _ _ ⟨_, ⟨bb, rfl, rfl⟩, rfl⟩
    refine WL_val rfl rfl rfl (R_assign rfl rfl) ?_
    refine WL_nil ?_
    refine WQ_code ?_
    refine WC_ret ?_
    refine WQ_ret rfl rfl (.cons (.tmp rfl) .nil) rfl (by
        exact ⟨[], bb, o2, c2, t2, rfl, ord_nil, own2, rfl⟩) (by repeat (first | exact Pulls.nil | exact Pulls.all | (apply Pulls.cons; (repeat (first | exact Pull.head | apply Pull.tail))) | apply Pulls.skip))
theorem hall_ok (g : HM) (W : List WE) (hg : HIs W g) : Spec Try.prog 19 [ptrH g.p] (gH g) (fun r H' => ∃ O bb ob c2 t2, r = vitV bb ∧ IsOrd W O ∧ Own ob W.length c2 1 (ivn (hds O)) t2 ∧ H' = allH bb ob W.length c2 O t2 ++ gH g) := by
  obtain ⟨p, bx, oe, ne, ce, te, n, ol, nl, c, tl, E, l⟩ := g
  obtain ⟨hp, hne, hnl, hoe, hol⟩ := hg
  dsimp only at hp hne hnl hoe hol
  exact hall_x p bx oe ne ce te n ol nl c tl E l W hp hne hnl hoe hol
theorem hall_nil : Spec Try.prog 19 [.pointer none] [] (fun r H' => ∃ bb, r = vitV bb ∧ H' = [⟨some bb, cl [slV none 0 0] 39⟩]) := by
  refine Spec.of (E := [(0, .pointer none)]) Try.func19 rfl (by kernel_rfl) Try.ntmps19 rfl rfl (fun w => ?_)
  refine WC_seq ?_
  refine WC_region ?_
  refine WL_do rfl rfl rfl (D_box (cs := [_]) rfl rfl rfl) ?_
  rintro _ _ ⟨b1, rfl, rfl⟩
  refine WL_val rfl rfl rfl (R_assign rfl rfl) ?_
  refine WL_nil ?_
  refine WQ_code ?_
  refine WC_seq ?_
  refine WC_region ?_
  refine WL_val rfl rfl rfl (R_load rfl sc23 rfl (by repeat (first | exact List.Mem.head _ | refine List.Mem.tail _ ?_)) rfl) ?_
  refine WL_do rfl rfl rfl (D_call (hlay_nil) rfl rfl rfl rfl (by repeat (first | exact Pulls.nil | exact Pulls.all | (apply Pulls.cons; (repeat (first | exact Pull.head | apply Pull.tail))) | apply Pulls.skip))) ?_
  rintro _ _ ⟨_, ⟨rfl, rfl⟩, rfl⟩
  refine WL_val rfl rfl rfl (R_assign rfl rfl) ?_
  refine WL_nil ?_
  refine WQ_code ?_
  refine WC_seq ?_
  refine WC_seq ?_
  refine WC_region ?_
  refine WL_val rfl rfl rfl (R_move rfl rfl) ?_
  refine WL_val rfl rfl rfl (R_len rfl Try.underlying39 rfl) ?_
  refine WL_val rfl rfl rfl (R_gtr rfl rfl rfl) ?_
  refine WL_nil ?_
  refine WQ_code ?_
  refine WC_dF rfl (by omega) ?_
  refine WC_skip ?_
  refine WQ_code ?_
  refine WC_seq ?_
  refine WC_region ?_
  refine WL_val rfl rfl rfl (R_move rfl rfl) ?_
  refine WL_do rfl rfl rfl (D_call (val_ok _ _ _) rfl rfl rfl rfl (by repeat (first | exact Pulls.nil | exact Pulls.all | (apply Pulls.cons; (repeat (first | exact Pull.head | apply Pull.tail))) | apply Pulls.skip))) ?_
  rintro _ _ ⟨_, ⟨bb, rfl, rfl⟩, rfl⟩
  refine WL_val rfl rfl rfl (R_assign rfl rfl) ?_
  refine WL_nil ?_
  refine WQ_code ?_
  refine WC_ret ?_
  refine WQ_ret rfl rfl (.cons (.tmp rfl) .nil) rfl (by
      exact ⟨bb, rfl, rfl⟩) (by repeat (first | exact Pulls.nil | exact Pulls.all | (apply Pulls.cons; (repeat (first | exact Pull.head | apply Pull.tail))) | apply Pulls.skip))

end Go.Proofs.Ytliffiahoolemaa
