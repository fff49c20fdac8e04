/-
  Chapter 10 (deadline), part HeapC: contracts of functions that the laws call, each for the heap it names.
-/
import Derived.Test.YtnkpefonocggfaaRows
import Derived.Test.YtnkpefonocggfaaSLPhase
import Derived.Test.YtnkpefonocggfaaSLInt
import Derived.Test.YtnkpefonocggfaaTab
import Derived.Test.YtnkpefonocggfaaHeapU
set_option linter.unusedVariables false
set_option maxRecDepth 20000
set_option maxHeartbeats 2000000
namespace Go.Proofs.Ytnkpefonocggfaa


theorem ivn_snoc (l : List Nat) (h : Nat) : ivn (l ++ [h]) = ivn l ++ [.int .i64 (h : Int)] := by simp
theorem list_snoc {l : List Nat} {m h : Nat} (hl : l.length = m + 1) (hm : l[m]? = some h) : l = l.take m ++ [h] := by
  have h1 : l.take (m + 1) = l := List.take_of_length_le (by omega)
  obtain ⟨h2, rfl⟩ := List.getElem?_eq_some_iff.1 hm
  rw [List.take_append_getElem, h1]
theorem Own.like {ob : Option Nat} {n c sz : Nat} {xs ys tl : List Value} (h : Own ob n c sz xs tl) (e : ys.length = xs.length) : Own ob n c sz ys tl := ⟨by rw [e]; exact h.len, by rw [e]; exact h.cap, h.le, h.big, h.nil⟩
theorem qadd_ok (p bx be ne ce : Nat) (te : List Value) (n : Nat) (ol : Option Nat) (c : Nat) (tl : List Value) (E : List El) (l : List Nat) (s : St E E l) (ho : HOk (rkl E l) l.length) (hne : E.length = ne) (own : Own ol l.length c 1 (ivn l) tl) (hbig : l.length ≤ 1024) (h : Nat) (x : El) (hx : E[h]? = some x) (hn : h ∉ l) :
    Spec Try.prog 75 [.pointer (some ⟨p, 3, none⟩), .int .i64 (h : Int)] [⟨some p, cl (hC bx (some be) ne ce n ol l.length c) 138⟩, ⟨some bx, cl [ptrH p] 114⟩, ⟨some be, cl (E.flatMap encEl ++ te) 141⟩, ⟨ol, cl (ivn l ++ tl) 3⟩]
    (fun r H' => ∃ E' l' bl c' tl', r = .tuple #[] ∧ H' = hR p bx be ne ce te n bl (l.length + 1) c' tl' E' l' ∧ Own (some bl) (l.length + 1) c' 1 (ivn l') tl' ∧ St E E' l' ∧ l'.Perm (l ++ [h]) ∧ HOk (rkl E l') (l.length + 1)) := by
  have hfx : HFix (rkl E (l ++ [h])) (l.length + 1) l.length := add_fix ho (fun j hj => by rw [rkl, rkl, gt0, gt0, List.getElem?_append_left hj])
  refine Spec.of (E := [(0, .pointer (some ⟨p, 3, none⟩)), (1, .int .i64 (h : Int))]) Try.func75 rfl (by kernel_rfl) Try.ntmps75 rfl rfl (fun w => ?_)
  refine WC_seq ?_
  refine WC_region ?_
  refine WL_val rfl rfl rfl (R_move rfl rfl) ?_
  refine WL_val rfl rfl rfl (R_move rfl rfl) ?_
  refine WL_val rfl rfl rfl (R_nilCheck rfl rfl) ?_
  refine WL_val rfl rfl rfl (R_fieldAddr rfl fa136_0 rfl) ?_
  refine WL_val rfl rfl rfl (R_load rfl sc116 rfl (by repeat (first | exact List.Mem.head _ | refine List.Mem.tail _ ?_)) rfl) ?_
  refine WL_val rfl rfl rfl (R_move rfl rfl) ?_
  refine WL_do rfl rfl rfl (D_buildSlice rfl si116 rfl rfl rfl) ?_
  rintro _ _ ⟨b1, rfl, rfl⟩
  refine WL_do rfl rfl rfl (D_append rfl si116 rfl (own) (by repeat (first | exact Pull.head | apply Pull.tail)) rfl (by repeat (first | exact List.Mem.head _ | refine List.Mem.tail _ ?_)) ((by repeat (first | exact At.nil | refine At.cons ?_ | refine At.succ ?_) : At _ 0 [_])) (rfl) (rfl) (by omega) (by omega)) ?_
  rintro _ _ ⟨ob2, cap2, tl2, rfl, own2, rfl⟩
  obtain ⟨bl, rfl⟩ := own2.some_of (by omega)
  rw [← ivn_snoc] at own2 ⊢
  refine WL_val rfl rfl rfl (R_nilCheck rfl rfl) ?_
  refine WL_val rfl rfl rfl (R_fieldAddr rfl fa136_0 rfl) ?_
  refine WL_do0 rfl rfl (D_store (vs := [_]) rfl Try.sizeOf116 rfl rfl rfl rfl rfl (by repeat (first | exact Pull.head | apply Pull.tail)) (by exact Nat.le_of_ble_eq_true rfl)) ?_
  rintro _ _ rfl
  refine WL_nil ?_
  refine WQ_code ?_
  refine WC_seq ?_
  refine WC_drawR [⟨some be, _⟩] [(0, true), (1, true), (2, true), (3, true), (4, true), (5, true), (6, true), (7, true), (8, true), (9, true), (10, true), (11, false)] followsMixed rfl rfl (by kernel_rfl) (by repeat (first | exact Pulls.nil | exact Pulls.all | (apply Pulls.cons; (repeat (first | exact Pull.head | apply Pull.tail))) | apply Pulls.skip)) ?_
  refine WM_val rfl rfl rfl rfl (R_move rfl rfl) ?_
  refine WM_val rfl rfl rfl rfl (R_nilCheck rfl rfl) ?_
  refine WM_val rfl rfl rfl rfl (R_fieldAddr rfl fa136_2 rfl) ?_
  refine WM_val rfl rfl rfl rfl (R_load rfl sc134 rfl (by repeat (first | exact List.Mem.head _ | refine List.Mem.tail _ ?_)) rfl) ?_
  refine WM_val rfl rfl rfl rfl (R_move rfl rfl) ?_
  refine WM_val rfl rfl rfl rfl (R_move rfl rfl) ?_
  refine WM_val rfl rfl rfl rfl (R_nilCheck rfl rfl) ?_
  refine WM_val rfl rfl rfl rfl (R_fieldAddr rfl fa136_0 rfl) ?_
  refine WM_val rfl rfl rfl rfl (R_load rfl sc116 rfl (by repeat (first | exact List.Mem.head _ | refine List.Mem.tail _ ?_)) rfl) ?_
  refine WM_val rfl rfl rfl rfl (R_len rfl Try.underlying116 rfl) ?_
  refine WM_val rfl rfl rfl rfl (R_subR (r := ((l.length : Nat) : Int)) rfl rfl rfl (by rw [IntWalk.i64_in _ (by omega)]; omega)) ?_
  refine WM_do rfl rfl rfl rfl (D_call (put_ok p bx be ne ce te n bl (l.length + 1) cap2 tl2 E (l ++ [h]) hne h ((l.length : Nat) : Int) x hx) rfl rfl rfl rfl (by repeat (first | exact Pulls.nil | exact Pulls.all | (apply Pulls.cons; (repeat (first | exact Pull.head | apply Pull.tail))) | apply Pulls.skip))) ?_
  rintro _ _ ⟨_, ⟨rfl, rfl⟩, rfl⟩
  refine ⟨⟨_, by repeat (first | exact Pulls.nil | exact Pulls.all | (apply Pulls.cons; (repeat (first | exact Pull.head | apply Pull.tail))) | apply Pulls.skip)⟩, ?_⟩
  refine WM_nil ?_
  refine WQ_code ?_
  refine WC_region ?_
  refine WL_val rfl rfl rfl (R_move rfl rfl) ?_
  refine WL_val rfl rfl rfl (R_move rfl rfl) ?_
  refine WL_val rfl rfl rfl (R_nilCheck rfl rfl) ?_
  refine WL_val rfl rfl rfl (R_fieldAddr rfl fa136_0 rfl) ?_
  refine WL_val rfl rfl rfl (R_load rfl sc116 rfl (by repeat (first | exact List.Mem.head _ | refine List.Mem.tail _ ?_)) rfl) ?_
  refine WL_val rfl rfl rfl (R_len rfl Try.underlying116 rfl) ?_
  refine WL_val rfl rfl rfl (R_subR (r := ((l.length : Nat) : Int)) rfl rfl rfl (by rw [IntWalk.i64_in _ (by omega)]; omega)) ?_
  refine WL_do rfl rfl rfl (D_call (up_ok p bx be ne ce te n bl (l.length + 1) cap2 tl2 E (setp E h ((l.length : Nat) : Int)) (l ++ [h]) (st_add s hx hn) hne (by rw [List.length_append, List.length_singleton]) (by omega) l.length (by omega) hfx) rfl rfl rfl rfl (by repeat (first | exact Pulls.nil | exact Pulls.all | (apply Pulls.cons; (repeat (first | exact Pull.head | apply Pull.tail))) | apply Pulls.skip))) ?_
  rintro _ _ ⟨_, ⟨E', l', rfl, rfl, s', p', d'⟩, rfl⟩
  refine WL_nil ?_
  refine WQ_ret rfl rfl .nil rfl (by
      exact ⟨E', l', bl, cap2, tl2, rfl, rfl, own2.like (by rw [fm_length encN1, fm_length encN1, p'.length_eq]), s', p', add_ok d'⟩) (by repeat (first | exact Pulls.nil | exact Pulls.all | (apply Pulls.cons; (repeat (first | exact Pull.head | apply Pull.tail))) | apply Pulls.skip))
theorem qcut_ok (p bx be ne ce : Nat) (te : List Value) (n bl nl c : Nat) (tl : List Value) (E : List El) (l : List Nat) (s : St E E l) (ho : HOk (rkl E l) l.length) (hne : E.length = ne) (m : Nat) (hnl : l.length = m + 1) (hnl2 : nl = m + 1) (hbig : m ≤ 1024) (hcap : nl ≤ c) (i h : Nat) (hi : l[i]? = some h) :
    Spec Try.prog 72 [.pointer (some ⟨p, 3, none⟩), .int .i64 (i : Int)] (hR p bx be ne ce te n bl nl c tl E l) (fun r H' => ∃ E2 E3 l3 l4, r = .tuple #[] ∧ H' = hR p bx be ne ce te n bl m c (.int .i64 (h : Int) :: tl) E3 l4 ∧ St E E2 (l3 ++ [h]) ∧ (l3 ++ [h]).Perm l ∧ St E2 E3 l4 ∧ l4.Perm l3 ∧ HOk (rkl E3 l4) m) := by
  subst hnl2
  have hil : i < l.length := (List.getElem?_eq_some_iff.1 hi).1
  have hml : m < l.length := by omega
  obtain ⟨ha, xa, hla, ga, hxa, pa⟩ := s.get (i := i) hil
  obtain ⟨hb, xb, hlb, gb, hxb, pb⟩ := s.get (i := m) hml
  obtain rfl : h = ha := by rw [hi] at hla; exact Option.some.inj hla
  have s2 := st_swap s hil hml
  have hsm : (sw l i m)[m]? = some h := by rw [sw_get hil hml, if_pos rfl, ga]
  obtain ⟨l3, hl3⟩ : ∃ l3, l3 = (sw l i m).take m := ⟨_, rfl⟩
  have hl2 : sw l i m = l3 ++ [h] := by rw [hl3]; exact list_snoc (by rw [sw_len]; exact hnl) hsm
  have h3l : l3.length = m := by rw [hl3, List.length_take, sw_len]; omega
  have hp2 : (l3 ++ [h]).Perm l := by rw [← hl2]; exact sw_perm hil hml
  have s22 := s2
  rw [hl2] at s22
  have s3 := Hp.cut0 s22
  have hcg : ∀ j, j < m → rkl (setp (setp E (gt0 l m) (i : Int)) (gt0 l i) (m : Int)) l3 j = rkl E (sw l i m) j := fun j hj => by
    rw [rkl, rkl, s2.rk, hl2, gt0, gt0, List.getElem?_append_left (by omega)]
  have hswp := sw_swapped (rk E) hil hml
  refine Spec.of (E := [(0, .pointer (some ⟨p, 3, none⟩)), (1, .int .i64 (i : Int))]) Try.func72 rfl (by kernel_rfl) Try.ntmps72 rfl rfl (fun w => ?_)
  refine WC_seq ?_
  refine WC_region ?_
  refine WL_val rfl rfl rfl (R_move rfl rfl) ?_
  refine WL_val rfl rfl rfl (R_nilCheck rfl rfl) ?_
  refine WL_val rfl rfl rfl (R_fieldAddr rfl fa136_0 rfl) ?_
  refine WL_val rfl rfl rfl (R_load rfl sc116 rfl (by repeat (first | exact List.Mem.head _ | refine List.Mem.tail _ ?_)) rfl) ?_
  refine WL_val rfl rfl rfl (R_len rfl Try.underlying116 rfl) ?_
  refine WL_val rfl rfl rfl (R_subR (r := ((m : Nat) : Int)) rfl rfl rfl (by rw [IntWalk.i64_in _ (by omega)]; omega)) ?_
  refine WL_val rfl rfl rfl (R_assign rfl rfl) ?_
  refine WL_nil ?_
  refine WQ_code ?_
  refine WC_seq ?_
  refine WC_region ?_
  refine WL_val rfl rfl rfl (R_move rfl rfl) ?_
  refine WL_val rfl rfl rfl (R_move rfl rfl) ?_
  refine WL_val rfl rfl rfl (R_move rfl rfl) ?_
  refine WL_do rfl rfl rfl (D_call (swap_ok p bx be ne ce te n bl (m + 1) c tl E l hne hnl i m hil hml xa xb (by rw [ga]; exact hxa) (by rw [gb]; exact hxb)) rfl rfl rfl rfl (by repeat (first | exact Pulls.nil | exact Pulls.all | (apply Pulls.cons; (repeat (first | exact Pull.head | apply Pull.tail))) | apply Pulls.skip))) ?_
  rintro _ _ ⟨_, ⟨rfl, rfl⟩, rfl⟩
  refine WL_nil ?_
  refine WQ_code ?_
  refine WC_seq ?_
  refine WC_region ?_
  refine WL_val rfl rfl rfl (R_move rfl rfl) ?_
  refine WL_val rfl rfl rfl (R_move rfl rfl) ?_
  refine WL_val rfl rfl rfl (R_nilCheck rfl rfl) ?_
  refine WL_val rfl rfl rfl (R_fieldAddr rfl fa136_0 rfl) ?_
  refine WL_val rfl rfl rfl (R_load rfl sc116 rfl (by repeat (first | exact List.Mem.head _ | refine List.Mem.tail _ ?_)) rfl) ?_
  refine WL_val rfl rfl rfl (R_move rfl rfl) ?_
  refine WL_val rfl rfl rfl (R_sliceTo (m := m) rfl Try.underlying116 Try.sizeOf3 rfl rfl (by omega)) ?_
  refine WL_val rfl rfl rfl (R_nilCheck rfl rfl) ?_
  refine WL_val rfl rfl rfl (R_fieldAddr rfl fa136_0 rfl) ?_
  refine WL_do0 rfl rfl (D_store (vs := [_]) rfl Try.sizeOf116 rfl rfl rfl rfl rfl (by repeat (first | exact Pull.head | apply Pull.tail)) (by exact Nat.le_of_ble_eq_true rfl)) ?_
  rintro _ _ rfl
  rw [hl2, show ivn (l3 ++ [h]) ++ tl = ivn l3 ++ (Value.int .i64 (h : Int) :: tl) from by rw [ivn_snoc, List.append_assoc]; rfl]
  refine WL_nil ?_
  refine WQ_code ?_
  refine WC_seq ?_
  refine WC_region ?_
  refine WL_val rfl rfl rfl (R_move rfl rfl) ?_
  refine WL_val rfl rfl rfl (R_move rfl rfl) ?_
  refine WL_val rfl rfl rfl (R_lss rfl rfl rfl) ?_
  refine WL_nil ?_
  refine WQ_code ?_
  refine WC_dec rfl (fun c1 => ?_) (fun c1 => ?_)
  · have him : i < m := by omega
    refine WC_region ?_
    refine WL_val rfl rfl rfl (R_move rfl rfl) ?_
    refine WL_val rfl rfl rfl (R_move rfl rfl) ?_
    refine WL_do rfl rfl rfl (D_call (fix_ok p bx be ne ce te n bl m c (.int .i64 (h : Int) :: tl) _ _ l3 s3 (by rw [setp_len, setp_len]; exact hne) h3l (by omega) i (by omega) ((cut_fix (hnl ▸ ho) (by omega) hswp).cong (by omega) hcg)) rfl rfl rfl rfl (by repeat (first | exact Pulls.nil | exact Pulls.all | (apply Pulls.cons; (repeat (first | exact Pull.head | apply Pull.tail))) | apply Pulls.skip))) ?_
    rintro _ _ ⟨_, ⟨E3, l4, rfl, rfl, s4, p4, o4⟩, rfl⟩
    refine WL_nil ?_
    refine WQ_ret rfl rfl .nil rfl (by
        exact ⟨_, E3, l3, l4, rfl, rfl, s22, hp2, s4, p4, o4.cong (fun j _ => by rw [rkl, rkl, s4.rk])⟩) (by repeat (first | exact Pulls.nil | exact Pulls.all | (apply Pulls.cons; (repeat (first | exact Pull.head | apply Pull.tail))) | apply Pulls.skip))
  · obtain rfl : i = m := by omega
    refine WC_skip ?_
    refine WQ_ret rfl rfl .nil rfl (by
        exact ⟨_, _, l3, l3, rfl, rfl, s22, hp2, s3, .refl _, HOk.cong (F := rkl E (sw l i i)) (fun j h1 h2 => by rw [hnl] at ho; have := ho j h1 (by omega); rw [rkl, rkl, hswp.o j (by omega) (by omega), hswp.o _ (by omega) (by omega)]; exact this) hcg⟩) (by repeat (first | exact Pulls.nil | exact Pulls.all | (apply Pulls.cons; (repeat (first | exact Pull.head | apply Pull.tail))) | apply Pulls.skip))

end Go.Proofs.Ytnkpefonocggfaa
