/-
  Chapter 07 (slot), part Hold: contracts of functions that the laws call, each for the heap it names.
-/
import Derived.Test.YtnolalkkdigcbaaRows
import Derived.Test.YtnolalkkdigcbaaSLArr
import Derived.Test.YtnolalkkdigcbaaTab
import Derived.Test.YtnolalkkdigcbaaHoldL
import Derived.Test.YtnolalkkdigcbaaSLBirth
set_option linter.unusedVariables false
set_option maxRecDepth 20000
set_option maxHeartbeats 4000000
namespace Go.Proofs.Ytnolalkkdigcbaa


def encN (x : Fl) : List Value := [.int .i64 x.n, .int .i64 x.gen]
def encV (x : Fl) : List Value := [.int .i64 x.value]
def encC (x : Fl) : List Value := [.bool x.closed]
theorem lt_of2 {α : Type} {T : List α} {i : Nat} {x : α} (h : T[i]? = some x) : i < T.length := (List.getElem?_eq_some_iff.1 h).1
theorem encN2 (x : Fl) : (encN x).length = 2 := rfl
theorem encV1 (x : Fl) : (encV x).length = 1 := rfl
theorem encC1 (x : Fl) : (encC x).length = 1 := rfl
structure HS where
  k : Nat
  T : List Pl
  L : List Fl
  n : Nat
  o1 : Option Nat
  c1 : Nat
  t1 : List Value
  o2 : Option Nat
  c2 : Nat
  t2 : List Value
  o3 : Option Nat
  c3 : Nat
  t3 : List Value
structure HsOk (m : Nat) (s : HS) : Prop where
  len : s.T.length = m
  fine : Fine s.T
  ok : Ok s.T s.L
  cnt : s.n = s.L.length
  few : s.L.length ≤ s.k
  own1 : Own s.o1 s.n s.c1 2 (s.L.flatMap encN) s.t1
  own2 : Own s.o2 s.n s.c2 1 (s.L.flatMap encV) s.t2
  own3 : Own s.o3 s.n s.c3 1 (s.L.flatMap encC) s.t3
theorem own_len {ob : Option Nat} {n c sz : Nat} {xs ys tl : List Value} (h : Own ob n c sz xs tl) (e : ys.length = xs.length) : Own ob n c sz ys tl :=
  ⟨by rw [e]; exact h.len, by rw [e]; exact h.cap, h.le, h.big, h.nil⟩
theorem fm_same {f : Fl → Fl} {enc : Fl → List Value} (h : ∀ z, enc (f z) = enc z) (L : List Fl) : (L.map f).flatMap enc = L.flatMap enc := by
  induction L with
  | nil => rfl
  | cons z L ih => simp [h, ih]
theorem mark_N (n g : Int) (z : Fl) : encN (mark n g z) = encN z := by unfold mark; split <;> rfl
theorem mark_V (n g : Int) (z : Fl) : encV (mark n g z) = encV z := by unfold mark; split <;> rfl
theorem upd_N (n g v : Int) (z : Fl) : encN (upd n g v z) = encN z := by unfold upd; split <;> rfl
theorem upd_C (n g v : Int) (z : Fl) : encC (upd n g v z) = encC z := by unfold upd; split <;> rfl
theorem hit_no {n g : Int} {z : Fl} (h : ¬ (z.n = n ∧ z.gen = g) ∨ z.closed = true) : hit n g z = false := by
  cases hh : hit n g z with
  | false => rfl
  | true =>
    obtain ⟨h1, h2, h3⟩ := hit_iff.1 hh
    rcases h with h | h
    · exact absurd ⟨h1, h2⟩ h
    · rw [h] at h3; cases h3
theorem ok_fresh (n : Nat) : Ok (freshT n) [] := ⟨alike_fresh n, fun a y h => by simp at h⟩
theorem holds_bad (most : Int) (oa : Option Addr) (n c : Nat) (hb : (n : Int) ≤ 9223372036854775807) (h : 60 < n ∨ most < 1 ∨ 128 < most) : Spec Try.prog 4 [.int .i64 most, .slice oa n c] [] (fun r H' => r = .bool true ∧ H' = []) := by
  refine Spec.of (E := [(0, .int .i64 most), (1, .slice oa n c)]) Try.func4 rfl (by kernel_rfl) Try.ntmps4 rfl rfl (fun w => ?_)
  refine WC_seq ?_
  refine WC_region ?_
  refine WL_val rfl rfl rfl (R_assign rfl rfl) ?_
  refine WL_nil ?_
  refine WQ_code ?_
  refine WC_seq ?_
  refine WC_seq ?_
  refine WC_region ?_
  refine WL_val rfl rfl rfl (R_move rfl rfl) ?_
  refine WL_val rfl rfl rfl (R_len rfl Try.underlying22 rfl) ?_
  refine WL_val rfl rfl rfl (R_gtr rfl rfl rfl) ?_
  refine WL_val rfl rfl rfl (R_move rfl rfl) ?_
  refine WL_splitD (s := 28) rfl (fun c1 => ?_) (fun c1 => ?_)
  · refine WL_skip rfl rfl rfl ?_
    refine WL_skip rfl rfl rfl ?_
    refine WL_val rfl rfl rfl (R_pickT rfl rfl rfl) ?_
    refine WL_val rfl rfl rfl (R_move rfl rfl) ?_
    refine WL_skip rfl rfl rfl ?_
    refine WL_skip rfl rfl rfl ?_
    refine WL_val rfl rfl rfl (R_pickT rfl rfl rfl) ?_
    refine WL_nil ?_
    refine WQ_code ?_
    refine WC_T rfl ?_
    refine WC_seq ?_
    refine WC_region ?_
    refine WL_do rfl rfl rfl (D_call (known_ok) rfl rfl rfl rfl (by repeat (first | exact Pulls.nil | exact Pulls.all | (apply Pulls.cons; (repeat (first | exact Pull.head | apply Pull.tail))) | apply Pulls.skip))) ?_
    rintro _ _ ⟨_, ⟨rfl, rfl⟩, rfl⟩
    refine WL_val rfl rfl rfl (R_assign rfl rfl) ?_
    refine WL_nil ?_
    refine WQ_code ?_
    refine WC_ret ?_
    refine WQ_ret rfl rfl (.cons (.tmp rfl) .nil) rfl (by
        exact ⟨rfl, rfl⟩) (by repeat (first | exact Pulls.nil | exact Pulls.all | (apply Pulls.cons; (repeat (first | exact Pull.head | apply Pull.tail))) | apply Pulls.skip))
  · refine WL_val rfl rfl rfl (R_move rfl rfl) ?_
    refine WL_val rfl rfl rfl (R_lss rfl rfl rfl) ?_
    refine WL_val rfl rfl rfl (R_pickF rfl rfl rfl) ?_
    refine WL_val rfl rfl rfl (R_move rfl rfl) ?_
    refine WL_splitD (s := 32) rfl (fun c2 => ?_) (fun c2 => ?_)
    · refine WL_skip rfl rfl rfl ?_
      refine WL_skip rfl rfl rfl ?_
      refine WL_val rfl rfl rfl (R_pickT rfl rfl rfl) ?_
      refine WL_nil ?_
      refine WQ_code ?_
      refine WC_T rfl ?_
      refine WC_seq ?_
      refine WC_region ?_
      refine WL_do rfl rfl rfl (D_call (known_ok) rfl rfl rfl rfl (by repeat (first | exact Pulls.nil | exact Pulls.all | (apply Pulls.cons; (repeat (first | exact Pull.head | apply Pull.tail))) | apply Pulls.skip))) ?_
      rintro _ _ ⟨_, ⟨rfl, rfl⟩, rfl⟩
      refine WL_val rfl rfl rfl (R_assign rfl rfl) ?_
      refine WL_nil ?_
      refine WQ_code ?_
      refine WC_ret ?_
      refine WQ_ret rfl rfl (.cons (.tmp rfl) .nil) rfl (by
          exact ⟨rfl, rfl⟩) (by repeat (first | exact Pulls.nil | exact Pulls.all | (apply Pulls.cons; (repeat (first | exact Pull.head | apply Pull.tail))) | apply Pulls.skip))
    · refine WL_val rfl rfl rfl (R_move rfl rfl) ?_
      refine WL_val rfl rfl rfl (R_gtr rfl rfl rfl) ?_
      refine WL_val rfl rfl rfl (R_pickF rfl rfl rfl) ?_
      refine WL_nil ?_
      refine WQ_code ?_
      refine WC_dec rfl (fun c3 => ?_) (fun c3 => ?_)
      · refine WC_seq ?_
        refine WC_region ?_
        refine WL_do rfl rfl rfl (D_call (known_ok) rfl rfl rfl rfl (by repeat (first | exact Pulls.nil | exact Pulls.all | (apply Pulls.cons; (repeat (first | exact Pull.head | apply Pull.tail))) | apply Pulls.skip))) ?_
        rintro _ _ ⟨_, ⟨rfl, rfl⟩, rfl⟩
        refine WL_val rfl rfl rfl (R_assign rfl rfl) ?_
        refine WL_nil ?_
        refine WQ_code ?_
        refine WC_ret ?_
        refine WQ_ret rfl rfl (.cons (.tmp rfl) .nil) rfl (by
            exact ⟨rfl, rfl⟩) (by repeat (first | exact Pulls.nil | exact Pulls.all | (apply Pulls.cons; (repeat (first | exact Pull.head | apply Pull.tail))) | apply Pulls.skip))
      · exfalso; revert h; simp_all <;> omega
theorem holds_ok (m : Nat) (hm1 : 1 ≤ m) (hm2 : m ≤ 128) (oa : Option Addr) (ent : Ent) (l : List Act) (c : Nat) (ha : Arg oa ent 4 encA l) (h : l.length ≤ 60) :
    Spec Try.prog 4 [.int .i64 (m : Int), .slice oa l.length c] [ent] (fun r H' => r = .bool true ∧ H' = [ent]) := by
  refine Spec.of (E := [(0, .int .i64 (m : Int)), (1, .slice oa l.length c)]) Try.func4 rfl (by kernel_rfl) Try.ntmps4 rfl rfl (fun w => ?_)
  refine WC_seq ?_
  refine WC_region ?_
  refine WL_val rfl rfl rfl (R_assign rfl rfl) ?_
  refine WL_nil ?_
  refine WQ_code ?_
  refine WC_seq ?_
  refine WC_seq ?_
  refine WC_region ?_
  refine WL_val rfl rfl rfl (R_move rfl rfl) ?_
  refine WL_val rfl rfl rfl (R_len rfl Try.underlying22 rfl) ?_
  refine WL_val rfl rfl rfl (R_gtr rfl rfl rfl) ?_
  refine WL_val rfl rfl rfl (R_move rfl rfl) ?_
  refine WL_set (s := 28) (v := .bool false) rfl (by simp; omega) ?_
  refine WL_val rfl rfl rfl (R_move rfl rfl) ?_
  refine WL_val rfl rfl rfl (R_lss rfl rfl rfl) ?_
  refine WL_val rfl rfl rfl (R_pickF rfl rfl rfl) ?_
  refine WL_val rfl rfl rfl (R_move rfl rfl) ?_
  refine WL_set (s := 32) (v := .bool false) rfl (by simp; omega) ?_
  refine WL_val rfl rfl rfl (R_move rfl rfl) ?_
  refine WL_val rfl rfl rfl (R_gtr rfl rfl rfl) ?_
  refine WL_val rfl rfl rfl (R_pickF rfl rfl rfl) ?_
  refine WL_nil ?_
  refine WQ_code ?_
  refine WC_dF rfl (by omega) ?_
  refine WC_skip ?_
  refine WQ_code ?_
  refine WC_seq ?_
  refine WC_region ?_
  refine WL_val rfl rfl rfl (R_move rfl rfl) ?_
  refine WL_do rfl rfl rfl (D_call (new_ok m hm1 hm2) rfl rfl rfl rfl (by repeat (first | exact Pulls.nil | exact Pulls.all | (apply Pulls.cons; (repeat (first | exact Pull.head | apply Pull.tail))) | apply Pulls.skip))) ?_
  rintro _ _ ⟨_, ⟨p, pb, rfl, rfl⟩, rfl⟩
  refine WL_val rfl rfl rfl (R_move rfl rfl) ?_
  refine WL_val rfl rfl rfl (R_extract rfl rfl rfl) ?_
  refine WL_val rfl rfl rfl (R_extract rfl rfl rfl) ?_
  refine WL_val rfl rfl rfl (R_assign rfl rfl) ?_
  refine WL_val rfl rfl rfl (R_assign rfl rfl) ?_
  refine WL_nil ?_
  refine WQ_code ?_
  refine WC_seq ?_
  refine WC_seq ?_
  refine WC_region ?_
  refine WL_val rfl rfl rfl (R_move rfl rfl) ?_
  refine WL_val rfl rfl rfl (R_ptrEqNil rfl Try.underlying24 rfl) ?_
  refine WL_val rfl rfl rfl (R_move rfl rfl) ?_
  refine WL_val rfl rfl rfl (R_move rfl rfl) ?_
  refine WL_val rfl rfl rfl (R_neq rfl rfl rfl) ?_
  refine WL_val rfl rfl rfl (R_pickF rfl rfl rfl) ?_
  refine WL_nil ?_
  refine WQ_code ?_
  refine WC_dF rfl (by simp) ?_
  refine WC_skip ?_
  refine WQ_code ?_
  refine WC_seq ?_
  refine WC_region ?_
  refine WL_val rfl rfl rfl (R_assign rfl rfl) ?_
  refine WL_nil ?_
  refine WQ_code ?_
  refine WC_seq ?_
  refine WC_region ?_
  refine WL_val rfl rfl rfl (R_assign rfl rfl) ?_
  refine WL_nil ?_
  refine WQ_code ?_
  refine WC_seq ?_
  refine WC_region ?_
  refine WL_val rfl rfl rfl (R_assign rfl rfl) ?_
  refine WL_nil ?_
  refine WQ_code ?_
  refine WC_seq ?_
  refine WC_seq ?_
  refine WC_region ?_
  refine WL_val rfl rfl rfl (R_move rfl rfl) ?_
  refine WL_val rfl rfl rfl (R_len rfl Try.underlying22 rfl) ?_
  refine WL_val rfl rfl rfl (R_move rfl rfl) ?_
  refine WL_nil ?_
  refine WQ_code ?_
  refine WC_block ?_
  refine WC_none 34 ?_
  refine WC_none 3 ?_
  refine WC_none 4 ?_
  refine WC_loopF (G := HS) [4, 7, 8, 9, 11, 12, 13, 15, 16, 17, 18, 19, 20, 21, 22, 23, 24, 50, 51, 52, 53, 54, 55, 56, 57, 58, 59, 60, 61, 62, 63, 64, 65, 66, 67, 68, 69, 70, 71, 72, 73, 74, 75, 76, 77, 78, 79, 80, 81, 82, 83, 84, 85, 86, 87, 88, 89, 90, 91, 92, 93, 94, 95, 96, 97, 98, 99, 100, 101, 102, 103, 104, 105, 106, 107, 108, 109, 110, 111, 112, 113, 114, 115, 116, 117, 118, 119, 120, 121, 122, 123, 124, 125, 126, 127, 128, 129, 130, 131, 132, 133, 134, 135, 136, 137, 138, 139, 140, 141, 142, 143, 144, 145, 146, 147, 148, 149, 150, 151, 152, 153, 154, 155, 156, 157, 158, 159, 160, 161, 162, 163, 164, 165, 166, 167, 168, 169, 170, 171, 172, 173, 174, 175, 176, 177, 178, 179, 180, 181, 182, 183, 184, 185, 186, 187, 188, 189, 190, 191, 192, 193, 194, 195, 196, 197, 198, 199, 200, 201, 202, 203, 204, 205, 206, 207, 208, 209, 210, 211, 212, 213, 214, 215, 216, 217, 218, 219, 220, 221] (fun g => g.k ≤ l.length ∧ HsOk m g) (fun g => [(50, .int .i64 (g.k : Int)), (7, slV g.o1 g.n g.c1), (8, slV g.o2 g.n g.c2), (9, slV g.o3 g.n g.c3)]) (fun g => ⟨g.o1, cl (g.L.flatMap encN ++ g.t1) 34⟩ :: ⟨g.o2, cl (g.L.flatMap encV ++ g.t2) 3⟩ :: ⟨g.o3, cl (g.L.flatMap encC ++ g.t3) 4⟩ :: tabH p pb m [] g.T) (fun g => l.length - g.k) (⟨0, freshT m, [], 0, none, 0, [], none, 0, [], none, 0, []⟩) (⟨Nat.zero_le _, List.length_replicate, fresh_fine m hm1 hm2, ok_fresh m, rfl, Nat.le_refl _, Own.empty 2, Own.empty 1, Own.empty 1⟩) (Le.lq (by repeat (first | exact Le.nil | refine Le.cons rfl (by first | rfl | (congr 1; omega)) ?_))) (by repeat (first | exact Pulls.nil | exact Pulls.all | (apply Pulls.cons; (repeat (first | exact Pull.head | apply Pull.tail))) | apply Pulls.skip)) ?_
  rintro g ⟨hk, hg⟩
  have hgl := hg.len
  have hgn := hg.cnt
  have hgf := hg.few
  refine WC_seq ?_
  refine WC_region ?_
  refine WL_val rfl rfl rfl (R_lss rfl rfl rfl) ?_
  refine WL_nil ?_
  refine WQ_code ?_
  refine WC_seq ?_
  refine WC_dec rfl (fun c1 => ?_) (fun c1 => ?_)
  · refine WC_skip ?_
    refine WQ_code ?_
    refine WC_seq ?_
    refine WC_block ?_
    refine WC_seq ?_
    refine WC_region ?_
    obtain ⟨a, hak⟩ := exE (T := l) (i := g.k) (by omega)
    obtain ⟨lb, lk, lcs, le, lfr, rfl, rfl, hat⟩ := ha.some (by omega)
    refine WL_val rfl rfl rfl (R_indexAddrN rfl Try.underlying22 Try.sizeOf36 rfl rfl (by omega)) ?_
    refine WL_val rfl rfl rfl (R_loadAG (vs := [.int .i64 a.what, .int .i64 a.value, .int .i64 a.fn, .int .i64 a.fg]) rfl ag36 rfl (by repeat (first | exact List.Mem.head _ | refine List.Mem.tail _ ?_)) rfl (hat g.k a hak)) ?_
    refine WL_do rfl rfl rfl (D_alloc rfl zv36) ?_
    rintro _ _ ⟨b1, rfl, rfl⟩
    refine WL_do0 rfl rfl (D_store (vs := [_, _, _, _]) rfl Try.sizeOf36 rfl rfl rfl rfl rfl (by repeat (first | exact Pull.head | apply Pull.tail)) (by exact Nat.le_of_ble_eq_true rfl)) ?_
    rintro _ _ rfl
    refine WL_nil ?_
    refine WQ_code ?_
    refine WC_seq ?_
    refine WC_seq ?_
    refine WC_region ?_
    refine WL_val rfl rfl rfl (R_fieldAddr rfl fa36_0 rfl) ?_
    refine WL_val rfl rfl rfl (R_load rfl sc3 rfl (by repeat (first | exact List.Mem.head _ | refine List.Mem.tail _ ?_)) rfl) ?_
    refine WL_nil ?_
    refine WQ_code ?_
    refine WC_block ?_
    refine WC_seq ?_
    refine WC_region ?_
    refine WL_val rfl rfl rfl (R_eql rfl rfl rfl) ?_
    refine WL_val rfl rfl rfl (R_assign rfl rfl) ?_
    refine WL_nil ?_
    refine WQ_code ?_
    refine WC_dec rfl (fun c2 => ?_) (fun c2 => ?_)
    · refine WC_seq ?_
      refine WC_region ?_
      refine WL_val rfl rfl rfl (R_move rfl rfl) ?_
      refine WL_val rfl rfl rfl (R_fieldAddr rfl fa36_1 rfl) ?_
      refine WL_val rfl rfl rfl (R_load rfl sc3 rfl (by repeat (first | exact List.Mem.head _ | refine List.Mem.tail _ ?_)) rfl) ?_
      refine WL_do rfl rfl rfl (D_call (hopen p pb m [] g.T hg.fine g.L hg.ok (by omega) a.value) rfl rfl rfl rfl (by repeat (first | exact Pulls.nil | exact Pulls.all | (apply Pulls.cons; (repeat (first | exact Pull.head | apply Pull.tail))) | apply Pulls.skip))) ?_
      rintro _ _ ⟨_, ⟨n, gg, e, T2, rfl, rfl, hT2, hf2, hcase⟩, rfl⟩
      refine WL_val rfl rfl rfl (R_move rfl rfl) ?_
      refine WL_val rfl rfl rfl (R_extract rfl rfl rfl) ?_
      refine WL_val rfl rfl rfl (R_extract rfl rfl rfl) ?_
      refine WL_do rfl rfl rfl (D_alloc rfl zv34) ?_
      rintro _ _ ⟨b2, rfl, rfl⟩
      refine WL_do0 rfl rfl (D_store (vs := [_, _]) rfl Try.sizeOf34 rfl rfl rfl rfl rfl (by repeat (first | exact Pull.head | apply Pull.tail)) (by exact Nat.le_of_ble_eq_true rfl)) ?_
      rintro _ _ rfl
      refine WL_val rfl rfl rfl (R_assign rfl rfl) ?_
      refine WL_nil ?_
      refine WQ_code ?_
      refine WC_seq ?_
      refine WC_seq ?_
      refine WC_region ?_
      refine WL_val rfl rfl rfl (R_move rfl rfl) ?_
      refine WL_val rfl rfl rfl (R_neq rfl rfl rfl) ?_
      refine WL_nil ?_
      refine WQ_code ?_
      refine WC_dec rfl (fun c3 => ?_) (fun c3 => ?_)
      · have hok2 : Ok T2 g.L := (hcase.resolve_right (fun h => by omega)).2
        refine WC_exit ?_
        refine WQ_code ?_
        refine WC_region ?_
        refine WL_val rfl rfl rfl (R_add rfl rfl rfl (by omega)) ?_
        refine WL_val rfl rfl rfl (R_move rfl rfl) ?_
        refine WL_nil ?_
        refine WQ_nextF (⟨g.k + 1, T2, g.L, g.n, g.o1, g.c1, g.t1, g.o2, g.c2, g.t2, g.o3, g.c3, g.t3⟩) (⟨by dsimp only; omega, hT2.trans hg.len, hf2, hok2, hg.cnt, by have := hg.few; dsimp only; omega, hg.own1, hg.own2, hg.own3⟩) (by dsimp only; omega) (Le.lq (by repeat (first | exact Le.nil | refine Le.cons rfl (by first | rfl | (congr 1; omega)) ?_))) (by repeat (first | exact Pushed.refl | refine Pushed.push rfl ?_)) rfl (by repeat (first | exact Pulls.nil | exact Pulls.all | (apply Pulls.cons; (repeat (first | exact Pull.head | apply Pull.tail))) | apply Pulls.skip))
      · obtain ⟨he, hn0, hnm, hnew, hok2⟩ := hcase.resolve_left (fun h => by have := h.1; omega)
        refine WC_skip ?_
        refine WQ_code ?_
        refine WC_seq ?_
        refine WC_seq ?_
        refine WC_region ?_
        refine WL_val rfl rfl rfl (R_fieldAddr rfl fa34_0 rfl) ?_
        refine WL_val rfl rfl rfl (R_load rfl sc3 rfl (by repeat (first | exact List.Mem.head _ | refine List.Mem.tail _ ?_)) rfl) ?_
        refine WL_val rfl rfl rfl (R_lss rfl rfl rfl) ?_
        refine WL_val rfl rfl rfl (R_move rfl rfl) ?_
        refine WL_set (s := 70) (v := .bool false) rfl (by simp; omega) ?_
        refine WL_val rfl rfl rfl (R_fieldAddr rfl fa34_0 rfl) ?_
        refine WL_val rfl rfl rfl (R_load rfl sc3 rfl (by repeat (first | exact List.Mem.head _ | refine List.Mem.tail _ ?_)) rfl) ?_
        refine WL_val rfl rfl rfl (R_move rfl rfl) ?_
        refine WL_val rfl rfl rfl (R_geq rfl rfl rfl) ?_
        refine WL_val rfl rfl rfl (R_pickF rfl rfl rfl) ?_
        refine WL_nil ?_
        refine WQ_code ?_
        refine WC_dF rfl (by omega) ?_
        refine WC_skip ?_
        refine WQ_code ?_
        refine WC_seq ?_
        refine WC_seq ?_
        refine WC_region ?_
        refine WL_val rfl rfl rfl (R_move rfl rfl) ?_
        refine WL_val rfl rfl rfl (R_len rfl Try.underlying49 rfl) ?_
        refine WL_val rfl rfl rfl (R_move rfl rfl) ?_
        refine WL_nil ?_
        refine WQ_code ?_
        refine WC_block ?_
        refine WC_loopF (G := Nat) [4, 15, 78, 79, 80, 81, 82, 83, 84, 85] (fun x => x ≤ g.n) (fun x => [(78, .int .i64 (x : Int))]) (fun x => []) (fun x => g.n - x) (0) (Nat.zero_le _) (Le.lq (by repeat (first | exact Le.nil | refine Le.cons rfl (by first | rfl | (congr 1; omega)) ?_))) (by repeat (first | exact Pulls.nil | exact Pulls.all | (apply Pulls.cons; (repeat (first | exact Pull.head | apply Pull.tail))) | apply Pulls.skip)) ?_
        rintro x hx
        refine WC_seq ?_
        refine WC_region ?_
        refine WL_val rfl rfl rfl (R_lss rfl rfl rfl) ?_
        refine WL_nil ?_
        refine WQ_code ?_
        refine WC_seq ?_
        refine WC_dec rfl (fun c4 => ?_) (fun c4 => ?_)
        · refine WC_skip ?_
          refine WQ_code ?_
          refine WC_seq ?_
          refine WC_block ?_
          refine WC_seq ?_
          refine WC_region ?_
          obtain ⟨y, hy⟩ := exE (T := g.L) (i := x) (by omega)
          obtain ⟨wb1, hwb1⟩ := hg.own1.some_of (by omega)
          rw [hwb1]
          refine WL_val rfl rfl rfl (R_indexAddrN rfl Try.underlying49 Try.sizeOf34 rfl rfl (by omega)) ?_
          refine WL_val rfl rfl rfl (R_loadA (vs := [.int .i64 y.n, .int .i64 y.gen]) rfl ag34 rfl (by repeat (first | exact List.Mem.head _ | refine List.Mem.tail _ ?_)) rfl ((fm_at0 encN2 hy (j := 0) (vs := [.int .i64 y.n, .int .i64 y.gen]) (At.cons (At.cons At.nil)) (by simp)))) ?_
          refine WL_do rfl rfl rfl (D_alloc rfl zv34) ?_
          rintro _ _ ⟨b3, rfl, rfl⟩
          refine WL_do0 rfl rfl (D_store (vs := [_, _]) rfl Try.sizeOf34 rfl rfl rfl rfl rfl (by repeat (first | exact Pull.head | apply Pull.tail)) (by exact Nat.le_of_ble_eq_true rfl)) ?_
          rintro _ _ rfl
          refine WL_nil ?_
          refine WQ_code ?_
          refine WC_seq ?_
          refine WC_region ?_
          refine WL_val rfl rfl rfl (R_loadA (vs := [_, _]) rfl ag34 rfl (by repeat (first | exact List.Mem.head _ | refine List.Mem.tail _ ?_)) rfl (by repeat (first | exact At.nil | refine At.cons ?_ | refine At.succ ?_))) ?_
          refine WL_val rfl rfl rfl (R_loadA (vs := [_, _]) rfl ag34 rfl (by repeat (first | exact List.Mem.head _ | refine List.Mem.tail _ ?_)) rfl (by repeat (first | exact At.nil | refine At.cons ?_ | refine At.succ ?_))) ?_
          refine WL_val rfl rfl rfl (R_seq34 rfl rfl rfl rfl) ?_
          refine WL_nil ?_
          refine WQ_code ?_
          refine WC_dF rfl (by simp; exact fun e1 e2 => hnew y (List.mem_of_getElem? hy) ⟨e1, e2⟩) ?_
          refine WC_skip ?_
          refine WQ_code ?_
          refine WC_region ?_
          refine WL_val rfl rfl rfl (R_add rfl rfl rfl (by omega)) ?_
          refine WL_val rfl rfl rfl (R_move rfl rfl) ?_
          refine WL_nil ?_
          refine WQ_nextF (x + 1) (by omega) (by omega) (Le.lq (by repeat (first | exact Le.nil | refine Le.cons rfl (by first | rfl | (congr 1; omega)) ?_))) (by repeat (first | exact Pushed.refl | refine Pushed.push rfl ?_)) rfl (by repeat (first | exact Pulls.nil | exact Pulls.all | (apply Pulls.cons; (repeat (first | exact Pull.head | apply Pull.tail))) | apply Pulls.skip))
        · refine WC_exit ?_
          refine WQ_code ?_
          refine WC_drawB ([⟨some b1, cl [.int .i64 a.what, .int .i64 a.value, .int .i64 a.fn, .int .i64 a.fg] 36⟩, ⟨some b2, cl [.int .i64 n, .int .i64 gg] 34⟩]) [(0, .q), (1, .q), (4, .q), (5, .q), (6, .q), (9, .q), (2, .b [7, 10]), (3, .n [7, 10]), (7, .b [10]), (8, .n [10]), (10, .b []), (11, .n []), (12, .q), (13, .q), (14, .q)] followsMixed rfl rfl (by kernel_rfl) (by repeat (first | exact Pulls.nil | exact Pulls.all | (apply Pulls.cons; (repeat (first | exact Pull.head | apply Pull.tail))) | apply Pulls.skip)) ?_
          refine WB_val rfl rfl rfl rfl (R_move rfl rfl) ?_
          refine WB_val rfl rfl rfl rfl (R_loadA (vs := [_, _]) rfl ag34 rfl (by repeat (first | exact List.Mem.head _ | refine List.Mem.tail _ ?_)) rfl (by repeat (first | exact At.nil | refine At.cons ?_ | refine At.succ ?_))) ?_
          refine WB_val rfl rfl rfl rfl (R_move rfl rfl) ?_
          refine WB_val rfl rfl rfl rfl (R_fieldAddr rfl fa36_1 rfl) ?_
          refine WB_val rfl rfl rfl rfl (R_load rfl sc3 rfl (by repeat (first | exact List.Mem.head _ | refine List.Mem.tail _ ?_)) rfl) ?_
          refine WB_val rfl rfl rfl rfl (R_move rfl rfl) ?_
          refine WB_birth rfl rfl rfl rfl (.cons rfl rfl (B_buildSlice rfl si50 rfl rfl rfl) (.cons rfl rfl (B_buildSlice rfl si51 rfl rfl rfl) .nil)) (B_buildSlice rfl si49 rfl rfl rfl) (fun b4 => ?_)
          refine WB_do rfl rfl rfl rfl (.cons rfl rfl (B_buildSlice rfl si50 rfl rfl rfl) (.cons rfl rfl (B_buildSlice rfl si51 rfl rfl rfl) .nil)) (fun _ => D_append rfl si49 rfl (hg.own1) (by repeat (first | exact Pull.head | apply Pull.tail)) rfl (by repeat (first | exact List.Mem.head _ | refine List.Mem.tail _ ?_)) ((by repeat (first | exact At.nil | refine At.cons ?_ | refine At.succ ?_) : At _ 0 [_, _])) (rfl) (rfl) (by omega) (by omega)) ?_
          rintro _ _ ⟨ob5, cap5, tl5, rfl, own5, rfl⟩
          refine ⟨⟨_, by repeat (first | exact Pulls.nil | exact Pulls.all | (apply Pulls.cons; (repeat (first | exact Pull.head | apply Pull.tail))) | apply Pulls.skip)⟩, ?_⟩
          have hs1 : g.L.flatMap encN ++ [Value.int .i64 n, .int .i64 gg] = (g.L ++ ([⟨n, gg, a.value, false⟩] : List Fl)).flatMap encN := by simp [encN]
          rw [hs1] at own5 ⊢
          refine WB_birth rfl rfl rfl rfl (.cons rfl rfl (B_buildSlice rfl si51 rfl rfl rfl) .nil) (B_buildSlice rfl si50 rfl rfl rfl) (fun b6 => ?_)
          refine WB_do rfl rfl rfl rfl (.cons rfl rfl (B_buildSlice rfl si51 rfl rfl rfl) .nil) (fun _ => D_append rfl si50 rfl (hg.own2) (by repeat (first | exact Pull.head | apply Pull.tail)) rfl (by repeat (first | exact List.Mem.head _ | refine List.Mem.tail _ ?_)) ((by repeat (first | exact At.nil | refine At.cons ?_ | refine At.succ ?_) : At _ 0 [_])) (rfl) (rfl) (by omega) (by omega)) ?_
          rintro _ _ ⟨ob7, cap7, tl7, rfl, own7, rfl⟩
          refine ⟨⟨_, by repeat (first | exact Pulls.nil | exact Pulls.all | (apply Pulls.cons; (repeat (first | exact Pull.head | apply Pull.tail))) | apply Pulls.skip)⟩, ?_⟩
          have hs2 : g.L.flatMap encV ++ [Value.int .i64 a.value] = (g.L ++ ([⟨n, gg, a.value, false⟩] : List Fl)).flatMap encV := by simp [encV]
          rw [hs2] at own7 ⊢
          refine WB_birth rfl rfl rfl rfl .nil (B_buildSlice rfl si51 rfl rfl rfl) (fun b8 => ?_)
          refine WB_do rfl rfl rfl rfl .nil (fun _ => D_append rfl si51 rfl (hg.own3) (by repeat (first | exact Pull.head | apply Pull.tail)) rfl (by repeat (first | exact List.Mem.head _ | refine List.Mem.tail _ ?_)) ((by repeat (first | exact At.nil | refine At.cons ?_ | refine At.succ ?_) : At _ 0 [_])) (rfl) (rfl) (by omega) (by omega)) ?_
          rintro _ _ ⟨ob9, cap9, tl9, rfl, own9, rfl⟩
          refine ⟨⟨_, by repeat (first | exact Pulls.nil | exact Pulls.all | (apply Pulls.cons; (repeat (first | exact Pull.head | apply Pull.tail))) | apply Pulls.skip)⟩, ?_⟩
          have hs3 : g.L.flatMap encC ++ [Value.bool false] = (g.L ++ ([⟨n, gg, a.value, false⟩] : List Fl)).flatMap encC := by simp [encC]
          rw [hs3] at own9 ⊢
          refine WB_val rfl rfl rfl rfl (R_assign rfl rfl) ?_
          refine WB_val rfl rfl rfl rfl (R_assign rfl rfl) ?_
          refine WB_val rfl rfl rfl rfl (R_assign rfl rfl) ?_
          refine WB_nil ?_
          refine WQ_code ?_
          refine WC_seq ?_
          refine WC_region ?_
          refine WL_val rfl rfl rfl (R_move rfl rfl) ?_
          refine WL_val rfl rfl rfl (R_len rfl Try.underlying49 rfl) ?_
          refine WL_val rfl rfl rfl (R_move rfl rfl) ?_
          refine WL_nil ?_
          refine WQ_code ?_
          refine WC_block ?_
          refine WC_loopF (G := Nat) [4, 22, 23, 24, 181, 182, 183, 184, 185, 186, 187, 188, 189, 190, 191, 192, 193, 194, 195, 196, 197, 198, 199, 200, 201, 202, 203, 204, 205, 206, 207, 208, 209, 210, 211, 212, 213, 214, 215, 216, 217, 218, 219, 220] (fun x => x ≤ (g.n + 1)) (fun x => [(181, .int .i64 (x : Int))]) (fun x => []) (fun x => (g.n + 1) - x) (0) (Nat.zero_le _) (Le.lq (by repeat (first | exact Le.nil | refine Le.cons rfl (by first | rfl | (congr 1; omega)) ?_))) (by repeat (first | exact Pulls.nil | exact Pulls.all | (apply Pulls.cons; (repeat (first | exact Pull.head | apply Pull.tail))) | apply Pulls.skip)) ?_
          rintro x hx
          refine WC_seq ?_
          refine WC_region ?_
          refine WL_val rfl rfl rfl (R_lss rfl rfl rfl) ?_
          refine WL_nil ?_
          refine WQ_code ?_
          refine WC_seq ?_
          refine WC_dec rfl (fun c5 => ?_) (fun c5 => ?_)
          · refine WC_skip ?_
            refine WQ_code ?_
            refine WC_seq ?_
            refine WC_block ?_
            refine WC_seq ?_
            refine WC_region ?_
            refine WL_val rfl rfl rfl (R_move rfl rfl) ?_
            refine WL_val rfl rfl rfl (R_assign rfl rfl) ?_
            refine WL_nil ?_
            refine WQ_code ?_
            refine WC_seq ?_
            refine WC_region ?_
            refine WL_val rfl rfl rfl (R_move rfl rfl) ?_
            refine WL_val rfl rfl rfl (R_move rfl rfl) ?_
            refine WL_val rfl rfl rfl (R_move rfl rfl) ?_
            obtain ⟨y, hy⟩ := exE (T := (g.L ++ [⟨n, gg, a.value, false⟩])) (i := x) (by first | omega | (simp; omega))
            obtain ⟨wb1, hwb1⟩ := own5.some_of (by omega)
            rw [hwb1]
            obtain ⟨wb2, hwb2⟩ := own7.some_of (by omega)
            rw [hwb2]
            obtain ⟨wb3, hwb3⟩ := own9.some_of (by omega)
            rw [hwb3]
            refine WL_val rfl rfl rfl (R_indexAddrN rfl Try.underlying49 Try.sizeOf34 rfl rfl (by omega)) ?_
            refine WL_val rfl rfl rfl (R_loadA (vs := [.int .i64 y.n, .int .i64 y.gen]) rfl ag34 rfl (by repeat (first | exact List.Mem.head _ | refine List.Mem.tail _ ?_)) rfl ((fm_at0 encN2 hy (j := 0) (vs := [.int .i64 y.n, .int .i64 y.gen]) (At.cons (At.cons At.nil)) (by simp)))) ?_
            refine WL_do rfl rfl rfl (D_call (hget p pb m [] T2 hf2 (g.L ++ [⟨n, gg, a.value, false⟩]) hok2 (by first | omega | (simp; omega)) x y hy) rfl rfl rfl rfl (by repeat (first | exact Pulls.nil | exact Pulls.all | (apply Pulls.cons; (repeat (first | exact Pull.head | apply Pull.tail))) | apply Pulls.skip))) ?_
            rintro _ _ ⟨_, ⟨v9, e9, rfl, rfl, hc9, hc0⟩, rfl⟩
            refine WL_val rfl rfl rfl (R_move rfl rfl) ?_
            refine WL_val rfl rfl rfl (R_extract rfl rfl rfl) ?_
            refine WL_val rfl rfl rfl (R_extract rfl rfl rfl) ?_
            refine WL_val rfl rfl rfl (R_assign rfl rfl) ?_
            refine WL_val rfl rfl rfl (R_assign rfl rfl) ?_
            refine WL_nil ?_
            refine WQ_code ?_
            refine WC_seq ?_
            refine WC_region ?_
            refine WL_val rfl rfl rfl (R_move rfl rfl) ?_
            refine WL_val rfl rfl rfl (R_move rfl rfl) ?_
            refine WL_val rfl rfl rfl (R_indexAddrN rfl Try.underlying51 Try.sizeOf4 rfl rfl (by omega)) ?_
            refine WL_val rfl rfl rfl (R_load (v := .bool y.closed) rfl sc4 rfl (by repeat (first | exact List.Mem.head _ | refine List.Mem.tail _ ?_)) (fm_get0 encC1 hy (j := 0) (by omega))) ?_
            refine WL_val rfl rfl rfl (R_move rfl rfl) ?_
            refine WL_split (s := 197) rfl (fun c6 => ?_) (fun c6 => ?_)
            · have hcl := c6
              have he9 := hc9 hcl
              refine WL_val rfl rfl rfl (R_move rfl rfl) ?_
              refine WL_val rfl rfl rfl (R_neq rfl rfl rfl) ?_
              refine WL_val rfl rfl rfl (R_pickT rfl rfl rfl) ?_
              refine WL_val rfl rfl rfl (R_move rfl rfl) ?_
              refine WL_set (s := 201) (v := .bool false) rfl (by simp [he9]) ?_
              refine WL_val rfl rfl rfl (R_move rfl rfl) ?_
              refine WL_val rfl rfl rfl (R_move rfl rfl) ?_
              refine WL_val rfl rfl rfl (R_indexAddrN rfl Try.underlying51 Try.sizeOf4 rfl rfl (by omega)) ?_
              refine WL_val rfl rfl rfl (R_load (v := .bool y.closed) rfl sc4 rfl (by repeat (first | exact List.Mem.head _ | refine List.Mem.tail _ ?_)) (fm_get0 encC1 hy (j := 0) (by omega))) ?_
              refine WL_val rfl rfl rfl (R_not rfl rfl) ?_
              refine WL_val rfl rfl rfl (R_move rfl rfl) ?_
              refine WL_set (s := 207) (v := .bool false) rfl (by simp [hcl]) ?_
              refine WL_skip rfl rfl rfl ?_
              refine WL_skip rfl rfl rfl ?_
              refine WL_skip rfl rfl rfl ?_
              refine WL_skip rfl rfl rfl ?_
              refine WL_skip rfl rfl rfl ?_
              refine WL_skip rfl rfl rfl ?_
              refine WL_skip rfl rfl rfl ?_
              refine WL_skip rfl rfl rfl ?_
              refine WL_skip rfl rfl rfl ?_
              refine WL_skip rfl rfl rfl ?_
              refine WL_val rfl rfl rfl (R_pickF rfl rfl rfl) ?_
              refine WL_val rfl rfl rfl (R_pickF rfl rfl rfl) ?_
              refine WL_nil ?_
              refine WQ_code ?_
              refine WC_F rfl ?_
              refine WC_skip ?_
              refine WQ_code ?_
              refine WC_region ?_
              refine WL_val rfl rfl rfl (R_add rfl rfl rfl (by omega)) ?_
              refine WL_val rfl rfl rfl (R_move rfl rfl) ?_
              refine WL_nil ?_
              refine WQ_nextF (x + 1) (by omega) (by omega) (Le.lq (by repeat (first | exact Le.nil | refine Le.cons rfl (by first | rfl | (congr 1; omega)) ?_))) (by repeat (first | exact Pushed.refl | refine Pushed.push rfl ?_)) rfl (by repeat (first | exact Pulls.nil | exact Pulls.all | (apply Pulls.cons; (repeat (first | exact Pull.head | apply Pull.tail))) | apply Pulls.skip))
            · have hcl := c6
              obtain ⟨hv0, he0⟩ := hc0 hcl
              refine WL_skip rfl rfl rfl ?_
              refine WL_skip rfl rfl rfl ?_
              refine WL_val rfl rfl rfl (R_pickF rfl rfl rfl) ?_
              refine WL_val rfl rfl rfl (R_move rfl rfl) ?_
              refine WL_val rfl rfl rfl (R_move rfl rfl) ?_
              refine WL_val rfl rfl rfl (R_move rfl rfl) ?_
              refine WL_val rfl rfl rfl (R_indexAddrN rfl Try.underlying51 Try.sizeOf4 rfl rfl (by omega)) ?_
              refine WL_val rfl rfl rfl (R_load (v := .bool y.closed) rfl sc4 rfl (by repeat (first | exact List.Mem.head _ | refine List.Mem.tail _ ?_)) (fm_get0 encC1 hy (j := 0) (by omega))) ?_
              refine WL_val rfl rfl rfl (R_not rfl rfl) ?_
              refine WL_val rfl rfl rfl (R_move rfl rfl) ?_
              refine WL_set (s := 207) (v := .bool true) rfl (by simp [hcl]) ?_
              refine WL_val rfl rfl rfl (R_move rfl rfl) ?_
              refine WL_val rfl rfl rfl (R_move rfl rfl) ?_
              refine WL_val rfl rfl rfl (R_move rfl rfl) ?_
              refine WL_val rfl rfl rfl (R_indexAddrN rfl Try.underlying50 Try.sizeOf3 rfl rfl (by omega)) ?_
              refine WL_val rfl rfl rfl (R_load (v := .int .i64 y.value) rfl sc3 rfl (by repeat (first | exact List.Mem.head _ | refine List.Mem.tail _ ?_)) (fm_get0 encV1 hy (j := 0) (by omega))) ?_
              refine WL_val rfl rfl rfl (R_neq rfl rfl rfl) ?_
              refine WL_val rfl rfl rfl (R_move rfl rfl) ?_
              refine WL_set (s := 214) (v := .bool false) rfl (by simp [hv0]) ?_
              refine WL_val rfl rfl rfl (R_move rfl rfl) ?_
              refine WL_val rfl rfl rfl (R_neq rfl rfl rfl) ?_
              refine WL_val rfl rfl rfl (R_pickF rfl rfl rfl) ?_
              refine WL_val rfl rfl rfl (R_pickT rfl rfl rfl) ?_
              refine WL_val rfl rfl rfl (R_pickF rfl rfl rfl) ?_
              refine WL_nil ?_
              refine WQ_code ?_
              refine WC_dF rfl (by simp [he0]) ?_
              refine WC_skip ?_
              refine WQ_code ?_
              refine WC_region ?_
              refine WL_val rfl rfl rfl (R_add rfl rfl rfl (by omega)) ?_
              refine WL_val rfl rfl rfl (R_move rfl rfl) ?_
              refine WL_nil ?_
              refine WQ_nextF (x + 1) (by omega) (by omega) (Le.lq (by repeat (first | exact Le.nil | refine Le.cons rfl (by first | rfl | (congr 1; omega)) ?_))) (by repeat (first | exact Pushed.refl | refine Pushed.push rfl ?_)) rfl (by repeat (first | exact Pulls.nil | exact Pulls.all | (apply Pulls.cons; (repeat (first | exact Pull.head | apply Pull.tail))) | apply Pulls.skip))
          · refine WC_exit ?_
            refine WQ_code ?_
            refine WC_region ?_
            refine WL_val rfl rfl rfl (R_add rfl rfl rfl (by omega)) ?_
            refine WL_val rfl rfl rfl (R_move rfl rfl) ?_
            refine WL_nil ?_
            refine WQ_nextF (⟨g.k + 1, T2, (g.L ++ [⟨n, gg, a.value, false⟩]), (g.n + 1), ob5, cap5, tl5, ob7, cap7, tl7, ob9, cap9, tl9⟩) (⟨by dsimp only; omega, hT2.trans hg.len, hf2, hok2, (by have := hg.cnt; dsimp only; rw [List.length_append, List.length_singleton]; omega), by have := hg.few; dsimp only; rw [List.length_append, List.length_singleton]; omega, own5, own7, own9⟩) (by dsimp only; omega) (Le.lq (by repeat (first | exact Le.nil | refine Le.cons rfl (by first | rfl | (congr 1; omega)) ?_))) (by repeat (first | exact Pushed.refl | refine Pushed.push rfl ?_)) rfl (by repeat (first | exact Pulls.nil | exact Pulls.all | (apply Pulls.cons; (repeat (first | exact Pull.head | apply Pull.tail))) | apply Pulls.skip))
    · refine WC_seq ?_
      refine WC_seq ?_
      refine WC_region ?_
      refine WL_val rfl rfl rfl (R_eql rfl rfl rfl) ?_
      refine WL_val rfl rfl rfl (R_assign rfl rfl) ?_
      refine WL_nil ?_
      refine WQ_code ?_
      refine WC_dec rfl (fun c7 => ?_) (fun c7 => ?_)
      · refine WC_skip ?_
        refine WQ_code ?_
        refine WC_dT rfl c7 ?_
        refine WC_seq ?_
        refine WC_region ?_
        refine WL_val rfl rfl rfl (R_fieldAddr rfl fa36_2 rfl) ?_
        refine WL_val rfl rfl rfl (R_loadA (vs := [_, _]) rfl ag34 rfl (by repeat (first | exact List.Mem.head _ | refine List.Mem.tail _ ?_)) rfl (by repeat (first | exact At.nil | refine At.cons ?_ | refine At.succ ?_))) ?_
        refine WL_do rfl rfl rfl (D_alloc rfl zv34) ?_
        rintro _ _ ⟨b10, rfl, rfl⟩
        refine WL_do0 rfl rfl (D_store (vs := [_, _]) rfl Try.sizeOf34 rfl rfl rfl rfl rfl (by repeat (first | exact Pull.head | apply Pull.tail)) (by exact Nat.le_of_ble_eq_true rfl)) ?_
        rintro _ _ rfl
        refine WL_nil ?_
        refine WQ_code ?_
        refine WC_seq ?_
        refine WC_seq ?_
        refine WC_region ?_
        refine WL_val rfl rfl rfl (R_fieldAddr rfl fa36_0 rfl) ?_
        refine WL_val rfl rfl rfl (R_load rfl sc3 rfl (by repeat (first | exact List.Mem.head _ | refine List.Mem.tail _ ?_)) rfl) ?_
        refine WL_val rfl rfl rfl (R_eql rfl rfl rfl) ?_
        refine WL_nil ?_
        refine WQ_code ?_
        refine WC_dec rfl (fun c8 => ?_) (fun c8 => ?_)
        · refine WC_region ?_
          refine WL_val rfl rfl rfl (R_move rfl rfl) ?_
          refine WL_val rfl rfl rfl (R_fieldAddr rfl fa36_2 rfl) ?_
          refine WL_val rfl rfl rfl (R_fieldAddr rfl fa34_0 rfl) ?_
          refine WL_val rfl rfl rfl (R_load rfl sc3 rfl (by repeat (first | exact List.Mem.head _ | refine List.Mem.tail _ ?_)) rfl) ?_
          refine WL_do rfl rfl rfl (D_call (hat_any p pb m [] g.T hg.fine a.fn) rfl rfl rfl rfl (by repeat (first | exact Pulls.nil | exact Pulls.all | (apply Pulls.cons; (repeat (first | exact Pull.head | apply Pull.tail))) | apply Pulls.skip))) ?_
          rintro _ _ ⟨_, ⟨a1, a2, e1, rfl, rfl⟩, rfl⟩
          refine WL_val rfl rfl rfl (R_move rfl rfl) ?_
          refine WL_val rfl rfl rfl (R_extract rfl rfl rfl) ?_
          refine WL_val rfl rfl rfl (R_extract rfl rfl rfl) ?_
          refine WL_do0 rfl rfl (D_store (vs := [_, _]) rfl Try.sizeOf34 rfl rfl rfl rfl rfl (by repeat (first | exact Pull.head | apply Pull.tail)) (by exact Nat.le_of_ble_eq_true rfl)) ?_
          rintro _ _ rfl
          refine WL_nil ?_
          refine WQ_code ?_
          refine WC_seq ?_
          refine WC_region ?_
          refine WL_val rfl rfl rfl (R_move rfl rfl) ?_
          refine WL_val rfl rfl rfl (R_loadA (vs := [_, _]) rfl ag34 rfl (by repeat (first | exact List.Mem.head _ | refine List.Mem.tail _ ?_)) rfl (by repeat (first | exact At.nil | refine At.cons ?_ | refine At.succ ?_))) ?_
          refine WL_do rfl rfl rfl (D_call (hclose p pb m [] g.T hg.fine g.L hg.ok (by omega) a1 a2) rfl rfl rfl rfl (by repeat (first | exact Pulls.nil | exact Pulls.all | (apply Pulls.cons; (repeat (first | exact Pull.head | apply Pull.tail))) | apply Pulls.skip))) ?_
          rintro _ _ ⟨_, ⟨v, e, T2, rfl, rfl, hT2, hf2, hok2, hez⟩, rfl⟩
          refine WL_val rfl rfl rfl (R_move rfl rfl) ?_
          refine WL_val rfl rfl rfl (R_extract rfl rfl rfl) ?_
          refine WL_val rfl rfl rfl (R_extract rfl rfl rfl) ?_
          refine WL_val rfl rfl rfl (R_assign rfl rfl) ?_
          refine WL_val rfl rfl rfl (R_assign rfl rfl) ?_
          refine WL_nil ?_
          refine WQ_code ?_
          refine WC_seq ?_
          refine WC_region ?_
          refine WL_val rfl rfl rfl (R_move rfl rfl) ?_
          refine WL_val rfl rfl rfl (R_len rfl Try.underlying49 rfl) ?_
          refine WL_val rfl rfl rfl (R_move rfl rfl) ?_
          refine WL_nil ?_
          refine WQ_code ?_
          refine WC_block ?_
          refine WC_loopF (G := Nat) [4, 19, 122, 123, 124, 125, 126, 127, 128, 129, 130, 131, 132, 133, 134, 135, 136, 137, 138, 139, 140, 141, 142, 143] (fun x => x ≤ g.n) (fun x => [(122, .int .i64 (x : Int))]) (fun x => [⟨g.o3, cl ((midL (mark a1 a2) g.L x).flatMap encC ++ g.t3) 4⟩]) (fun x => g.n - x) (0) (Nat.zero_le _) (Le.lq (by repeat (first | exact Le.nil | refine Le.cons rfl (by first | rfl | (congr 1; omega)) ?_))) (by repeat (first | exact Pulls.nil | exact Pulls.all | (apply Pulls.cons; (repeat (first | exact Pull.head | apply Pull.tail))) | apply Pulls.skip)) ?_
          rintro x hx
          refine WC_seq ?_
          refine WC_region ?_
          refine WL_val rfl rfl rfl (R_lss rfl rfl rfl) ?_
          refine WL_nil ?_
          refine WQ_code ?_
          refine WC_seq ?_
          refine WC_dec rfl (fun c9 => ?_) (fun c9 => ?_)
          · refine WC_skip ?_
            refine WQ_code ?_
            refine WC_seq ?_
            refine WC_block ?_
            refine WC_seq ?_
            refine WC_region ?_
            refine WL_val rfl rfl rfl (R_move rfl rfl) ?_
            refine WL_val rfl rfl rfl (R_assign rfl rfl) ?_
            refine WL_nil ?_
            refine WQ_code ?_
            refine WC_seq ?_
            refine WC_draw _ [(0, true), (1, true), (2, true), (3, true), (4, true), (5, true), (6, true), (7, true), (8, true), (9, true), (10, true), (11, true), (12, true)] followsMixed rfl rfl (by kernel_rfl) .all ?_
            refine WM_val rfl rfl rfl rfl (R_move rfl rfl) ?_
            refine WM_val rfl rfl rfl rfl (R_move rfl rfl) ?_
            obtain ⟨y, hy⟩ := exE (T := g.L) (i := x) (by omega)
            obtain ⟨wb1, hwb1⟩ := hg.own1.some_of (by omega)
            rw [hwb1]
            obtain ⟨wb3, hwb3⟩ := hg.own3.some_of (by omega)
            rw [hwb3]
            refine WM_val rfl rfl rfl rfl (R_indexAddrN rfl Try.underlying49 Try.sizeOf34 rfl rfl (by omega)) ?_
            refine WM_val rfl rfl rfl rfl (R_loadA (vs := [.int .i64 y.n, .int .i64 y.gen]) rfl ag34 rfl (by repeat (first | exact List.Mem.head _ | refine List.Mem.tail _ ?_)) rfl ((fm_at0 encN2 hy (j := 0) (vs := [.int .i64 y.n, .int .i64 y.gen]) (At.cons (At.cons At.nil)) (by simp)))) ?_
            refine WM_val rfl rfl rfl rfl (R_loadA (vs := [_, _]) rfl ag34 rfl (by repeat (first | exact List.Mem.head _ | refine List.Mem.tail _ ?_)) rfl (by repeat (first | exact At.nil | refine At.cons ?_ | refine At.succ ?_))) ?_
            refine WM_val rfl rfl rfl rfl (R_seq34 rfl rfl rfl rfl) ?_
            refine WM_val rfl rfl rfl rfl (R_move rfl rfl) ?_
            refine WM_splitD (s := 131) rfl (fun c10 => ?_) (fun c10 => ?_)
            · refine WM_val rfl rfl rfl rfl (R_move rfl rfl) ?_
              refine WM_val rfl rfl rfl rfl (R_move rfl rfl) ?_
              refine WM_val rfl rfl rfl rfl (R_indexAddrN rfl Try.underlying51 Try.sizeOf4 rfl rfl (by omega)) ?_
              refine WM_val rfl rfl rfl rfl (R_load (v := .bool y.closed) rfl sc4 rfl (by repeat (first | exact List.Mem.head _ | refine List.Mem.tail _ ?_)) (fm_get0 encC1 (midL_at hy) (j := 0) (by omega))) ?_
              refine WM_val rfl rfl rfl rfl (R_not rfl rfl) ?_
              refine WM_val rfl rfl rfl rfl (R_pickT rfl rfl rfl) ?_
              refine WM_nil ?_
              refine WQ_code ?_
              refine WC_if rfl (fun c11 => ?_) (fun c11 => ?_)
              · have hh : hit a1 a2 y = true := hit_iff.2 ⟨by simp_all, by simp_all, by simp_all⟩
                have he0 := hez y (List.mem_of_getElem? hy) hh
                refine WC_seq ?_
                refine WC_seq ?_
                refine WC_region ?_
                refine WL_val rfl rfl rfl (R_move rfl rfl) ?_
                refine WL_val rfl rfl rfl (R_neq rfl rfl rfl) ?_
                refine WL_nil ?_
                refine WQ_code ?_
                refine WC_dF rfl (by omega) ?_
                refine WC_skip ?_
                refine WQ_code ?_
                refine WC_region ?_
                refine WL_val rfl rfl rfl (R_move rfl rfl) ?_
                refine WL_val rfl rfl rfl (R_move rfl rfl) ?_
                refine WL_val rfl rfl rfl (R_indexAddrN rfl Try.underlying51 Try.sizeOf4 rfl rfl (by omega)) ?_
                refine WL_do0 rfl rfl (D_store (vs := [_]) rfl Try.sizeOf4 rfl rfl rfl rfl rfl (by repeat (first | exact Pull.head | apply Pull.tail)) (by exact fm_room0 encC1 (by rw [midL_len]; exact lt_of2 hy) (j := 0) (by omega))) ?_
                rintro _ _ rfl
                have hput := fm_put0 encC1 (mark a1 a2 y) (midL_at (f := mark a1 a2) hy) (j := 0) (vs := [.bool true]) (by simp) (by rw [mark, hh]; rfl) (tl := g.t3)
                rw [Nat.add_zero] at hput
                rw [hput, ← midL_succ hy]
                refine WL_nil ?_
                refine WQ_code ?_
                refine WC_region ?_
                refine WL_val rfl rfl rfl (R_add rfl rfl rfl (by omega)) ?_
                refine WL_val rfl rfl rfl (R_move rfl rfl) ?_
                refine WL_nil ?_
                refine WQ_nextF (x + 1) (by omega) (by omega) (Le.lq (by repeat (first | exact Le.nil | refine Le.cons rfl (by first | rfl | (congr 1; omega)) ?_))) (by repeat (first | exact Pushed.refl | refine Pushed.push rfl ?_)) rfl (by repeat (first | exact Pulls.nil | exact Pulls.all | (apply Pulls.cons; (repeat (first | exact Pull.head | apply Pull.tail))) | apply Pulls.skip))
              · have hh : hit a1 a2 y = false := hit_no (by simp_all)
                refine WC_skip ?_
                refine WQ_code ?_
                refine WC_region ?_
                refine WL_val rfl rfl rfl (R_add rfl rfl rfl (by omega)) ?_
                refine WL_val rfl rfl rfl (R_move rfl rfl) ?_
                refine WL_nil ?_
                rw [← midL_same hy (show mark a1 a2 y = y by rw [mark, hh]; rfl)]
                refine WQ_nextF (x + 1) (by omega) (by omega) (Le.lq (by repeat (first | exact Le.nil | refine Le.cons rfl (by first | rfl | (congr 1; omega)) ?_))) (by repeat (first | exact Pushed.refl | refine Pushed.push rfl ?_)) rfl (by repeat (first | exact Pulls.nil | exact Pulls.all | (apply Pulls.cons; (repeat (first | exact Pull.head | apply Pull.tail))) | apply Pulls.skip))
            · refine WM_skip rfl rfl rfl rfl ?_
              refine WM_skip rfl rfl rfl rfl ?_
              refine WM_skip rfl rfl rfl rfl ?_
              refine WM_skip rfl rfl rfl rfl ?_
              refine WM_skip rfl rfl rfl rfl ?_
              refine WM_val rfl rfl rfl rfl (R_pickF rfl rfl rfl) ?_
              refine WM_nil ?_
              refine WQ_code ?_
              refine WC_F rfl ?_
              refine WC_skip ?_
              refine WQ_code ?_
              refine WC_region ?_
              refine WL_val rfl rfl rfl (R_add rfl rfl rfl (by omega)) ?_
              refine WL_val rfl rfl rfl (R_move rfl rfl) ?_
              refine WL_nil ?_
              have hh : hit a1 a2 y = false := hit_no (by simp_all)
              rw [← midL_same hy (show mark a1 a2 y = y by rw [mark, hh]; rfl)]
              refine WQ_nextF (x + 1) (by omega) (by omega) (Le.lq (by repeat (first | exact Le.nil | refine Le.cons rfl (by first | rfl | (congr 1; omega)) ?_))) (by repeat (first | exact Pushed.refl | refine Pushed.push rfl ?_)) rfl (by repeat (first | exact Pulls.nil | exact Pulls.all | (apply Pulls.cons; (repeat (first | exact Pull.head | apply Pull.tail))) | apply Pulls.skip))
          · have ex : x = g.L.length := by omega
            rw [ex, midL_all, ← fm_same (mark_N a1 a2) g.L, ← fm_same (mark_V a1 a2) g.L]
            have own1x := own_len hg.own1 (congrArg List.length (fm_same (mark_N a1 a2) g.L))
            have own2x := own_len hg.own2 (congrArg List.length (fm_same (mark_V a1 a2) g.L))
            have own3x : Own g.o3 g.n g.c3 1 ((g.L.map (mark a1 a2)).flatMap encC) g.t3 := own_len hg.own3 (by rw [fm_length encC1, fm_length encC1, List.length_map])
            refine WC_exit ?_
            refine WQ_code ?_
            refine WC_seq ?_
            refine WC_region ?_
            refine WL_val rfl rfl rfl (R_move rfl rfl) ?_
            refine WL_val rfl rfl rfl (R_len rfl Try.underlying49 rfl) ?_
            refine WL_val rfl rfl rfl (R_move rfl rfl) ?_
            refine WL_nil ?_
            refine WQ_code ?_
            refine WC_block ?_
            refine WC_loopF (G := Nat) [4, 22, 23, 24, 181, 182, 183, 184, 185, 186, 187, 188, 189, 190, 191, 192, 193, 194, 195, 196, 197, 198, 199, 200, 201, 202, 203, 204, 205, 206, 207, 208, 209, 210, 211, 212, 213, 214, 215, 216, 217, 218, 219, 220] (fun x => x ≤ g.n) (fun x => [(181, .int .i64 (x : Int))]) (fun x => []) (fun x => g.n - x) (0) (Nat.zero_le _) (Le.lq (by repeat (first | exact Le.nil | refine Le.cons rfl (by first | rfl | (congr 1; omega)) ?_))) (by repeat (first | exact Pulls.nil | exact Pulls.all | (apply Pulls.cons; (repeat (first | exact Pull.head | apply Pull.tail))) | apply Pulls.skip)) ?_
            rintro x hx
            refine WC_seq ?_
            refine WC_region ?_
            refine WL_val rfl rfl rfl (R_lss rfl rfl rfl) ?_
            refine WL_nil ?_
            refine WQ_code ?_
            refine WC_seq ?_
            refine WC_dec rfl (fun c12 => ?_) (fun c12 => ?_)
            · refine WC_skip ?_
              refine WQ_code ?_
              refine WC_seq ?_
              refine WC_block ?_
              refine WC_seq ?_
              refine WC_region ?_
              refine WL_val rfl rfl rfl (R_move rfl rfl) ?_
              refine WL_val rfl rfl rfl (R_assign rfl rfl) ?_
              refine WL_nil ?_
              refine WQ_code ?_
              refine WC_seq ?_
              refine WC_region ?_
              refine WL_val rfl rfl rfl (R_move rfl rfl) ?_
              refine WL_val rfl rfl rfl (R_move rfl rfl) ?_
              refine WL_val rfl rfl rfl (R_move rfl rfl) ?_
              obtain ⟨y, hy⟩ := exE (T := (g.L.map (mark a1 a2))) (i := x) (by first | omega | (simp; omega))
              obtain ⟨wb1, hwb1⟩ := own1x.some_of (by omega)
              rw [hwb1]
              obtain ⟨wb2, hwb2⟩ := own2x.some_of (by omega)
              rw [hwb2]
              obtain ⟨wb3, hwb3⟩ := own3x.some_of (by omega)
              rw [hwb3]
              refine WL_val rfl rfl rfl (R_indexAddrN rfl Try.underlying49 Try.sizeOf34 rfl rfl (by omega)) ?_
              refine WL_val rfl rfl rfl (R_loadA (vs := [.int .i64 y.n, .int .i64 y.gen]) rfl ag34 rfl (by repeat (first | exact List.Mem.head _ | refine List.Mem.tail _ ?_)) rfl ((fm_at0 encN2 hy (j := 0) (vs := [.int .i64 y.n, .int .i64 y.gen]) (At.cons (At.cons At.nil)) (by simp)))) ?_
              refine WL_do rfl rfl rfl (D_call (hget p pb m [] T2 hf2 (g.L.map (mark a1 a2)) hok2 (by first | omega | (simp; omega)) x y hy) rfl rfl rfl rfl (by repeat (first | exact Pulls.nil | exact Pulls.all | (apply Pulls.cons; (repeat (first | exact Pull.head | apply Pull.tail))) | apply Pulls.skip))) ?_
              rintro _ _ ⟨_, ⟨v9, e9, rfl, rfl, hc9, hc0⟩, rfl⟩
              refine WL_val rfl rfl rfl (R_move rfl rfl) ?_
              refine WL_val rfl rfl rfl (R_extract rfl rfl rfl) ?_
              refine WL_val rfl rfl rfl (R_extract rfl rfl rfl) ?_
              refine WL_val rfl rfl rfl (R_assign rfl rfl) ?_
              refine WL_val rfl rfl rfl (R_assign rfl rfl) ?_
              refine WL_nil ?_
              refine WQ_code ?_
              refine WC_seq ?_
              refine WC_region ?_
              refine WL_val rfl rfl rfl (R_move rfl rfl) ?_
              refine WL_val rfl rfl rfl (R_move rfl rfl) ?_
              refine WL_val rfl rfl rfl (R_indexAddrN rfl Try.underlying51 Try.sizeOf4 rfl rfl (by omega)) ?_
              refine WL_val rfl rfl rfl (R_load (v := .bool y.closed) rfl sc4 rfl (by repeat (first | exact List.Mem.head _ | refine List.Mem.tail _ ?_)) (fm_get0 encC1 hy (j := 0) (by omega))) ?_
              refine WL_val rfl rfl rfl (R_move rfl rfl) ?_
              refine WL_split (s := 197) rfl (fun c13 => ?_) (fun c13 => ?_)
              · have hcl := c13
                have he9 := hc9 hcl
                refine WL_val rfl rfl rfl (R_move rfl rfl) ?_
                refine WL_val rfl rfl rfl (R_neq rfl rfl rfl) ?_
                refine WL_val rfl rfl rfl (R_pickT rfl rfl rfl) ?_
                refine WL_val rfl rfl rfl (R_move rfl rfl) ?_
                refine WL_set (s := 201) (v := .bool false) rfl (by simp [he9]) ?_
                refine WL_val rfl rfl rfl (R_move rfl rfl) ?_
                refine WL_val rfl rfl rfl (R_move rfl rfl) ?_
                refine WL_val rfl rfl rfl (R_indexAddrN rfl Try.underlying51 Try.sizeOf4 rfl rfl (by omega)) ?_
                refine WL_val rfl rfl rfl (R_load (v := .bool y.closed) rfl sc4 rfl (by repeat (first | exact List.Mem.head _ | refine List.Mem.tail _ ?_)) (fm_get0 encC1 hy (j := 0) (by omega))) ?_
                refine WL_val rfl rfl rfl (R_not rfl rfl) ?_
                refine WL_val rfl rfl rfl (R_move rfl rfl) ?_
                refine WL_set (s := 207) (v := .bool false) rfl (by simp [hcl]) ?_
                refine WL_skip rfl rfl rfl ?_
                refine WL_skip rfl rfl rfl ?_
                refine WL_skip rfl rfl rfl ?_
                refine WL_skip rfl rfl rfl ?_
                refine WL_skip rfl rfl rfl ?_
                refine WL_skip rfl rfl rfl ?_
                refine WL_skip rfl rfl rfl ?_
                refine WL_skip rfl rfl rfl ?_
                refine WL_skip rfl rfl rfl ?_
                refine WL_skip rfl rfl rfl ?_
                refine WL_val rfl rfl rfl (R_pickF rfl rfl rfl) ?_
                refine WL_val rfl rfl rfl (R_pickF rfl rfl rfl) ?_
                refine WL_nil ?_
                refine WQ_code ?_
                refine WC_F rfl ?_
                refine WC_skip ?_
                refine WQ_code ?_
                refine WC_region ?_
                refine WL_val rfl rfl rfl (R_add rfl rfl rfl (by omega)) ?_
                refine WL_val rfl rfl rfl (R_move rfl rfl) ?_
                refine WL_nil ?_
                refine WQ_nextF (x + 1) (by omega) (by omega) (Le.lq (by repeat (first | exact Le.nil | refine Le.cons rfl (by first | rfl | (congr 1; omega)) ?_))) (by repeat (first | exact Pushed.refl | refine Pushed.push rfl ?_)) rfl (by repeat (first | exact Pulls.nil | exact Pulls.all | (apply Pulls.cons; (repeat (first | exact Pull.head | apply Pull.tail))) | apply Pulls.skip))
              · have hcl := c13
                obtain ⟨hv0, he0⟩ := hc0 hcl
                refine WL_skip rfl rfl rfl ?_
                refine WL_skip rfl rfl rfl ?_
                refine WL_val rfl rfl rfl (R_pickF rfl rfl rfl) ?_
                refine WL_val rfl rfl rfl (R_move rfl rfl) ?_
                refine WL_val rfl rfl rfl (R_move rfl rfl) ?_
                refine WL_val rfl rfl rfl (R_move rfl rfl) ?_
                refine WL_val rfl rfl rfl (R_indexAddrN rfl Try.underlying51 Try.sizeOf4 rfl rfl (by omega)) ?_
                refine WL_val rfl rfl rfl (R_load (v := .bool y.closed) rfl sc4 rfl (by repeat (first | exact List.Mem.head _ | refine List.Mem.tail _ ?_)) (fm_get0 encC1 hy (j := 0) (by omega))) ?_
                refine WL_val rfl rfl rfl (R_not rfl rfl) ?_
                refine WL_val rfl rfl rfl (R_move rfl rfl) ?_
                refine WL_set (s := 207) (v := .bool true) rfl (by simp [hcl]) ?_
                refine WL_val rfl rfl rfl (R_move rfl rfl) ?_
                refine WL_val rfl rfl rfl (R_move rfl rfl) ?_
                refine WL_val rfl rfl rfl (R_move rfl rfl) ?_
                refine WL_val rfl rfl rfl (R_indexAddrN rfl Try.underlying50 Try.sizeOf3 rfl rfl (by omega)) ?_
                refine WL_val rfl rfl rfl (R_load (v := .int .i64 y.value) rfl sc3 rfl (by repeat (first | exact List.Mem.head _ | refine List.Mem.tail _ ?_)) (fm_get0 encV1 hy (j := 0) (by omega))) ?_
                refine WL_val rfl rfl rfl (R_neq rfl rfl rfl) ?_
                refine WL_val rfl rfl rfl (R_move rfl rfl) ?_
                refine WL_set (s := 214) (v := .bool false) rfl (by simp [hv0]) ?_
                refine WL_val rfl rfl rfl (R_move rfl rfl) ?_
                refine WL_val rfl rfl rfl (R_neq rfl rfl rfl) ?_
                refine WL_val rfl rfl rfl (R_pickF rfl rfl rfl) ?_
                refine WL_val rfl rfl rfl (R_pickT rfl rfl rfl) ?_
                refine WL_val rfl rfl rfl (R_pickF rfl rfl rfl) ?_
                refine WL_nil ?_
                refine WQ_code ?_
                refine WC_dF rfl (by simp [he0]) ?_
                refine WC_skip ?_
                refine WQ_code ?_
                refine WC_region ?_
                refine WL_val rfl rfl rfl (R_add rfl rfl rfl (by omega)) ?_
                refine WL_val rfl rfl rfl (R_move rfl rfl) ?_
                refine WL_nil ?_
                refine WQ_nextF (x + 1) (by omega) (by omega) (Le.lq (by repeat (first | exact Le.nil | refine Le.cons rfl (by first | rfl | (congr 1; omega)) ?_))) (by repeat (first | exact Pushed.refl | refine Pushed.push rfl ?_)) rfl (by repeat (first | exact Pulls.nil | exact Pulls.all | (apply Pulls.cons; (repeat (first | exact Pull.head | apply Pull.tail))) | apply Pulls.skip))
            · refine WC_exit ?_
              refine WQ_code ?_
              refine WC_region ?_
              refine WL_val rfl rfl rfl (R_add rfl rfl rfl (by omega)) ?_
              refine WL_val rfl rfl rfl (R_move rfl rfl) ?_
              refine WL_nil ?_
              refine WQ_nextF (⟨g.k + 1, T2, (g.L.map (mark a1 a2)), g.n, g.o1, g.c1, g.t1, g.o2, g.c2, g.t2, g.o3, g.c3, g.t3⟩) (⟨by dsimp only; omega, hT2.trans hg.len, hf2, hok2, (by rw [List.length_map]; exact hg.cnt), by have := hg.few; dsimp only; rw [List.length_map]; omega, own1x, own2x, own3x⟩) (by dsimp only; omega) (Le.lq (by repeat (first | exact Le.nil | refine Le.cons rfl (by first | rfl | (congr 1; omega)) ?_))) (by repeat (first | exact Pushed.refl | refine Pushed.push rfl ?_)) rfl (by repeat (first | exact Pulls.nil | exact Pulls.all | (apply Pulls.cons; (repeat (first | exact Pull.head | apply Pull.tail))) | apply Pulls.skip))
        · refine WC_skip ?_
          refine WQ_code ?_
          refine WC_seq ?_
          refine WC_region ?_
          refine WL_val rfl rfl rfl (R_move rfl rfl) ?_
          refine WL_val rfl rfl rfl (R_loadA (vs := [_, _]) rfl ag34 rfl (by repeat (first | exact List.Mem.head _ | refine List.Mem.tail _ ?_)) rfl (by repeat (first | exact At.nil | refine At.cons ?_ | refine At.succ ?_))) ?_
          refine WL_do rfl rfl rfl (D_call (hclose p pb m [] g.T hg.fine g.L hg.ok (by omega) a.fn a.fg) rfl rfl rfl rfl (by repeat (first | exact Pulls.nil | exact Pulls.all | (apply Pulls.cons; (repeat (first | exact Pull.head | apply Pull.tail))) | apply Pulls.skip))) ?_
          rintro _ _ ⟨_, ⟨v, e, T2, rfl, rfl, hT2, hf2, hok2, hez⟩, rfl⟩
          refine WL_val rfl rfl rfl (R_move rfl rfl) ?_
          refine WL_val rfl rfl rfl (R_extract rfl rfl rfl) ?_
          refine WL_val rfl rfl rfl (R_extract rfl rfl rfl) ?_
          refine WL_val rfl rfl rfl (R_assign rfl rfl) ?_
          refine WL_val rfl rfl rfl (R_assign rfl rfl) ?_
          refine WL_nil ?_
          refine WQ_code ?_
          refine WC_seq ?_
          refine WC_region ?_
          refine WL_val rfl rfl rfl (R_move rfl rfl) ?_
          refine WL_val rfl rfl rfl (R_len rfl Try.underlying49 rfl) ?_
          refine WL_val rfl rfl rfl (R_move rfl rfl) ?_
          refine WL_nil ?_
          refine WQ_code ?_
          refine WC_block ?_
          refine WC_loopF (G := Nat) [4, 19, 122, 123, 124, 125, 126, 127, 128, 129, 130, 131, 132, 133, 134, 135, 136, 137, 138, 139, 140, 141, 142, 143] (fun x => x ≤ g.n) (fun x => [(122, .int .i64 (x : Int))]) (fun x => [⟨g.o3, cl ((midL (mark a.fn a.fg) g.L x).flatMap encC ++ g.t3) 4⟩]) (fun x => g.n - x) (0) (Nat.zero_le _) (Le.lq (by repeat (first | exact Le.nil | refine Le.cons rfl (by first | rfl | (congr 1; omega)) ?_))) (by repeat (first | exact Pulls.nil | exact Pulls.all | (apply Pulls.cons; (repeat (first | exact Pull.head | apply Pull.tail))) | apply Pulls.skip)) ?_
          rintro x hx
          refine WC_seq ?_
          refine WC_region ?_
          refine WL_val rfl rfl rfl (R_lss rfl rfl rfl) ?_
          refine WL_nil ?_
          refine WQ_code ?_
          refine WC_seq ?_
          refine WC_dec rfl (fun c14 => ?_) (fun c14 => ?_)
          · refine WC_skip ?_
            refine WQ_code ?_
            refine WC_seq ?_
            refine WC_block ?_
            refine WC_seq ?_
            refine WC_region ?_
            refine WL_val rfl rfl rfl (R_move rfl rfl) ?_
            refine WL_val rfl rfl rfl (R_assign rfl rfl) ?_
            refine WL_nil ?_
            refine WQ_code ?_
            refine WC_seq ?_
            refine WC_draw _ [(0, true), (1, true), (2, true), (3, true), (4, true), (5, true), (6, true), (7, true), (8, true), (9, true), (10, true), (11, true), (12, true)] followsMixed rfl rfl (by kernel_rfl) .all ?_
            refine WM_val rfl rfl rfl rfl (R_move rfl rfl) ?_
            refine WM_val rfl rfl rfl rfl (R_move rfl rfl) ?_
            obtain ⟨y, hy⟩ := exE (T := g.L) (i := x) (by omega)
            obtain ⟨wb1, hwb1⟩ := hg.own1.some_of (by omega)
            rw [hwb1]
            obtain ⟨wb3, hwb3⟩ := hg.own3.some_of (by omega)
            rw [hwb3]
            refine WM_val rfl rfl rfl rfl (R_indexAddrN rfl Try.underlying49 Try.sizeOf34 rfl rfl (by omega)) ?_
            refine WM_val rfl rfl rfl rfl (R_loadA (vs := [.int .i64 y.n, .int .i64 y.gen]) rfl ag34 rfl (by repeat (first | exact List.Mem.head _ | refine List.Mem.tail _ ?_)) rfl ((fm_at0 encN2 hy (j := 0) (vs := [.int .i64 y.n, .int .i64 y.gen]) (At.cons (At.cons At.nil)) (by simp)))) ?_
            refine WM_val rfl rfl rfl rfl (R_loadA (vs := [_, _]) rfl ag34 rfl (by repeat (first | exact List.Mem.head _ | refine List.Mem.tail _ ?_)) rfl (by repeat (first | exact At.nil | refine At.cons ?_ | refine At.succ ?_))) ?_
            refine WM_val rfl rfl rfl rfl (R_seq34 rfl rfl rfl rfl) ?_
            refine WM_val rfl rfl rfl rfl (R_move rfl rfl) ?_
            refine WM_splitD (s := 131) rfl (fun c15 => ?_) (fun c15 => ?_)
            · refine WM_val rfl rfl rfl rfl (R_move rfl rfl) ?_
              refine WM_val rfl rfl rfl rfl (R_move rfl rfl) ?_
              refine WM_val rfl rfl rfl rfl (R_indexAddrN rfl Try.underlying51 Try.sizeOf4 rfl rfl (by omega)) ?_
              refine WM_val rfl rfl rfl rfl (R_load (v := .bool y.closed) rfl sc4 rfl (by repeat (first | exact List.Mem.head _ | refine List.Mem.tail _ ?_)) (fm_get0 encC1 (midL_at hy) (j := 0) (by omega))) ?_
              refine WM_val rfl rfl rfl rfl (R_not rfl rfl) ?_
              refine WM_val rfl rfl rfl rfl (R_pickT rfl rfl rfl) ?_
              refine WM_nil ?_
              refine WQ_code ?_
              refine WC_if rfl (fun c16 => ?_) (fun c16 => ?_)
              · have hh : hit a.fn a.fg y = true := hit_iff.2 ⟨by simp_all, by simp_all, by simp_all⟩
                have he0 := hez y (List.mem_of_getElem? hy) hh
                refine WC_seq ?_
                refine WC_seq ?_
                refine WC_region ?_
                refine WL_val rfl rfl rfl (R_move rfl rfl) ?_
                refine WL_val rfl rfl rfl (R_neq rfl rfl rfl) ?_
                refine WL_nil ?_
                refine WQ_code ?_
                refine WC_dF rfl (by omega) ?_
                refine WC_skip ?_
                refine WQ_code ?_
                refine WC_region ?_
                refine WL_val rfl rfl rfl (R_move rfl rfl) ?_
                refine WL_val rfl rfl rfl (R_move rfl rfl) ?_
                refine WL_val rfl rfl rfl (R_indexAddrN rfl Try.underlying51 Try.sizeOf4 rfl rfl (by omega)) ?_
                refine WL_do0 rfl rfl (D_store (vs := [_]) rfl Try.sizeOf4 rfl rfl rfl rfl rfl (by repeat (first | exact Pull.head | apply Pull.tail)) (by exact fm_room0 encC1 (by rw [midL_len]; exact lt_of2 hy) (j := 0) (by omega))) ?_
                rintro _ _ rfl
                have hput := fm_put0 encC1 (mark a.fn a.fg y) (midL_at (f := mark a.fn a.fg) hy) (j := 0) (vs := [.bool true]) (by simp) (by rw [mark, hh]; rfl) (tl := g.t3)
                rw [Nat.add_zero] at hput
                rw [hput, ← midL_succ hy]
                refine WL_nil ?_
                refine WQ_code ?_
                refine WC_region ?_
                refine WL_val rfl rfl rfl (R_add rfl rfl rfl (by omega)) ?_
                refine WL_val rfl rfl rfl (R_move rfl rfl) ?_
                refine WL_nil ?_
                refine WQ_nextF (x + 1) (by omega) (by omega) (Le.lq (by repeat (first | exact Le.nil | refine Le.cons rfl (by first | rfl | (congr 1; omega)) ?_))) (by repeat (first | exact Pushed.refl | refine Pushed.push rfl ?_)) rfl (by repeat (first | exact Pulls.nil | exact Pulls.all | (apply Pulls.cons; (repeat (first | exact Pull.head | apply Pull.tail))) | apply Pulls.skip))
              · have hh : hit a.fn a.fg y = false := hit_no (by simp_all)
                refine WC_skip ?_
                refine WQ_code ?_
                refine WC_region ?_
                refine WL_val rfl rfl rfl (R_add rfl rfl rfl (by omega)) ?_
                refine WL_val rfl rfl rfl (R_move rfl rfl) ?_
                refine WL_nil ?_
                rw [← midL_same hy (show mark a.fn a.fg y = y by rw [mark, hh]; rfl)]
                refine WQ_nextF (x + 1) (by omega) (by omega) (Le.lq (by repeat (first | exact Le.nil | refine Le.cons rfl (by first | rfl | (congr 1; omega)) ?_))) (by repeat (first | exact Pushed.refl | refine Pushed.push rfl ?_)) rfl (by repeat (first | exact Pulls.nil | exact Pulls.all | (apply Pulls.cons; (repeat (first | exact Pull.head | apply Pull.tail))) | apply Pulls.skip))
            · refine WM_skip rfl rfl rfl rfl ?_
              refine WM_skip rfl rfl rfl rfl ?_
              refine WM_skip rfl rfl rfl rfl ?_
              refine WM_skip rfl rfl rfl rfl ?_
              refine WM_skip rfl rfl rfl rfl ?_
              refine WM_val rfl rfl rfl rfl (R_pickF rfl rfl rfl) ?_
              refine WM_nil ?_
              refine WQ_code ?_
              refine WC_F rfl ?_
              refine WC_skip ?_
              refine WQ_code ?_
              refine WC_region ?_
              refine WL_val rfl rfl rfl (R_add rfl rfl rfl (by omega)) ?_
              refine WL_val rfl rfl rfl (R_move rfl rfl) ?_
              refine WL_nil ?_
              have hh : hit a.fn a.fg y = false := hit_no (by simp_all)
              rw [← midL_same hy (show mark a.fn a.fg y = y by rw [mark, hh]; rfl)]
              refine WQ_nextF (x + 1) (by omega) (by omega) (Le.lq (by repeat (first | exact Le.nil | refine Le.cons rfl (by first | rfl | (congr 1; omega)) ?_))) (by repeat (first | exact Pushed.refl | refine Pushed.push rfl ?_)) rfl (by repeat (first | exact Pulls.nil | exact Pulls.all | (apply Pulls.cons; (repeat (first | exact Pull.head | apply Pull.tail))) | apply Pulls.skip))
          · have ex : x = g.L.length := by omega
            rw [ex, midL_all, ← fm_same (mark_N a.fn a.fg) g.L, ← fm_same (mark_V a.fn a.fg) g.L]
            have own1x := own_len hg.own1 (congrArg List.length (fm_same (mark_N a.fn a.fg) g.L))
            have own2x := own_len hg.own2 (congrArg List.length (fm_same (mark_V a.fn a.fg) g.L))
            have own3x : Own g.o3 g.n g.c3 1 ((g.L.map (mark a.fn a.fg)).flatMap encC) g.t3 := own_len hg.own3 (by rw [fm_length encC1, fm_length encC1, List.length_map])
            refine WC_exit ?_
            refine WQ_code ?_
            refine WC_seq ?_
            refine WC_region ?_
            refine WL_val rfl rfl rfl (R_move rfl rfl) ?_
            refine WL_val rfl rfl rfl (R_len rfl Try.underlying49 rfl) ?_
            refine WL_val rfl rfl rfl (R_move rfl rfl) ?_
            refine WL_nil ?_
            refine WQ_code ?_
            refine WC_block ?_
            refine WC_loopF (G := Nat) [4, 22, 23, 24, 181, 182, 183, 184, 185, 186, 187, 188, 189, 190, 191, 192, 193, 194, 195, 196, 197, 198, 199, 200, 201, 202, 203, 204, 205, 206, 207, 208, 209, 210, 211, 212, 213, 214, 215, 216, 217, 218, 219, 220] (fun x => x ≤ g.n) (fun x => [(181, .int .i64 (x : Int))]) (fun x => []) (fun x => g.n - x) (0) (Nat.zero_le _) (Le.lq (by repeat (first | exact Le.nil | refine Le.cons rfl (by first | rfl | (congr 1; omega)) ?_))) (by repeat (first | exact Pulls.nil | exact Pulls.all | (apply Pulls.cons; (repeat (first | exact Pull.head | apply Pull.tail))) | apply Pulls.skip)) ?_
            rintro x hx
            refine WC_seq ?_
            refine WC_region ?_
            refine WL_val rfl rfl rfl (R_lss rfl rfl rfl) ?_
            refine WL_nil ?_
            refine WQ_code ?_
            refine WC_seq ?_
            refine WC_dec rfl (fun c17 => ?_) (fun c17 => ?_)
            · refine WC_skip ?_
              refine WQ_code ?_
              refine WC_seq ?_
              refine WC_block ?_
              refine WC_seq ?_
              refine WC_region ?_
              refine WL_val rfl rfl rfl (R_move rfl rfl) ?_
              refine WL_val rfl rfl rfl (R_assign rfl rfl) ?_
              refine WL_nil ?_
              refine WQ_code ?_
              refine WC_seq ?_
              refine WC_region ?_
              refine WL_val rfl rfl rfl (R_move rfl rfl) ?_
              refine WL_val rfl rfl rfl (R_move rfl rfl) ?_
              refine WL_val rfl rfl rfl (R_move rfl rfl) ?_
              obtain ⟨y, hy⟩ := exE (T := (g.L.map (mark a.fn a.fg))) (i := x) (by first | omega | (simp; omega))
              obtain ⟨wb1, hwb1⟩ := own1x.some_of (by omega)
              rw [hwb1]
              obtain ⟨wb2, hwb2⟩ := own2x.some_of (by omega)
              rw [hwb2]
              obtain ⟨wb3, hwb3⟩ := own3x.some_of (by omega)
              rw [hwb3]
              refine WL_val rfl rfl rfl (R_indexAddrN rfl Try.underlying49 Try.sizeOf34 rfl rfl (by omega)) ?_
              refine WL_val rfl rfl rfl (R_loadA (vs := [.int .i64 y.n, .int .i64 y.gen]) rfl ag34 rfl (by repeat (first | exact List.Mem.head _ | refine List.Mem.tail _ ?_)) rfl ((fm_at0 encN2 hy (j := 0) (vs := [.int .i64 y.n, .int .i64 y.gen]) (At.cons (At.cons At.nil)) (by simp)))) ?_
              refine WL_do rfl rfl rfl (D_call (hget p pb m [] T2 hf2 (g.L.map (mark a.fn a.fg)) hok2 (by first | omega | (simp; omega)) x y hy) rfl rfl rfl rfl (by repeat (first | exact Pulls.nil | exact Pulls.all | (apply Pulls.cons; (repeat (first | exact Pull.head | apply Pull.tail))) | apply Pulls.skip))) ?_
              rintro _ _ ⟨_, ⟨v9, e9, rfl, rfl, hc9, hc0⟩, rfl⟩
              refine WL_val rfl rfl rfl (R_move rfl rfl) ?_
              refine WL_val rfl rfl rfl (R_extract rfl rfl rfl) ?_
              refine WL_val rfl rfl rfl (R_extract rfl rfl rfl) ?_
              refine WL_val rfl rfl rfl (R_assign rfl rfl) ?_
              refine WL_val rfl rfl rfl (R_assign rfl rfl) ?_
              refine WL_nil ?_
              refine WQ_code ?_
              refine WC_seq ?_
              refine WC_region ?_
              refine WL_val rfl rfl rfl (R_move rfl rfl) ?_
              refine WL_val rfl rfl rfl (R_move rfl rfl) ?_
              refine WL_val rfl rfl rfl (R_indexAddrN rfl Try.underlying51 Try.sizeOf4 rfl rfl (by omega)) ?_
              refine WL_val rfl rfl rfl (R_load (v := .bool y.closed) rfl sc4 rfl (by repeat (first | exact List.Mem.head _ | refine List.Mem.tail _ ?_)) (fm_get0 encC1 hy (j := 0) (by omega))) ?_
              refine WL_val rfl rfl rfl (R_move rfl rfl) ?_
              refine WL_split (s := 197) rfl (fun c18 => ?_) (fun c18 => ?_)
              · have hcl := c18
                have he9 := hc9 hcl
                refine WL_val rfl rfl rfl (R_move rfl rfl) ?_
                refine WL_val rfl rfl rfl (R_neq rfl rfl rfl) ?_
                refine WL_val rfl rfl rfl (R_pickT rfl rfl rfl) ?_
                refine WL_val rfl rfl rfl (R_move rfl rfl) ?_
                refine WL_set (s := 201) (v := .bool false) rfl (by simp [he9]) ?_
                refine WL_val rfl rfl rfl (R_move rfl rfl) ?_
                refine WL_val rfl rfl rfl (R_move rfl rfl) ?_
                refine WL_val rfl rfl rfl (R_indexAddrN rfl Try.underlying51 Try.sizeOf4 rfl rfl (by omega)) ?_
                refine WL_val rfl rfl rfl (R_load (v := .bool y.closed) rfl sc4 rfl (by repeat (first | exact List.Mem.head _ | refine List.Mem.tail _ ?_)) (fm_get0 encC1 hy (j := 0) (by omega))) ?_
                refine WL_val rfl rfl rfl (R_not rfl rfl) ?_
                refine WL_val rfl rfl rfl (R_move rfl rfl) ?_
                refine WL_set (s := 207) (v := .bool false) rfl (by simp [hcl]) ?_
                refine WL_skip rfl rfl rfl ?_
                refine WL_skip rfl rfl rfl ?_
                refine WL_skip rfl rfl rfl ?_
                refine WL_skip rfl rfl rfl ?_
                refine WL_skip rfl rfl rfl ?_
                refine WL_skip rfl rfl rfl ?_
                refine WL_skip rfl rfl rfl ?_
                refine WL_skip rfl rfl rfl ?_
                refine WL_skip rfl rfl rfl ?_
                refine WL_skip rfl rfl rfl ?_
                refine WL_val rfl rfl rfl (R_pickF rfl rfl rfl) ?_
                refine WL_val rfl rfl rfl (R_pickF rfl rfl rfl) ?_
                refine WL_nil ?_
                refine WQ_code ?_
                refine WC_F rfl ?_
                refine WC_skip ?_
                refine WQ_code ?_
                refine WC_region ?_
                refine WL_val rfl rfl rfl (R_add rfl rfl rfl (by omega)) ?_
                refine WL_val rfl rfl rfl (R_move rfl rfl) ?_
                refine WL_nil ?_
                refine WQ_nextF (x + 1) (by omega) (by omega) (Le.lq (by repeat (first | exact Le.nil | refine Le.cons rfl (by first | rfl | (congr 1; omega)) ?_))) (by repeat (first | exact Pushed.refl | refine Pushed.push rfl ?_)) rfl (by repeat (first | exact Pulls.nil | exact Pulls.all | (apply Pulls.cons; (repeat (first | exact Pull.head | apply Pull.tail))) | apply Pulls.skip))
              · have hcl := c18
                obtain ⟨hv0, he0⟩ := hc0 hcl
                refine WL_skip rfl rfl rfl ?_
                refine WL_skip rfl rfl rfl ?_
                refine WL_val rfl rfl rfl (R_pickF rfl rfl rfl) ?_
                refine WL_val rfl rfl rfl (R_move rfl rfl) ?_
                refine WL_val rfl rfl rfl (R_move rfl rfl) ?_
                refine WL_val rfl rfl rfl (R_move rfl rfl) ?_
                refine WL_val rfl rfl rfl (R_indexAddrN rfl Try.underlying51 Try.sizeOf4 rfl rfl (by omega)) ?_
                refine WL_val rfl rfl rfl (R_load (v := .bool y.closed) rfl sc4 rfl (by repeat (first | exact List.Mem.head _ | refine List.Mem.tail _ ?_)) (fm_get0 encC1 hy (j := 0) (by omega))) ?_
                refine WL_val rfl rfl rfl (R_not rfl rfl) ?_
                refine WL_val rfl rfl rfl (R_move rfl rfl) ?_
                refine WL_set (s := 207) (v := .bool true) rfl (by simp [hcl]) ?_
                refine WL_val rfl rfl rfl (R_move rfl rfl) ?_
                refine WL_val rfl rfl rfl (R_move rfl rfl) ?_
                refine WL_val rfl rfl rfl (R_move rfl rfl) ?_
                refine WL_val rfl rfl rfl (R_indexAddrN rfl Try.underlying50 Try.sizeOf3 rfl rfl (by omega)) ?_
                refine WL_val rfl rfl rfl (R_load (v := .int .i64 y.value) rfl sc3 rfl (by repeat (first | exact List.Mem.head _ | refine List.Mem.tail _ ?_)) (fm_get0 encV1 hy (j := 0) (by omega))) ?_
                refine WL_val rfl rfl rfl (R_neq rfl rfl rfl) ?_
                refine WL_val rfl rfl rfl (R_move rfl rfl) ?_
                refine WL_set (s := 214) (v := .bool false) rfl (by simp [hv0]) ?_
                refine WL_val rfl rfl rfl (R_move rfl rfl) ?_
                refine WL_val rfl rfl rfl (R_neq rfl rfl rfl) ?_
                refine WL_val rfl rfl rfl (R_pickF rfl rfl rfl) ?_
                refine WL_val rfl rfl rfl (R_pickT rfl rfl rfl) ?_
                refine WL_val rfl rfl rfl (R_pickF rfl rfl rfl) ?_
                refine WL_nil ?_
                refine WQ_code ?_
                refine WC_dF rfl (by simp [he0]) ?_
                refine WC_skip ?_
                refine WQ_code ?_
                refine WC_region ?_
                refine WL_val rfl rfl rfl (R_add rfl rfl rfl (by omega)) ?_
                refine WL_val rfl rfl rfl (R_move rfl rfl) ?_
                refine WL_nil ?_
                refine WQ_nextF (x + 1) (by omega) (by omega) (Le.lq (by repeat (first | exact Le.nil | refine Le.cons rfl (by first | rfl | (congr 1; omega)) ?_))) (by repeat (first | exact Pushed.refl | refine Pushed.push rfl ?_)) rfl (by repeat (first | exact Pulls.nil | exact Pulls.all | (apply Pulls.cons; (repeat (first | exact Pull.head | apply Pull.tail))) | apply Pulls.skip))
            · refine WC_exit ?_
              refine WQ_code ?_
              refine WC_region ?_
              refine WL_val rfl rfl rfl (R_add rfl rfl rfl (by omega)) ?_
              refine WL_val rfl rfl rfl (R_move rfl rfl) ?_
              refine WL_nil ?_
              refine WQ_nextF (⟨g.k + 1, T2, (g.L.map (mark a.fn a.fg)), g.n, g.o1, g.c1, g.t1, g.o2, g.c2, g.t2, g.o3, g.c3, g.t3⟩) (⟨by dsimp only; omega, hT2.trans hg.len, hf2, hok2, (by rw [List.length_map]; exact hg.cnt), by have := hg.few; dsimp only; rw [List.length_map]; omega, own1x, own2x, own3x⟩) (by dsimp only; omega) (Le.lq (by repeat (first | exact Le.nil | refine Le.cons rfl (by first | rfl | (congr 1; omega)) ?_))) (by repeat (first | exact Pushed.refl | refine Pushed.push rfl ?_)) rfl (by repeat (first | exact Pulls.nil | exact Pulls.all | (apply Pulls.cons; (repeat (first | exact Pull.head | apply Pull.tail))) | apply Pulls.skip))
      · refine WC_region ?_
        refine WL_val rfl rfl rfl (R_eql rfl rfl rfl) ?_
        refine WL_val rfl rfl rfl (R_assign rfl rfl) ?_
        refine WL_nil ?_
        refine WQ_code ?_
        refine WC_dec rfl (fun c19 => ?_) (fun c19 => ?_)
        · refine WC_seq ?_
          refine WC_region ?_
          refine WL_val rfl rfl rfl (R_fieldAddr rfl fa36_2 rfl) ?_
          refine WL_val rfl rfl rfl (R_loadA (vs := [_, _]) rfl ag34 rfl (by repeat (first | exact List.Mem.head _ | refine List.Mem.tail _ ?_)) rfl (by repeat (first | exact At.nil | refine At.cons ?_ | refine At.succ ?_))) ?_
          refine WL_do rfl rfl rfl (D_alloc rfl zv34) ?_
          rintro _ _ ⟨b11, rfl, rfl⟩
          refine WL_do0 rfl rfl (D_store (vs := [_, _]) rfl Try.sizeOf34 rfl rfl rfl rfl rfl (by repeat (first | exact Pull.head | apply Pull.tail)) (by exact Nat.le_of_ble_eq_true rfl)) ?_
          rintro _ _ rfl
          refine WL_nil ?_
          refine WQ_code ?_
          refine WC_seq ?_
          refine WC_seq ?_
          refine WC_region ?_
          refine WL_val rfl rfl rfl (R_fieldAddr rfl fa36_0 rfl) ?_
          refine WL_val rfl rfl rfl (R_load rfl sc3 rfl (by repeat (first | exact List.Mem.head _ | refine List.Mem.tail _ ?_)) rfl) ?_
          refine WL_val rfl rfl rfl (R_eql rfl rfl rfl) ?_
          refine WL_nil ?_
          refine WQ_code ?_
          refine WC_dec rfl (fun c20 => ?_) (fun c20 => ?_)
          · refine WC_region ?_
            refine WL_val rfl rfl rfl (R_move rfl rfl) ?_
            refine WL_val rfl rfl rfl (R_fieldAddr rfl fa36_2 rfl) ?_
            refine WL_val rfl rfl rfl (R_fieldAddr rfl fa34_0 rfl) ?_
            refine WL_val rfl rfl rfl (R_load rfl sc3 rfl (by repeat (first | exact List.Mem.head _ | refine List.Mem.tail _ ?_)) rfl) ?_
            refine WL_do rfl rfl rfl (D_call (hat_any p pb m [] g.T hg.fine a.fn) rfl rfl rfl rfl (by repeat (first | exact Pulls.nil | exact Pulls.all | (apply Pulls.cons; (repeat (first | exact Pull.head | apply Pull.tail))) | apply Pulls.skip))) ?_
            rintro _ _ ⟨_, ⟨a1, a2, e1, rfl, rfl⟩, rfl⟩
            refine WL_val rfl rfl rfl (R_move rfl rfl) ?_
            refine WL_val rfl rfl rfl (R_extract rfl rfl rfl) ?_
            refine WL_val rfl rfl rfl (R_extract rfl rfl rfl) ?_
            refine WL_do0 rfl rfl (D_store (vs := [_, _]) rfl Try.sizeOf34 rfl rfl rfl rfl rfl (by repeat (first | exact Pull.head | apply Pull.tail)) (by exact Nat.le_of_ble_eq_true rfl)) ?_
            rintro _ _ rfl
            refine WL_nil ?_
            refine WQ_code ?_
            refine WC_seq ?_
            refine WC_region ?_
            refine WL_val rfl rfl rfl (R_move rfl rfl) ?_
            refine WL_val rfl rfl rfl (R_loadA (vs := [_, _]) rfl ag34 rfl (by repeat (first | exact List.Mem.head _ | refine List.Mem.tail _ ?_)) rfl (by repeat (first | exact At.nil | refine At.cons ?_ | refine At.succ ?_))) ?_
            refine WL_do rfl rfl rfl (D_call (hclose p pb m [] g.T hg.fine g.L hg.ok (by omega) a1 a2) rfl rfl rfl rfl (by repeat (first | exact Pulls.nil | exact Pulls.all | (apply Pulls.cons; (repeat (first | exact Pull.head | apply Pull.tail))) | apply Pulls.skip))) ?_
            rintro _ _ ⟨_, ⟨v, e, T2, rfl, rfl, hT2, hf2, hok2, hez⟩, rfl⟩
            refine WL_val rfl rfl rfl (R_move rfl rfl) ?_
            refine WL_val rfl rfl rfl (R_extract rfl rfl rfl) ?_
            refine WL_val rfl rfl rfl (R_extract rfl rfl rfl) ?_
            refine WL_val rfl rfl rfl (R_assign rfl rfl) ?_
            refine WL_val rfl rfl rfl (R_assign rfl rfl) ?_
            refine WL_nil ?_
            refine WQ_code ?_
            refine WC_seq ?_
            refine WC_region ?_
            refine WL_val rfl rfl rfl (R_move rfl rfl) ?_
            refine WL_val rfl rfl rfl (R_len rfl Try.underlying49 rfl) ?_
            refine WL_val rfl rfl rfl (R_move rfl rfl) ?_
            refine WL_nil ?_
            refine WQ_code ?_
            refine WC_block ?_
            refine WC_loopF (G := Nat) [4, 19, 122, 123, 124, 125, 126, 127, 128, 129, 130, 131, 132, 133, 134, 135, 136, 137, 138, 139, 140, 141, 142, 143] (fun x => x ≤ g.n) (fun x => [(122, .int .i64 (x : Int))]) (fun x => [⟨g.o3, cl ((midL (mark a1 a2) g.L x).flatMap encC ++ g.t3) 4⟩]) (fun x => g.n - x) (0) (Nat.zero_le _) (Le.lq (by repeat (first | exact Le.nil | refine Le.cons rfl (by first | rfl | (congr 1; omega)) ?_))) (by repeat (first | exact Pulls.nil | exact Pulls.all | (apply Pulls.cons; (repeat (first | exact Pull.head | apply Pull.tail))) | apply Pulls.skip)) ?_
            rintro x hx
            refine WC_seq ?_
            refine WC_region ?_
            refine WL_val rfl rfl rfl (R_lss rfl rfl rfl) ?_
            refine WL_nil ?_
            refine WQ_code ?_
            refine WC_seq ?_
            refine WC_dec rfl (fun c21 => ?_) (fun c21 => ?_)
            · refine WC_skip ?_
              refine WQ_code ?_
              refine WC_seq ?_
              refine WC_block ?_
              refine WC_seq ?_
              refine WC_region ?_
              refine WL_val rfl rfl rfl (R_move rfl rfl) ?_
              refine WL_val rfl rfl rfl (R_assign rfl rfl) ?_
              refine WL_nil ?_
              refine WQ_code ?_
              refine WC_seq ?_
              refine WC_draw _ [(0, true), (1, true), (2, true), (3, true), (4, true), (5, true), (6, true), (7, true), (8, true), (9, true), (10, true), (11, true), (12, true)] followsMixed rfl rfl (by kernel_rfl) .all ?_
              refine WM_val rfl rfl rfl rfl (R_move rfl rfl) ?_
              refine WM_val rfl rfl rfl rfl (R_move rfl rfl) ?_
              obtain ⟨y, hy⟩ := exE (T := g.L) (i := x) (by omega)
              obtain ⟨wb1, hwb1⟩ := hg.own1.some_of (by omega)
              rw [hwb1]
              obtain ⟨wb3, hwb3⟩ := hg.own3.some_of (by omega)
              rw [hwb3]
              refine WM_val rfl rfl rfl rfl (R_indexAddrN rfl Try.underlying49 Try.sizeOf34 rfl rfl (by omega)) ?_
              refine WM_val rfl rfl rfl rfl (R_loadA (vs := [.int .i64 y.n, .int .i64 y.gen]) rfl ag34 rfl (by repeat (first | exact List.Mem.head _ | refine List.Mem.tail _ ?_)) rfl ((fm_at0 encN2 hy (j := 0) (vs := [.int .i64 y.n, .int .i64 y.gen]) (At.cons (At.cons At.nil)) (by simp)))) ?_
              refine WM_val rfl rfl rfl rfl (R_loadA (vs := [_, _]) rfl ag34 rfl (by repeat (first | exact List.Mem.head _ | refine List.Mem.tail _ ?_)) rfl (by repeat (first | exact At.nil | refine At.cons ?_ | refine At.succ ?_))) ?_
              refine WM_val rfl rfl rfl rfl (R_seq34 rfl rfl rfl rfl) ?_
              refine WM_val rfl rfl rfl rfl (R_move rfl rfl) ?_
              refine WM_splitD (s := 131) rfl (fun c22 => ?_) (fun c22 => ?_)
              · refine WM_val rfl rfl rfl rfl (R_move rfl rfl) ?_
                refine WM_val rfl rfl rfl rfl (R_move rfl rfl) ?_
                refine WM_val rfl rfl rfl rfl (R_indexAddrN rfl Try.underlying51 Try.sizeOf4 rfl rfl (by omega)) ?_
                refine WM_val rfl rfl rfl rfl (R_load (v := .bool y.closed) rfl sc4 rfl (by repeat (first | exact List.Mem.head _ | refine List.Mem.tail _ ?_)) (fm_get0 encC1 (midL_at hy) (j := 0) (by omega))) ?_
                refine WM_val rfl rfl rfl rfl (R_not rfl rfl) ?_
                refine WM_val rfl rfl rfl rfl (R_pickT rfl rfl rfl) ?_
                refine WM_nil ?_
                refine WQ_code ?_
                refine WC_if rfl (fun c23 => ?_) (fun c23 => ?_)
                · have hh : hit a1 a2 y = true := hit_iff.2 ⟨by simp_all, by simp_all, by simp_all⟩
                  have he0 := hez y (List.mem_of_getElem? hy) hh
                  refine WC_seq ?_
                  refine WC_seq ?_
                  refine WC_region ?_
                  refine WL_val rfl rfl rfl (R_move rfl rfl) ?_
                  refine WL_val rfl rfl rfl (R_neq rfl rfl rfl) ?_
                  refine WL_nil ?_
                  refine WQ_code ?_
                  refine WC_dF rfl (by omega) ?_
                  refine WC_skip ?_
                  refine WQ_code ?_
                  refine WC_region ?_
                  refine WL_val rfl rfl rfl (R_move rfl rfl) ?_
                  refine WL_val rfl rfl rfl (R_move rfl rfl) ?_
                  refine WL_val rfl rfl rfl (R_indexAddrN rfl Try.underlying51 Try.sizeOf4 rfl rfl (by omega)) ?_
                  refine WL_do0 rfl rfl (D_store (vs := [_]) rfl Try.sizeOf4 rfl rfl rfl rfl rfl (by repeat (first | exact Pull.head | apply Pull.tail)) (by exact fm_room0 encC1 (by rw [midL_len]; exact lt_of2 hy) (j := 0) (by omega))) ?_
                  rintro _ _ rfl
                  have hput := fm_put0 encC1 (mark a1 a2 y) (midL_at (f := mark a1 a2) hy) (j := 0) (vs := [.bool true]) (by simp) (by rw [mark, hh]; rfl) (tl := g.t3)
                  rw [Nat.add_zero] at hput
                  rw [hput, ← midL_succ hy]
                  refine WL_nil ?_
                  refine WQ_code ?_
                  refine WC_region ?_
                  refine WL_val rfl rfl rfl (R_add rfl rfl rfl (by omega)) ?_
                  refine WL_val rfl rfl rfl (R_move rfl rfl) ?_
                  refine WL_nil ?_
                  refine WQ_nextF (x + 1) (by omega) (by omega) (Le.lq (by repeat (first | exact Le.nil | refine Le.cons rfl (by first | rfl | (congr 1; omega)) ?_))) (by repeat (first | exact Pushed.refl | refine Pushed.push rfl ?_)) rfl (by repeat (first | exact Pulls.nil | exact Pulls.all | (apply Pulls.cons; (repeat (first | exact Pull.head | apply Pull.tail))) | apply Pulls.skip))
                · have hh : hit a1 a2 y = false := hit_no (by simp_all)
                  refine WC_skip ?_
                  refine WQ_code ?_
                  refine WC_region ?_
                  refine WL_val rfl rfl rfl (R_add rfl rfl rfl (by omega)) ?_
                  refine WL_val rfl rfl rfl (R_move rfl rfl) ?_
                  refine WL_nil ?_
                  rw [← midL_same hy (show mark a1 a2 y = y by rw [mark, hh]; rfl)]
                  refine WQ_nextF (x + 1) (by omega) (by omega) (Le.lq (by repeat (first | exact Le.nil | refine Le.cons rfl (by first | rfl | (congr 1; omega)) ?_))) (by repeat (first | exact Pushed.refl | refine Pushed.push rfl ?_)) rfl (by repeat (first | exact Pulls.nil | exact Pulls.all | (apply Pulls.cons; (repeat (first | exact Pull.head | apply Pull.tail))) | apply Pulls.skip))
              · refine WM_skip rfl rfl rfl rfl ?_
                refine WM_skip rfl rfl rfl rfl ?_
                refine WM_skip rfl rfl rfl rfl ?_
                refine WM_skip rfl rfl rfl rfl ?_
                refine WM_skip rfl rfl rfl rfl ?_
                refine WM_val rfl rfl rfl rfl (R_pickF rfl rfl rfl) ?_
                refine WM_nil ?_
                refine WQ_code ?_
                refine WC_F rfl ?_
                refine WC_skip ?_
                refine WQ_code ?_
                refine WC_region ?_
                refine WL_val rfl rfl rfl (R_add rfl rfl rfl (by omega)) ?_
                refine WL_val rfl rfl rfl (R_move rfl rfl) ?_
                refine WL_nil ?_
                have hh : hit a1 a2 y = false := hit_no (by simp_all)
                rw [← midL_same hy (show mark a1 a2 y = y by rw [mark, hh]; rfl)]
                refine WQ_nextF (x + 1) (by omega) (by omega) (Le.lq (by repeat (first | exact Le.nil | refine Le.cons rfl (by first | rfl | (congr 1; omega)) ?_))) (by repeat (first | exact Pushed.refl | refine Pushed.push rfl ?_)) rfl (by repeat (first | exact Pulls.nil | exact Pulls.all | (apply Pulls.cons; (repeat (first | exact Pull.head | apply Pull.tail))) | apply Pulls.skip))
            · have ex : x = g.L.length := by omega
              rw [ex, midL_all, ← fm_same (mark_N a1 a2) g.L, ← fm_same (mark_V a1 a2) g.L]
              have own1x := own_len hg.own1 (congrArg List.length (fm_same (mark_N a1 a2) g.L))
              have own2x := own_len hg.own2 (congrArg List.length (fm_same (mark_V a1 a2) g.L))
              have own3x : Own g.o3 g.n g.c3 1 ((g.L.map (mark a1 a2)).flatMap encC) g.t3 := own_len hg.own3 (by rw [fm_length encC1, fm_length encC1, List.length_map])
              refine WC_exit ?_
              refine WQ_code ?_
              refine WC_seq ?_
              refine WC_region ?_
              refine WL_val rfl rfl rfl (R_move rfl rfl) ?_
              refine WL_val rfl rfl rfl (R_len rfl Try.underlying49 rfl) ?_
              refine WL_val rfl rfl rfl (R_move rfl rfl) ?_
              refine WL_nil ?_
              refine WQ_code ?_
              refine WC_block ?_
              refine WC_loopF (G := Nat) [4, 22, 23, 24, 181, 182, 183, 184, 185, 186, 187, 188, 189, 190, 191, 192, 193, 194, 195, 196, 197, 198, 199, 200, 201, 202, 203, 204, 205, 206, 207, 208, 209, 210, 211, 212, 213, 214, 215, 216, 217, 218, 219, 220] (fun x => x ≤ g.n) (fun x => [(181, .int .i64 (x : Int))]) (fun x => []) (fun x => g.n - x) (0) (Nat.zero_le _) (Le.lq (by repeat (first | exact Le.nil | refine Le.cons rfl (by first | rfl | (congr 1; omega)) ?_))) (by repeat (first | exact Pulls.nil | exact Pulls.all | (apply Pulls.cons; (repeat (first | exact Pull.head | apply Pull.tail))) | apply Pulls.skip)) ?_
              rintro x hx
              refine WC_seq ?_
              refine WC_region ?_
              refine WL_val rfl rfl rfl (R_lss rfl rfl rfl) ?_
              refine WL_nil ?_
              refine WQ_code ?_
              refine WC_seq ?_
              refine WC_dec rfl (fun c24 => ?_) (fun c24 => ?_)
              · refine WC_skip ?_
                refine WQ_code ?_
                refine WC_seq ?_
                refine WC_block ?_
                refine WC_seq ?_
                refine WC_region ?_
                refine WL_val rfl rfl rfl (R_move rfl rfl) ?_
                refine WL_val rfl rfl rfl (R_assign rfl rfl) ?_
                refine WL_nil ?_
                refine WQ_code ?_
                refine WC_seq ?_
                refine WC_region ?_
                refine WL_val rfl rfl rfl (R_move rfl rfl) ?_
                refine WL_val rfl rfl rfl (R_move rfl rfl) ?_
                refine WL_val rfl rfl rfl (R_move rfl rfl) ?_
                obtain ⟨y, hy⟩ := exE (T := (g.L.map (mark a1 a2))) (i := x) (by first | omega | (simp; omega))
                obtain ⟨wb1, hwb1⟩ := own1x.some_of (by omega)
                rw [hwb1]
                obtain ⟨wb2, hwb2⟩ := own2x.some_of (by omega)
                rw [hwb2]
                obtain ⟨wb3, hwb3⟩ := own3x.some_of (by omega)
                rw [hwb3]
                refine WL_val rfl rfl rfl (R_indexAddrN rfl Try.underlying49 Try.sizeOf34 rfl rfl (by omega)) ?_
                refine WL_val rfl rfl rfl (R_loadA (vs := [.int .i64 y.n, .int .i64 y.gen]) rfl ag34 rfl (by repeat (first | exact List.Mem.head _ | refine List.Mem.tail _ ?_)) rfl ((fm_at0 encN2 hy (j := 0) (vs := [.int .i64 y.n, .int .i64 y.gen]) (At.cons (At.cons At.nil)) (by simp)))) ?_
                refine WL_do rfl rfl rfl (D_call (hget p pb m [] T2 hf2 (g.L.map (mark a1 a2)) hok2 (by first | omega | (simp; omega)) x y hy) rfl rfl rfl rfl (by repeat (first | exact Pulls.nil | exact Pulls.all | (apply Pulls.cons; (repeat (first | exact Pull.head | apply Pull.tail))) | apply Pulls.skip))) ?_
                rintro _ _ ⟨_, ⟨v9, e9, rfl, rfl, hc9, hc0⟩, rfl⟩
                refine WL_val rfl rfl rfl (R_move rfl rfl) ?_
                refine WL_val rfl rfl rfl (R_extract rfl rfl rfl) ?_
                refine WL_val rfl rfl rfl (R_extract rfl rfl rfl) ?_
                refine WL_val rfl rfl rfl (R_assign rfl rfl) ?_
                refine WL_val rfl rfl rfl (R_assign rfl rfl) ?_
                refine WL_nil ?_
                refine WQ_code ?_
                refine WC_seq ?_
                refine WC_region ?_
                refine WL_val rfl rfl rfl (R_move rfl rfl) ?_
                refine WL_val rfl rfl rfl (R_move rfl rfl) ?_
                refine WL_val rfl rfl rfl (R_indexAddrN rfl Try.underlying51 Try.sizeOf4 rfl rfl (by omega)) ?_
                refine WL_val rfl rfl rfl (R_load (v := .bool y.closed) rfl sc4 rfl (by repeat (first | exact List.Mem.head _ | refine List.Mem.tail _ ?_)) (fm_get0 encC1 hy (j := 0) (by omega))) ?_
                refine WL_val rfl rfl rfl (R_move rfl rfl) ?_
                refine WL_split (s := 197) rfl (fun c25 => ?_) (fun c25 => ?_)
                · have hcl := c25
                  have he9 := hc9 hcl
                  refine WL_val rfl rfl rfl (R_move rfl rfl) ?_
                  refine WL_val rfl rfl rfl (R_neq rfl rfl rfl) ?_
                  refine WL_val rfl rfl rfl (R_pickT rfl rfl rfl) ?_
                  refine WL_val rfl rfl rfl (R_move rfl rfl) ?_
                  refine WL_set (s := 201) (v := .bool false) rfl (by simp [he9]) ?_
                  refine WL_val rfl rfl rfl (R_move rfl rfl) ?_
                  refine WL_val rfl rfl rfl (R_move rfl rfl) ?_
                  refine WL_val rfl rfl rfl (R_indexAddrN rfl Try.underlying51 Try.sizeOf4 rfl rfl (by omega)) ?_
                  refine WL_val rfl rfl rfl (R_load (v := .bool y.closed) rfl sc4 rfl (by repeat (first | exact List.Mem.head _ | refine List.Mem.tail _ ?_)) (fm_get0 encC1 hy (j := 0) (by omega))) ?_
                  refine WL_val rfl rfl rfl (R_not rfl rfl) ?_
                  refine WL_val rfl rfl rfl (R_move rfl rfl) ?_
                  refine WL_set (s := 207) (v := .bool false) rfl (by simp [hcl]) ?_
                  refine WL_skip rfl rfl rfl ?_
                  refine WL_skip rfl rfl rfl ?_
                  refine WL_skip rfl rfl rfl ?_
                  refine WL_skip rfl rfl rfl ?_
                  refine WL_skip rfl rfl rfl ?_
                  refine WL_skip rfl rfl rfl ?_
                  refine WL_skip rfl rfl rfl ?_
                  refine WL_skip rfl rfl rfl ?_
                  refine WL_skip rfl rfl rfl ?_
                  refine WL_skip rfl rfl rfl ?_
                  refine WL_val rfl rfl rfl (R_pickF rfl rfl rfl) ?_
                  refine WL_val rfl rfl rfl (R_pickF rfl rfl rfl) ?_
                  refine WL_nil ?_
                  refine WQ_code ?_
                  refine WC_F rfl ?_
                  refine WC_skip ?_
                  refine WQ_code ?_
                  refine WC_region ?_
                  refine WL_val rfl rfl rfl (R_add rfl rfl rfl (by omega)) ?_
                  refine WL_val rfl rfl rfl (R_move rfl rfl) ?_
                  refine WL_nil ?_
                  refine WQ_nextF (x + 1) (by omega) (by omega) (Le.lq (by repeat (first | exact Le.nil | refine Le.cons rfl (by first | rfl | (congr 1; omega)) ?_))) (by repeat (first | exact Pushed.refl | refine Pushed.push rfl ?_)) rfl (by repeat (first | exact Pulls.nil | exact Pulls.all | (apply Pulls.cons; (repeat (first | exact Pull.head | apply Pull.tail))) | apply Pulls.skip))
                · have hcl := c25
                  obtain ⟨hv0, he0⟩ := hc0 hcl
                  refine WL_skip rfl rfl rfl ?_
                  refine WL_skip rfl rfl rfl ?_
                  refine WL_val rfl rfl rfl (R_pickF rfl rfl rfl) ?_
                  refine WL_val rfl rfl rfl (R_move rfl rfl) ?_
                  refine WL_val rfl rfl rfl (R_move rfl rfl) ?_
                  refine WL_val rfl rfl rfl (R_move rfl rfl) ?_
                  refine WL_val rfl rfl rfl (R_indexAddrN rfl Try.underlying51 Try.sizeOf4 rfl rfl (by omega)) ?_
                  refine WL_val rfl rfl rfl (R_load (v := .bool y.closed) rfl sc4 rfl (by repeat (first | exact List.Mem.head _ | refine List.Mem.tail _ ?_)) (fm_get0 encC1 hy (j := 0) (by omega))) ?_
                  refine WL_val rfl rfl rfl (R_not rfl rfl) ?_
                  refine WL_val rfl rfl rfl (R_move rfl rfl) ?_
                  refine WL_set (s := 207) (v := .bool true) rfl (by simp [hcl]) ?_
                  refine WL_val rfl rfl rfl (R_move rfl rfl) ?_
                  refine WL_val rfl rfl rfl (R_move rfl rfl) ?_
                  refine WL_val rfl rfl rfl (R_move rfl rfl) ?_
                  refine WL_val rfl rfl rfl (R_indexAddrN rfl Try.underlying50 Try.sizeOf3 rfl rfl (by omega)) ?_
                  refine WL_val rfl rfl rfl (R_load (v := .int .i64 y.value) rfl sc3 rfl (by repeat (first | exact List.Mem.head _ | refine List.Mem.tail _ ?_)) (fm_get0 encV1 hy (j := 0) (by omega))) ?_
                  refine WL_val rfl rfl rfl (R_neq rfl rfl rfl) ?_
                  refine WL_val rfl rfl rfl (R_move rfl rfl) ?_
                  refine WL_set (s := 214) (v := .bool false) rfl (by simp [hv0]) ?_
                  refine WL_val rfl rfl rfl (R_move rfl rfl) ?_
                  refine WL_val rfl rfl rfl (R_neq rfl rfl rfl) ?_
                  refine WL_val rfl rfl rfl (R_pickF rfl rfl rfl) ?_
                  refine WL_val rfl rfl rfl (R_pickT rfl rfl rfl) ?_
                  refine WL_val rfl rfl rfl (R_pickF rfl rfl rfl) ?_
                  refine WL_nil ?_
                  refine WQ_code ?_
                  refine WC_dF rfl (by simp [he0]) ?_
                  refine WC_skip ?_
                  refine WQ_code ?_
                  refine WC_region ?_
                  refine WL_val rfl rfl rfl (R_add rfl rfl rfl (by omega)) ?_
                  refine WL_val rfl rfl rfl (R_move rfl rfl) ?_
                  refine WL_nil ?_
                  refine WQ_nextF (x + 1) (by omega) (by omega) (Le.lq (by repeat (first | exact Le.nil | refine Le.cons rfl (by first | rfl | (congr 1; omega)) ?_))) (by repeat (first | exact Pushed.refl | refine Pushed.push rfl ?_)) rfl (by repeat (first | exact Pulls.nil | exact Pulls.all | (apply Pulls.cons; (repeat (first | exact Pull.head | apply Pull.tail))) | apply Pulls.skip))
              · refine WC_exit ?_
                refine WQ_code ?_
                refine WC_region ?_
                refine WL_val rfl rfl rfl (R_add rfl rfl rfl (by omega)) ?_
                refine WL_val rfl rfl rfl (R_move rfl rfl) ?_
                refine WL_nil ?_
                refine WQ_nextF (⟨g.k + 1, T2, (g.L.map (mark a1 a2)), g.n, g.o1, g.c1, g.t1, g.o2, g.c2, g.t2, g.o3, g.c3, g.t3⟩) (⟨by dsimp only; omega, hT2.trans hg.len, hf2, hok2, (by rw [List.length_map]; exact hg.cnt), by have := hg.few; dsimp only; rw [List.length_map]; omega, own1x, own2x, own3x⟩) (by dsimp only; omega) (Le.lq (by repeat (first | exact Le.nil | refine Le.cons rfl (by first | rfl | (congr 1; omega)) ?_))) (by repeat (first | exact Pushed.refl | refine Pushed.push rfl ?_)) rfl (by repeat (first | exact Pulls.nil | exact Pulls.all | (apply Pulls.cons; (repeat (first | exact Pull.head | apply Pull.tail))) | apply Pulls.skip))
          · refine WC_skip ?_
            refine WQ_code ?_
            refine WC_seq ?_
            refine WC_region ?_
            refine WL_val rfl rfl rfl (R_move rfl rfl) ?_
            refine WL_val rfl rfl rfl (R_loadA (vs := [_, _]) rfl ag34 rfl (by repeat (first | exact List.Mem.head _ | refine List.Mem.tail _ ?_)) rfl (by repeat (first | exact At.nil | refine At.cons ?_ | refine At.succ ?_))) ?_
            refine WL_do rfl rfl rfl (D_call (hclose p pb m [] g.T hg.fine g.L hg.ok (by omega) a.fn a.fg) rfl rfl rfl rfl (by repeat (first | exact Pulls.nil | exact Pulls.all | (apply Pulls.cons; (repeat (first | exact Pull.head | apply Pull.tail))) | apply Pulls.skip))) ?_
            rintro _ _ ⟨_, ⟨v, e, T2, rfl, rfl, hT2, hf2, hok2, hez⟩, rfl⟩
            refine WL_val rfl rfl rfl (R_move rfl rfl) ?_
            refine WL_val rfl rfl rfl (R_extract rfl rfl rfl) ?_
            refine WL_val rfl rfl rfl (R_extract rfl rfl rfl) ?_
            refine WL_val rfl rfl rfl (R_assign rfl rfl) ?_
            refine WL_val rfl rfl rfl (R_assign rfl rfl) ?_
            refine WL_nil ?_
            refine WQ_code ?_
            refine WC_seq ?_
            refine WC_region ?_
            refine WL_val rfl rfl rfl (R_move rfl rfl) ?_
            refine WL_val rfl rfl rfl (R_len rfl Try.underlying49 rfl) ?_
            refine WL_val rfl rfl rfl (R_move rfl rfl) ?_
            refine WL_nil ?_
            refine WQ_code ?_
            refine WC_block ?_
            refine WC_loopF (G := Nat) [4, 19, 122, 123, 124, 125, 126, 127, 128, 129, 130, 131, 132, 133, 134, 135, 136, 137, 138, 139, 140, 141, 142, 143] (fun x => x ≤ g.n) (fun x => [(122, .int .i64 (x : Int))]) (fun x => [⟨g.o3, cl ((midL (mark a.fn a.fg) g.L x).flatMap encC ++ g.t3) 4⟩]) (fun x => g.n - x) (0) (Nat.zero_le _) (Le.lq (by repeat (first | exact Le.nil | refine Le.cons rfl (by first | rfl | (congr 1; omega)) ?_))) (by repeat (first | exact Pulls.nil | exact Pulls.all | (apply Pulls.cons; (repeat (first | exact Pull.head | apply Pull.tail))) | apply Pulls.skip)) ?_
            rintro x hx
            refine WC_seq ?_
            refine WC_region ?_
            refine WL_val rfl rfl rfl (R_lss rfl rfl rfl) ?_
            refine WL_nil ?_
            refine WQ_code ?_
            refine WC_seq ?_
            refine WC_dec rfl (fun c26 => ?_) (fun c26 => ?_)
            · refine WC_skip ?_
              refine WQ_code ?_
              refine WC_seq ?_
              refine WC_block ?_
              refine WC_seq ?_
              refine WC_region ?_
              refine WL_val rfl rfl rfl (R_move rfl rfl) ?_
              refine WL_val rfl rfl rfl (R_assign rfl rfl) ?_
              refine WL_nil ?_
              refine WQ_code ?_
              refine WC_seq ?_
              refine WC_draw _ [(0, true), (1, true), (2, true), (3, true), (4, true), (5, true), (6, true), (7, true), (8, true), (9, true), (10, true), (11, true), (12, true)] followsMixed rfl rfl (by kernel_rfl) .all ?_
              refine WM_val rfl rfl rfl rfl (R_move rfl rfl) ?_
              refine WM_val rfl rfl rfl rfl (R_move rfl rfl) ?_
              obtain ⟨y, hy⟩ := exE (T := g.L) (i := x) (by omega)
              obtain ⟨wb1, hwb1⟩ := hg.own1.some_of (by omega)
              rw [hwb1]
              obtain ⟨wb3, hwb3⟩ := hg.own3.some_of (by omega)
              rw [hwb3]
              refine WM_val rfl rfl rfl rfl (R_indexAddrN rfl Try.underlying49 Try.sizeOf34 rfl rfl (by omega)) ?_
              refine WM_val rfl rfl rfl rfl (R_loadA (vs := [.int .i64 y.n, .int .i64 y.gen]) rfl ag34 rfl (by repeat (first | exact List.Mem.head _ | refine List.Mem.tail _ ?_)) rfl ((fm_at0 encN2 hy (j := 0) (vs := [.int .i64 y.n, .int .i64 y.gen]) (At.cons (At.cons At.nil)) (by simp)))) ?_
              refine WM_val rfl rfl rfl rfl (R_loadA (vs := [_, _]) rfl ag34 rfl (by repeat (first | exact List.Mem.head _ | refine List.Mem.tail _ ?_)) rfl (by repeat (first | exact At.nil | refine At.cons ?_ | refine At.succ ?_))) ?_
              refine WM_val rfl rfl rfl rfl (R_seq34 rfl rfl rfl rfl) ?_
              refine WM_val rfl rfl rfl rfl (R_move rfl rfl) ?_
              refine WM_splitD (s := 131) rfl (fun c27 => ?_) (fun c27 => ?_)
              · refine WM_val rfl rfl rfl rfl (R_move rfl rfl) ?_
                refine WM_val rfl rfl rfl rfl (R_move rfl rfl) ?_
                refine WM_val rfl rfl rfl rfl (R_indexAddrN rfl Try.underlying51 Try.sizeOf4 rfl rfl (by omega)) ?_
                refine WM_val rfl rfl rfl rfl (R_load (v := .bool y.closed) rfl sc4 rfl (by repeat (first | exact List.Mem.head _ | refine List.Mem.tail _ ?_)) (fm_get0 encC1 (midL_at hy) (j := 0) (by omega))) ?_
                refine WM_val rfl rfl rfl rfl (R_not rfl rfl) ?_
                refine WM_val rfl rfl rfl rfl (R_pickT rfl rfl rfl) ?_
                refine WM_nil ?_
                refine WQ_code ?_
                refine WC_if rfl (fun c28 => ?_) (fun c28 => ?_)
                · have hh : hit a.fn a.fg y = true := hit_iff.2 ⟨by simp_all, by simp_all, by simp_all⟩
                  have he0 := hez y (List.mem_of_getElem? hy) hh
                  refine WC_seq ?_
                  refine WC_seq ?_
                  refine WC_region ?_
                  refine WL_val rfl rfl rfl (R_move rfl rfl) ?_
                  refine WL_val rfl rfl rfl (R_neq rfl rfl rfl) ?_
                  refine WL_nil ?_
                  refine WQ_code ?_
                  refine WC_dF rfl (by omega) ?_
                  refine WC_skip ?_
                  refine WQ_code ?_
                  refine WC_region ?_
                  refine WL_val rfl rfl rfl (R_move rfl rfl) ?_
                  refine WL_val rfl rfl rfl (R_move rfl rfl) ?_
                  refine WL_val rfl rfl rfl (R_indexAddrN rfl Try.underlying51 Try.sizeOf4 rfl rfl (by omega)) ?_
                  refine WL_do0 rfl rfl (D_store (vs := [_]) rfl Try.sizeOf4 rfl rfl rfl rfl rfl (by repeat (first | exact Pull.head | apply Pull.tail)) (by exact fm_room0 encC1 (by rw [midL_len]; exact lt_of2 hy) (j := 0) (by omega))) ?_
                  rintro _ _ rfl
                  have hput := fm_put0 encC1 (mark a.fn a.fg y) (midL_at (f := mark a.fn a.fg) hy) (j := 0) (vs := [.bool true]) (by simp) (by rw [mark, hh]; rfl) (tl := g.t3)
                  rw [Nat.add_zero] at hput
                  rw [hput, ← midL_succ hy]
                  refine WL_nil ?_
                  refine WQ_code ?_
                  refine WC_region ?_
                  refine WL_val rfl rfl rfl (R_add rfl rfl rfl (by omega)) ?_
                  refine WL_val rfl rfl rfl (R_move rfl rfl) ?_
                  refine WL_nil ?_
                  refine WQ_nextF (x + 1) (by omega) (by omega) (Le.lq (by repeat (first | exact Le.nil | refine Le.cons rfl (by first | rfl | (congr 1; omega)) ?_))) (by repeat (first | exact Pushed.refl | refine Pushed.push rfl ?_)) rfl (by repeat (first | exact Pulls.nil | exact Pulls.all | (apply Pulls.cons; (repeat (first | exact Pull.head | apply Pull.tail))) | apply Pulls.skip))
                · have hh : hit a.fn a.fg y = false := hit_no (by simp_all)
                  refine WC_skip ?_
                  refine WQ_code ?_
                  refine WC_region ?_
                  refine WL_val rfl rfl rfl (R_add rfl rfl rfl (by omega)) ?_
                  refine WL_val rfl rfl rfl (R_move rfl rfl) ?_
                  refine WL_nil ?_
                  rw [← midL_same hy (show mark a.fn a.fg y = y by rw [mark, hh]; rfl)]
                  refine WQ_nextF (x + 1) (by omega) (by omega) (Le.lq (by repeat (first | exact Le.nil | refine Le.cons rfl (by first | rfl | (congr 1; omega)) ?_))) (by repeat (first | exact Pushed.refl | refine Pushed.push rfl ?_)) rfl (by repeat (first | exact Pulls.nil | exact Pulls.all | (apply Pulls.cons; (repeat (first | exact Pull.head | apply Pull.tail))) | apply Pulls.skip))
              · refine WM_skip rfl rfl rfl rfl ?_
                refine WM_skip rfl rfl rfl rfl ?_
                refine WM_skip rfl rfl rfl rfl ?_
                refine WM_skip rfl rfl rfl rfl ?_
                refine WM_skip rfl rfl rfl rfl ?_
                refine WM_val rfl rfl rfl rfl (R_pickF rfl rfl rfl) ?_
                refine WM_nil ?_
                refine WQ_code ?_
                refine WC_F rfl ?_
                refine WC_skip ?_
                refine WQ_code ?_
                refine WC_region ?_
                refine WL_val rfl rfl rfl (R_add rfl rfl rfl (by omega)) ?_
                refine WL_val rfl rfl rfl (R_move rfl rfl) ?_
                refine WL_nil ?_
                have hh : hit a.fn a.fg y = false := hit_no (by simp_all)
                rw [← midL_same hy (show mark a.fn a.fg y = y by rw [mark, hh]; rfl)]
                refine WQ_nextF (x + 1) (by omega) (by omega) (Le.lq (by repeat (first | exact Le.nil | refine Le.cons rfl (by first | rfl | (congr 1; omega)) ?_))) (by repeat (first | exact Pushed.refl | refine Pushed.push rfl ?_)) rfl (by repeat (first | exact Pulls.nil | exact Pulls.all | (apply Pulls.cons; (repeat (first | exact Pull.head | apply Pull.tail))) | apply Pulls.skip))
            · have ex : x = g.L.length := by omega
              rw [ex, midL_all, ← fm_same (mark_N a.fn a.fg) g.L, ← fm_same (mark_V a.fn a.fg) g.L]
              have own1x := own_len hg.own1 (congrArg List.length (fm_same (mark_N a.fn a.fg) g.L))
              have own2x := own_len hg.own2 (congrArg List.length (fm_same (mark_V a.fn a.fg) g.L))
              have own3x : Own g.o3 g.n g.c3 1 ((g.L.map (mark a.fn a.fg)).flatMap encC) g.t3 := own_len hg.own3 (by rw [fm_length encC1, fm_length encC1, List.length_map])
              refine WC_exit ?_
              refine WQ_code ?_
              refine WC_seq ?_
              refine WC_region ?_
              refine WL_val rfl rfl rfl (R_move rfl rfl) ?_
              refine WL_val rfl rfl rfl (R_len rfl Try.underlying49 rfl) ?_
              refine WL_val rfl rfl rfl (R_move rfl rfl) ?_
              refine WL_nil ?_
              refine WQ_code ?_
              refine WC_block ?_
              refine WC_loopF (G := Nat) [4, 22, 23, 24, 181, 182, 183, 184, 185, 186, 187, 188, 189, 190, 191, 192, 193, 194, 195, 196, 197, 198, 199, 200, 201, 202, 203, 204, 205, 206, 207, 208, 209, 210, 211, 212, 213, 214, 215, 216, 217, 218, 219, 220] (fun x => x ≤ g.n) (fun x => [(181, .int .i64 (x : Int))]) (fun x => []) (fun x => g.n - x) (0) (Nat.zero_le _) (Le.lq (by repeat (first | exact Le.nil | refine Le.cons rfl (by first | rfl | (congr 1; omega)) ?_))) (by repeat (first | exact Pulls.nil | exact Pulls.all | (apply Pulls.cons; (repeat (first | exact Pull.head | apply Pull.tail))) | apply Pulls.skip)) ?_
              rintro x hx
              refine WC_seq ?_
              refine WC_region ?_
              refine WL_val rfl rfl rfl (R_lss rfl rfl rfl) ?_
              refine WL_nil ?_
              refine WQ_code ?_
              refine WC_seq ?_
              refine WC_dec rfl (fun c29 => ?_) (fun c29 => ?_)
              · refine WC_skip ?_
                refine WQ_code ?_
                refine WC_seq ?_
                refine WC_block ?_
                refine WC_seq ?_
                refine WC_region ?_
                refine WL_val rfl rfl rfl (R_move rfl rfl) ?_
                refine WL_val rfl rfl rfl (R_assign rfl rfl) ?_
                refine WL_nil ?_
                refine WQ_code ?_
                refine WC_seq ?_
                refine WC_region ?_
                refine WL_val rfl rfl rfl (R_move rfl rfl) ?_
                refine WL_val rfl rfl rfl (R_move rfl rfl) ?_
                refine WL_val rfl rfl rfl (R_move rfl rfl) ?_
                obtain ⟨y, hy⟩ := exE (T := (g.L.map (mark a.fn a.fg))) (i := x) (by first | omega | (simp; omega))
                obtain ⟨wb1, hwb1⟩ := own1x.some_of (by omega)
                rw [hwb1]
                obtain ⟨wb2, hwb2⟩ := own2x.some_of (by omega)
                rw [hwb2]
                obtain ⟨wb3, hwb3⟩ := own3x.some_of (by omega)
                rw [hwb3]
                refine WL_val rfl rfl rfl (R_indexAddrN rfl Try.underlying49 Try.sizeOf34 rfl rfl (by omega)) ?_
                refine WL_val rfl rfl rfl (R_loadA (vs := [.int .i64 y.n, .int .i64 y.gen]) rfl ag34 rfl (by repeat (first | exact List.Mem.head _ | refine List.Mem.tail _ ?_)) rfl ((fm_at0 encN2 hy (j := 0) (vs := [.int .i64 y.n, .int .i64 y.gen]) (At.cons (At.cons At.nil)) (by simp)))) ?_
                refine WL_do rfl rfl rfl (D_call (hget p pb m [] T2 hf2 (g.L.map (mark a.fn a.fg)) hok2 (by first | omega | (simp; omega)) x y hy) rfl rfl rfl rfl (by repeat (first | exact Pulls.nil | exact Pulls.all | (apply Pulls.cons; (repeat (first | exact Pull.head | apply Pull.tail))) | apply Pulls.skip))) ?_
                rintro _ _ ⟨_, ⟨v9, e9, rfl, rfl, hc9, hc0⟩, rfl⟩
                refine WL_val rfl rfl rfl (R_move rfl rfl) ?_
                refine WL_val rfl rfl rfl (R_extract rfl rfl rfl) ?_
                refine WL_val rfl rfl rfl (R_extract rfl rfl rfl) ?_
                refine WL_val rfl rfl rfl (R_assign rfl rfl) ?_
                refine WL_val rfl rfl rfl (R_assign rfl rfl) ?_
                refine WL_nil ?_
                refine WQ_code ?_
                refine WC_seq ?_
                refine WC_region ?_
                refine WL_val rfl rfl rfl (R_move rfl rfl) ?_
                refine WL_val rfl rfl rfl (R_move rfl rfl) ?_
                refine WL_val rfl rfl rfl (R_indexAddrN rfl Try.underlying51 Try.sizeOf4 rfl rfl (by omega)) ?_
                refine WL_val rfl rfl rfl (R_load (v := .bool y.closed) rfl sc4 rfl (by repeat (first | exact List.Mem.head _ | refine List.Mem.tail _ ?_)) (fm_get0 encC1 hy (j := 0) (by omega))) ?_
                refine WL_val rfl rfl rfl (R_move rfl rfl) ?_
                refine WL_split (s := 197) rfl (fun c30 => ?_) (fun c30 => ?_)
                · have hcl := c30
                  have he9 := hc9 hcl
                  refine WL_val rfl rfl rfl (R_move rfl rfl) ?_
                  refine WL_val rfl rfl rfl (R_neq rfl rfl rfl) ?_
                  refine WL_val rfl rfl rfl (R_pickT rfl rfl rfl) ?_
                  refine WL_val rfl rfl rfl (R_move rfl rfl) ?_
                  refine WL_set (s := 201) (v := .bool false) rfl (by simp [he9]) ?_
                  refine WL_val rfl rfl rfl (R_move rfl rfl) ?_
                  refine WL_val rfl rfl rfl (R_move rfl rfl) ?_
                  refine WL_val rfl rfl rfl (R_indexAddrN rfl Try.underlying51 Try.sizeOf4 rfl rfl (by omega)) ?_
                  refine WL_val rfl rfl rfl (R_load (v := .bool y.closed) rfl sc4 rfl (by repeat (first | exact List.Mem.head _ | refine List.Mem.tail _ ?_)) (fm_get0 encC1 hy (j := 0) (by omega))) ?_
                  refine WL_val rfl rfl rfl (R_not rfl rfl) ?_
                  refine WL_val rfl rfl rfl (R_move rfl rfl) ?_
                  refine WL_set (s := 207) (v := .bool false) rfl (by simp [hcl]) ?_
                  refine WL_skip rfl rfl rfl ?_
                  refine WL_skip rfl rfl rfl ?_
                  refine WL_skip rfl rfl rfl ?_
                  refine WL_skip rfl rfl rfl ?_
                  refine WL_skip rfl rfl rfl ?_
                  refine WL_skip rfl rfl rfl ?_
                  refine WL_skip rfl rfl rfl ?_
                  refine WL_skip rfl rfl rfl ?_
                  refine WL_skip rfl rfl rfl ?_
                  refine WL_skip rfl rfl rfl ?_
                  refine WL_val rfl rfl rfl (R_pickF rfl rfl rfl) ?_
                  refine WL_val rfl rfl rfl (R_pickF rfl rfl rfl) ?_
                  refine WL_nil ?_
                  refine WQ_code ?_
                  refine WC_F rfl ?_
                  refine WC_skip ?_
                  refine WQ_code ?_
                  refine WC_region ?_
                  refine WL_val rfl rfl rfl (R_add rfl rfl rfl (by omega)) ?_
                  refine WL_val rfl rfl rfl (R_move rfl rfl) ?_
                  refine WL_nil ?_
                  refine WQ_nextF (x + 1) (by omega) (by omega) (Le.lq (by repeat (first | exact Le.nil | refine Le.cons rfl (by first | rfl | (congr 1; omega)) ?_))) (by repeat (first | exact Pushed.refl | refine Pushed.push rfl ?_)) rfl (by repeat (first | exact Pulls.nil | exact Pulls.all | (apply Pulls.cons; (repeat (first | exact Pull.head | apply Pull.tail))) | apply Pulls.skip))
                · have hcl := c30
                  obtain ⟨hv0, he0⟩ := hc0 hcl
                  refine WL_skip rfl rfl rfl ?_
                  refine WL_skip rfl rfl rfl ?_
                  refine WL_val rfl rfl rfl (R_pickF rfl rfl rfl) ?_
                  refine WL_val rfl rfl rfl (R_move rfl rfl) ?_
                  refine WL_val rfl rfl rfl (R_move rfl rfl) ?_
                  refine WL_val rfl rfl rfl (R_move rfl rfl) ?_
                  refine WL_val rfl rfl rfl (R_indexAddrN rfl Try.underlying51 Try.sizeOf4 rfl rfl (by omega)) ?_
                  refine WL_val rfl rfl rfl (R_load (v := .bool y.closed) rfl sc4 rfl (by repeat (first | exact List.Mem.head _ | refine List.Mem.tail _ ?_)) (fm_get0 encC1 hy (j := 0) (by omega))) ?_
                  refine WL_val rfl rfl rfl (R_not rfl rfl) ?_
                  refine WL_val rfl rfl rfl (R_move rfl rfl) ?_
                  refine WL_set (s := 207) (v := .bool true) rfl (by simp [hcl]) ?_
                  refine WL_val rfl rfl rfl (R_move rfl rfl) ?_
                  refine WL_val rfl rfl rfl (R_move rfl rfl) ?_
                  refine WL_val rfl rfl rfl (R_move rfl rfl) ?_
                  refine WL_val rfl rfl rfl (R_indexAddrN rfl Try.underlying50 Try.sizeOf3 rfl rfl (by omega)) ?_
                  refine WL_val rfl rfl rfl (R_load (v := .int .i64 y.value) rfl sc3 rfl (by repeat (first | exact List.Mem.head _ | refine List.Mem.tail _ ?_)) (fm_get0 encV1 hy (j := 0) (by omega))) ?_
                  refine WL_val rfl rfl rfl (R_neq rfl rfl rfl) ?_
                  refine WL_val rfl rfl rfl (R_move rfl rfl) ?_
                  refine WL_set (s := 214) (v := .bool false) rfl (by simp [hv0]) ?_
                  refine WL_val rfl rfl rfl (R_move rfl rfl) ?_
                  refine WL_val rfl rfl rfl (R_neq rfl rfl rfl) ?_
                  refine WL_val rfl rfl rfl (R_pickF rfl rfl rfl) ?_
                  refine WL_val rfl rfl rfl (R_pickT rfl rfl rfl) ?_
                  refine WL_val rfl rfl rfl (R_pickF rfl rfl rfl) ?_
                  refine WL_nil ?_
                  refine WQ_code ?_
                  refine WC_dF rfl (by simp [he0]) ?_
                  refine WC_skip ?_
                  refine WQ_code ?_
                  refine WC_region ?_
                  refine WL_val rfl rfl rfl (R_add rfl rfl rfl (by omega)) ?_
                  refine WL_val rfl rfl rfl (R_move rfl rfl) ?_
                  refine WL_nil ?_
                  refine WQ_nextF (x + 1) (by omega) (by omega) (Le.lq (by repeat (first | exact Le.nil | refine Le.cons rfl (by first | rfl | (congr 1; omega)) ?_))) (by repeat (first | exact Pushed.refl | refine Pushed.push rfl ?_)) rfl (by repeat (first | exact Pulls.nil | exact Pulls.all | (apply Pulls.cons; (repeat (first | exact Pull.head | apply Pull.tail))) | apply Pulls.skip))
              · refine WC_exit ?_
                refine WQ_code ?_
                refine WC_region ?_
                refine WL_val rfl rfl rfl (R_add rfl rfl rfl (by omega)) ?_
                refine WL_val rfl rfl rfl (R_move rfl rfl) ?_
                refine WL_nil ?_
                refine WQ_nextF (⟨g.k + 1, T2, (g.L.map (mark a.fn a.fg)), g.n, g.o1, g.c1, g.t1, g.o2, g.c2, g.t2, g.o3, g.c3, g.t3⟩) (⟨by dsimp only; omega, hT2.trans hg.len, hf2, hok2, (by rw [List.length_map]; exact hg.cnt), by have := hg.few; dsimp only; rw [List.length_map]; omega, own1x, own2x, own3x⟩) (by dsimp only; omega) (Le.lq (by repeat (first | exact Le.nil | refine Le.cons rfl (by first | rfl | (congr 1; omega)) ?_))) (by repeat (first | exact Pushed.refl | refine Pushed.push rfl ?_)) rfl (by repeat (first | exact Pulls.nil | exact Pulls.all | (apply Pulls.cons; (repeat (first | exact Pull.head | apply Pull.tail))) | apply Pulls.skip))
        · refine WC_seq ?_
          refine WC_region ?_
          refine WL_val rfl rfl rfl (R_eql rfl rfl rfl) ?_
          refine WL_val rfl rfl rfl (R_assign rfl rfl) ?_
          refine WL_nil ?_
          refine WQ_code ?_
          refine WC_dec rfl (fun c31 => ?_) (fun c31 => ?_)
          · refine WC_seq ?_
            refine WC_region ?_
            refine WL_val rfl rfl rfl (R_move rfl rfl) ?_
            refine WL_val rfl rfl rfl (R_fieldAddr rfl fa36_2 rfl) ?_
            refine WL_val rfl rfl rfl (R_loadA (vs := [_, _]) rfl ag34 rfl (by repeat (first | exact List.Mem.head _ | refine List.Mem.tail _ ?_)) rfl (by repeat (first | exact At.nil | refine At.cons ?_ | refine At.succ ?_))) ?_
            refine WL_val rfl rfl rfl (R_fieldAddr rfl fa36_1 rfl) ?_
            refine WL_val rfl rfl rfl (R_load rfl sc3 rfl (by repeat (first | exact List.Mem.head _ | refine List.Mem.tail _ ?_)) rfl) ?_
            refine WL_do rfl rfl rfl (D_call (hset p pb m [] g.T hg.fine g.L hg.ok (by omega) a.fn a.fg a.value) rfl rfl rfl rfl (by repeat (first | exact Pulls.nil | exact Pulls.all | (apply Pulls.cons; (repeat (first | exact Pull.head | apply Pull.tail))) | apply Pulls.skip))) ?_
            rintro _ _ ⟨_, ⟨e, T2, rfl, rfl, hT2, hf2, hok2, hez⟩, rfl⟩
            refine WL_val rfl rfl rfl (R_assign rfl rfl) ?_
            refine WL_nil ?_
            refine WQ_code ?_
            refine WC_seq ?_
            refine WC_region ?_
            refine WL_val rfl rfl rfl (R_move rfl rfl) ?_
            refine WL_val rfl rfl rfl (R_len rfl Try.underlying49 rfl) ?_
            refine WL_val rfl rfl rfl (R_move rfl rfl) ?_
            refine WL_nil ?_
            refine WQ_code ?_
            refine WC_block ?_
            refine WC_loopF (G := Nat) [4, 21, 154, 155, 156, 157, 158, 159, 160, 161, 162, 163, 164, 165, 166, 167, 168, 169, 170, 171, 172, 173, 174, 175, 176, 177, 178] (fun x => x ≤ g.n) (fun x => [(154, .int .i64 (x : Int))]) (fun x => [⟨g.o2, cl ((midL (upd a.fn a.fg a.value) g.L x).flatMap encV ++ g.t2) 3⟩]) (fun x => g.n - x) (0) (Nat.zero_le _) (Le.lq (by repeat (first | exact Le.nil | refine Le.cons rfl (by first | rfl | (congr 1; omega)) ?_))) (by repeat (first | exact Pulls.nil | exact Pulls.all | (apply Pulls.cons; (repeat (first | exact Pull.head | apply Pull.tail))) | apply Pulls.skip)) ?_
            rintro x hx
            refine WC_seq ?_
            refine WC_region ?_
            refine WL_val rfl rfl rfl (R_lss rfl rfl rfl) ?_
            refine WL_nil ?_
            refine WQ_code ?_
            refine WC_seq ?_
            refine WC_dec rfl (fun c32 => ?_) (fun c32 => ?_)
            · refine WC_skip ?_
              refine WQ_code ?_
              refine WC_seq ?_
              refine WC_block ?_
              refine WC_seq ?_
              refine WC_region ?_
              refine WL_val rfl rfl rfl (R_move rfl rfl) ?_
              refine WL_val rfl rfl rfl (R_assign rfl rfl) ?_
              refine WL_nil ?_
              refine WQ_code ?_
              refine WC_seq ?_
              refine WC_draw _ [(0, true), (1, true), (2, true), (3, true), (4, true), (5, true), (6, true), (7, true), (8, true), (9, true), (10, true), (11, true), (12, true), (13, true)] followsMixed rfl rfl (by kernel_rfl) .all ?_
              refine WM_val rfl rfl rfl rfl (R_move rfl rfl) ?_
              refine WM_val rfl rfl rfl rfl (R_move rfl rfl) ?_
              obtain ⟨y, hy⟩ := exE (T := g.L) (i := x) (by omega)
              obtain ⟨wb1, hwb1⟩ := hg.own1.some_of (by omega)
              rw [hwb1]
              obtain ⟨wb2, hwb2⟩ := hg.own2.some_of (by omega)
              rw [hwb2]
              obtain ⟨wb3, hwb3⟩ := hg.own3.some_of (by omega)
              rw [hwb3]
              refine WM_val rfl rfl rfl rfl (R_indexAddrN rfl Try.underlying49 Try.sizeOf34 rfl rfl (by omega)) ?_
              refine WM_val rfl rfl rfl rfl (R_loadA (vs := [.int .i64 y.n, .int .i64 y.gen]) rfl ag34 rfl (by repeat (first | exact List.Mem.head _ | refine List.Mem.tail _ ?_)) rfl ((fm_at0 encN2 hy (j := 0) (vs := [.int .i64 y.n, .int .i64 y.gen]) (At.cons (At.cons At.nil)) (by simp)))) ?_
              refine WM_val rfl rfl rfl rfl (R_fieldAddr rfl fa36_2 rfl) ?_
              refine WM_val rfl rfl rfl rfl (R_loadA (vs := [_, _]) rfl ag34 rfl (by repeat (first | exact List.Mem.head _ | refine List.Mem.tail _ ?_)) rfl (by repeat (first | exact At.nil | refine At.cons ?_ | refine At.succ ?_))) ?_
              refine WM_val rfl rfl rfl rfl (R_seq34 rfl rfl rfl rfl) ?_
              refine WM_val rfl rfl rfl rfl (R_move rfl rfl) ?_
              refine WM_splitD (s := 164) rfl (fun c33 => ?_) (fun c33 => ?_)
              · refine WM_val rfl rfl rfl rfl (R_move rfl rfl) ?_
                refine WM_val rfl rfl rfl rfl (R_move rfl rfl) ?_
                refine WM_val rfl rfl rfl rfl (R_indexAddrN rfl Try.underlying51 Try.sizeOf4 rfl rfl (by omega)) ?_
                refine WM_val rfl rfl rfl rfl (R_load (v := .bool y.closed) rfl sc4 rfl (by repeat (first | exact List.Mem.head _ | refine List.Mem.tail _ ?_)) (fm_get0 encC1 hy (j := 0) (by omega))) ?_
                refine WM_val rfl rfl rfl rfl (R_not rfl rfl) ?_
                refine WM_val rfl rfl rfl rfl (R_pickT rfl rfl rfl) ?_
                refine WM_nil ?_
                refine WQ_code ?_
                refine WC_if rfl (fun c34 => ?_) (fun c34 => ?_)
                · have hh : hit a.fn a.fg y = true := hit_iff.2 ⟨by simp_all, by simp_all, by simp_all⟩
                  have he0 := hez y (List.mem_of_getElem? hy) hh
                  refine WC_seq ?_
                  refine WC_seq ?_
                  refine WC_region ?_
                  refine WL_val rfl rfl rfl (R_move rfl rfl) ?_
                  refine WL_val rfl rfl rfl (R_neq rfl rfl rfl) ?_
                  refine WL_nil ?_
                  refine WQ_code ?_
                  refine WC_dF rfl (by omega) ?_
                  refine WC_skip ?_
                  refine WQ_code ?_
                  refine WC_region ?_
                  refine WL_val rfl rfl rfl (R_move rfl rfl) ?_
                  refine WL_val rfl rfl rfl (R_move rfl rfl) ?_
                  refine WL_val rfl rfl rfl (R_fieldAddr rfl fa36_1 rfl) ?_
                  refine WL_val rfl rfl rfl (R_load rfl sc3 rfl (by repeat (first | exact List.Mem.head _ | refine List.Mem.tail _ ?_)) rfl) ?_
                  refine WL_val rfl rfl rfl (R_indexAddrN rfl Try.underlying50 Try.sizeOf3 rfl rfl (by omega)) ?_
                  refine WL_do0 rfl rfl (D_store (vs := [_]) rfl Try.sizeOf3 rfl rfl rfl rfl rfl (by repeat (first | exact Pull.head | apply Pull.tail)) (by exact fm_room0 encV1 (by rw [midL_len]; exact lt_of2 hy) (j := 0) (by omega))) ?_
                  rintro _ _ rfl
                  have hput := fm_put0 encV1 (upd a.fn a.fg a.value y) (midL_at (f := upd a.fn a.fg a.value) hy) (j := 0) (vs := [.int .i64 a.value]) (by simp) (by rw [upd, hh]; rfl) (tl := g.t2)
                  rw [Nat.add_zero] at hput
                  rw [hput, ← midL_succ hy]
                  refine WL_nil ?_
                  refine WQ_code ?_
                  refine WC_region ?_
                  refine WL_val rfl rfl rfl (R_add rfl rfl rfl (by omega)) ?_
                  refine WL_val rfl rfl rfl (R_move rfl rfl) ?_
                  refine WL_nil ?_
                  refine WQ_nextF (x + 1) (by omega) (by omega) (Le.lq (by repeat (first | exact Le.nil | refine Le.cons rfl (by first | rfl | (congr 1; omega)) ?_))) (by repeat (first | exact Pushed.refl | refine Pushed.push rfl ?_)) rfl (by repeat (first | exact Pulls.nil | exact Pulls.all | (apply Pulls.cons; (repeat (first | exact Pull.head | apply Pull.tail))) | apply Pulls.skip))
                · have hh : hit a.fn a.fg y = false := hit_no (by simp_all)
                  refine WC_skip ?_
                  refine WQ_code ?_
                  refine WC_region ?_
                  refine WL_val rfl rfl rfl (R_add rfl rfl rfl (by omega)) ?_
                  refine WL_val rfl rfl rfl (R_move rfl rfl) ?_
                  refine WL_nil ?_
                  rw [← midL_same hy (show upd a.fn a.fg a.value y = y by rw [upd, hh]; rfl)]
                  refine WQ_nextF (x + 1) (by omega) (by omega) (Le.lq (by repeat (first | exact Le.nil | refine Le.cons rfl (by first | rfl | (congr 1; omega)) ?_))) (by repeat (first | exact Pushed.refl | refine Pushed.push rfl ?_)) rfl (by repeat (first | exact Pulls.nil | exact Pulls.all | (apply Pulls.cons; (repeat (first | exact Pull.head | apply Pull.tail))) | apply Pulls.skip))
              · refine WM_skip rfl rfl rfl rfl ?_
                refine WM_skip rfl rfl rfl rfl ?_
                refine WM_skip rfl rfl rfl rfl ?_
                refine WM_skip rfl rfl rfl rfl ?_
                refine WM_skip rfl rfl rfl rfl ?_
                refine WM_val rfl rfl rfl rfl (R_pickF rfl rfl rfl) ?_
                refine WM_nil ?_
                refine WQ_code ?_
                refine WC_F rfl ?_
                refine WC_skip ?_
                refine WQ_code ?_
                refine WC_region ?_
                refine WL_val rfl rfl rfl (R_add rfl rfl rfl (by omega)) ?_
                refine WL_val rfl rfl rfl (R_move rfl rfl) ?_
                refine WL_nil ?_
                have hh : hit a.fn a.fg y = false := hit_no (by simp_all)
                rw [← midL_same hy (show upd a.fn a.fg a.value y = y by rw [upd, hh]; rfl)]
                refine WQ_nextF (x + 1) (by omega) (by omega) (Le.lq (by repeat (first | exact Le.nil | refine Le.cons rfl (by first | rfl | (congr 1; omega)) ?_))) (by repeat (first | exact Pushed.refl | refine Pushed.push rfl ?_)) rfl (by repeat (first | exact Pulls.nil | exact Pulls.all | (apply Pulls.cons; (repeat (first | exact Pull.head | apply Pull.tail))) | apply Pulls.skip))
            · have ex : x = g.L.length := by omega
              rw [ex, midL_all, ← fm_same (upd_N a.fn a.fg a.value) g.L, ← fm_same (upd_C a.fn a.fg a.value) g.L]
              have own1x := own_len hg.own1 (congrArg List.length (fm_same (upd_N a.fn a.fg a.value) g.L))
              have own3x := own_len hg.own3 (congrArg List.length (fm_same (upd_C a.fn a.fg a.value) g.L))
              have own2x : Own g.o2 g.n g.c2 1 ((g.L.map (upd a.fn a.fg a.value)).flatMap encV) g.t2 := own_len hg.own2 (by rw [fm_length encV1, fm_length encV1, List.length_map])
              refine WC_exit ?_
              refine WQ_code ?_
              refine WC_seq ?_
              refine WC_region ?_
              refine WL_val rfl rfl rfl (R_move rfl rfl) ?_
              refine WL_val rfl rfl rfl (R_len rfl Try.underlying49 rfl) ?_
              refine WL_val rfl rfl rfl (R_move rfl rfl) ?_
              refine WL_nil ?_
              refine WQ_code ?_
              refine WC_block ?_
              refine WC_loopF (G := Nat) [4, 22, 23, 24, 181, 182, 183, 184, 185, 186, 187, 188, 189, 190, 191, 192, 193, 194, 195, 196, 197, 198, 199, 200, 201, 202, 203, 204, 205, 206, 207, 208, 209, 210, 211, 212, 213, 214, 215, 216, 217, 218, 219, 220] (fun x => x ≤ g.n) (fun x => [(181, .int .i64 (x : Int))]) (fun x => []) (fun x => g.n - x) (0) (Nat.zero_le _) (Le.lq (by repeat (first | exact Le.nil | refine Le.cons rfl (by first | rfl | (congr 1; omega)) ?_))) (by repeat (first | exact Pulls.nil | exact Pulls.all | (apply Pulls.cons; (repeat (first | exact Pull.head | apply Pull.tail))) | apply Pulls.skip)) ?_
              rintro x hx
              refine WC_seq ?_
              refine WC_region ?_
              refine WL_val rfl rfl rfl (R_lss rfl rfl rfl) ?_
              refine WL_nil ?_
              refine WQ_code ?_
              refine WC_seq ?_
              refine WC_dec rfl (fun c35 => ?_) (fun c35 => ?_)
              · refine WC_skip ?_
                refine WQ_code ?_
                refine WC_seq ?_
                refine WC_block ?_
                refine WC_seq ?_
                refine WC_region ?_
                refine WL_val rfl rfl rfl (R_move rfl rfl) ?_
                refine WL_val rfl rfl rfl (R_assign rfl rfl) ?_
                refine WL_nil ?_
                refine WQ_code ?_
                refine WC_seq ?_
                refine WC_region ?_
                refine WL_val rfl rfl rfl (R_move rfl rfl) ?_
                refine WL_val rfl rfl rfl (R_move rfl rfl) ?_
                refine WL_val rfl rfl rfl (R_move rfl rfl) ?_
                obtain ⟨y, hy⟩ := exE (T := (g.L.map (upd a.fn a.fg a.value))) (i := x) (by first | omega | (simp; omega))
                obtain ⟨wb1, hwb1⟩ := own1x.some_of (by omega)
                rw [hwb1]
                obtain ⟨wb2, hwb2⟩ := own2x.some_of (by omega)
                rw [hwb2]
                obtain ⟨wb3, hwb3⟩ := own3x.some_of (by omega)
                rw [hwb3]
                refine WL_val rfl rfl rfl (R_indexAddrN rfl Try.underlying49 Try.sizeOf34 rfl rfl (by omega)) ?_
                refine WL_val rfl rfl rfl (R_loadA (vs := [.int .i64 y.n, .int .i64 y.gen]) rfl ag34 rfl (by repeat (first | exact List.Mem.head _ | refine List.Mem.tail _ ?_)) rfl ((fm_at0 encN2 hy (j := 0) (vs := [.int .i64 y.n, .int .i64 y.gen]) (At.cons (At.cons At.nil)) (by simp)))) ?_
                refine WL_do rfl rfl rfl (D_call (hget p pb m [] T2 hf2 (g.L.map (upd a.fn a.fg a.value)) hok2 (by first | omega | (simp; omega)) x y hy) rfl rfl rfl rfl (by repeat (first | exact Pulls.nil | exact Pulls.all | (apply Pulls.cons; (repeat (first | exact Pull.head | apply Pull.tail))) | apply Pulls.skip))) ?_
                rintro _ _ ⟨_, ⟨v9, e9, rfl, rfl, hc9, hc0⟩, rfl⟩
                refine WL_val rfl rfl rfl (R_move rfl rfl) ?_
                refine WL_val rfl rfl rfl (R_extract rfl rfl rfl) ?_
                refine WL_val rfl rfl rfl (R_extract rfl rfl rfl) ?_
                refine WL_val rfl rfl rfl (R_assign rfl rfl) ?_
                refine WL_val rfl rfl rfl (R_assign rfl rfl) ?_
                refine WL_nil ?_
                refine WQ_code ?_
                refine WC_seq ?_
                refine WC_region ?_
                refine WL_val rfl rfl rfl (R_move rfl rfl) ?_
                refine WL_val rfl rfl rfl (R_move rfl rfl) ?_
                refine WL_val rfl rfl rfl (R_indexAddrN rfl Try.underlying51 Try.sizeOf4 rfl rfl (by omega)) ?_
                refine WL_val rfl rfl rfl (R_load (v := .bool y.closed) rfl sc4 rfl (by repeat (first | exact List.Mem.head _ | refine List.Mem.tail _ ?_)) (fm_get0 encC1 hy (j := 0) (by omega))) ?_
                refine WL_val rfl rfl rfl (R_move rfl rfl) ?_
                refine WL_split (s := 197) rfl (fun c36 => ?_) (fun c36 => ?_)
                · have hcl := c36
                  have he9 := hc9 hcl
                  refine WL_val rfl rfl rfl (R_move rfl rfl) ?_
                  refine WL_val rfl rfl rfl (R_neq rfl rfl rfl) ?_
                  refine WL_val rfl rfl rfl (R_pickT rfl rfl rfl) ?_
                  refine WL_val rfl rfl rfl (R_move rfl rfl) ?_
                  refine WL_set (s := 201) (v := .bool false) rfl (by simp [he9]) ?_
                  refine WL_val rfl rfl rfl (R_move rfl rfl) ?_
                  refine WL_val rfl rfl rfl (R_move rfl rfl) ?_
                  refine WL_val rfl rfl rfl (R_indexAddrN rfl Try.underlying51 Try.sizeOf4 rfl rfl (by omega)) ?_
                  refine WL_val rfl rfl rfl (R_load (v := .bool y.closed) rfl sc4 rfl (by repeat (first | exact List.Mem.head _ | refine List.Mem.tail _ ?_)) (fm_get0 encC1 hy (j := 0) (by omega))) ?_
                  refine WL_val rfl rfl rfl (R_not rfl rfl) ?_
                  refine WL_val rfl rfl rfl (R_move rfl rfl) ?_
                  refine WL_set (s := 207) (v := .bool false) rfl (by simp [hcl]) ?_
                  refine WL_skip rfl rfl rfl ?_
                  refine WL_skip rfl rfl rfl ?_
                  refine WL_skip rfl rfl rfl ?_
                  refine WL_skip rfl rfl rfl ?_
                  refine WL_skip rfl rfl rfl ?_
                  refine WL_skip rfl rfl rfl ?_
                  refine WL_skip rfl rfl rfl ?_
                  refine WL_skip rfl rfl rfl ?_
                  refine WL_skip rfl rfl rfl ?_
                  refine WL_skip rfl rfl rfl ?_
                  refine WL_val rfl rfl rfl (R_pickF rfl rfl rfl) ?_
                  refine WL_val rfl rfl rfl (R_pickF rfl rfl rfl) ?_
                  refine WL_nil ?_
                  refine WQ_code ?_
                  refine WC_F rfl ?_
                  refine WC_skip ?_
                  refine WQ_code ?_
                  refine WC_region ?_
                  refine WL_val rfl rfl rfl (R_add rfl rfl rfl (by omega)) ?_
                  refine WL_val rfl rfl rfl (R_move rfl rfl) ?_
                  refine WL_nil ?_
                  refine WQ_nextF (x + 1) (by omega) (by omega) (Le.lq (by repeat (first | exact Le.nil | refine Le.cons rfl (by first | rfl | (congr 1; omega)) ?_))) (by repeat (first | exact Pushed.refl | refine Pushed.push rfl ?_)) rfl (by repeat (first | exact Pulls.nil | exact Pulls.all | (apply Pulls.cons; (repeat (first | exact Pull.head | apply Pull.tail))) | apply Pulls.skip))
                · have hcl := c36
                  obtain ⟨hv0, he0⟩ := hc0 hcl
                  refine WL_skip rfl rfl rfl ?_
                  refine WL_skip rfl rfl rfl ?_
                  refine WL_val rfl rfl rfl (R_pickF rfl rfl rfl) ?_
                  refine WL_val rfl rfl rfl (R_move rfl rfl) ?_
                  refine WL_val rfl rfl rfl (R_move rfl rfl) ?_
                  refine WL_val rfl rfl rfl (R_move rfl rfl) ?_
                  refine WL_val rfl rfl rfl (R_indexAddrN rfl Try.underlying51 Try.sizeOf4 rfl rfl (by omega)) ?_
                  refine WL_val rfl rfl rfl (R_load (v := .bool y.closed) rfl sc4 rfl (by repeat (first | exact List.Mem.head _ | refine List.Mem.tail _ ?_)) (fm_get0 encC1 hy (j := 0) (by omega))) ?_
                  refine WL_val rfl rfl rfl (R_not rfl rfl) ?_
                  refine WL_val rfl rfl rfl (R_move rfl rfl) ?_
                  refine WL_set (s := 207) (v := .bool true) rfl (by simp [hcl]) ?_
                  refine WL_val rfl rfl rfl (R_move rfl rfl) ?_
                  refine WL_val rfl rfl rfl (R_move rfl rfl) ?_
                  refine WL_val rfl rfl rfl (R_move rfl rfl) ?_
                  refine WL_val rfl rfl rfl (R_indexAddrN rfl Try.underlying50 Try.sizeOf3 rfl rfl (by omega)) ?_
                  refine WL_val rfl rfl rfl (R_load (v := .int .i64 y.value) rfl sc3 rfl (by repeat (first | exact List.Mem.head _ | refine List.Mem.tail _ ?_)) (fm_get0 encV1 hy (j := 0) (by omega))) ?_
                  refine WL_val rfl rfl rfl (R_neq rfl rfl rfl) ?_
                  refine WL_val rfl rfl rfl (R_move rfl rfl) ?_
                  refine WL_set (s := 214) (v := .bool false) rfl (by simp [hv0]) ?_
                  refine WL_val rfl rfl rfl (R_move rfl rfl) ?_
                  refine WL_val rfl rfl rfl (R_neq rfl rfl rfl) ?_
                  refine WL_val rfl rfl rfl (R_pickF rfl rfl rfl) ?_
                  refine WL_val rfl rfl rfl (R_pickT rfl rfl rfl) ?_
                  refine WL_val rfl rfl rfl (R_pickF rfl rfl rfl) ?_
                  refine WL_nil ?_
                  refine WQ_code ?_
                  refine WC_dF rfl (by simp [he0]) ?_
                  refine WC_skip ?_
                  refine WQ_code ?_
                  refine WC_region ?_
                  refine WL_val rfl rfl rfl (R_add rfl rfl rfl (by omega)) ?_
                  refine WL_val rfl rfl rfl (R_move rfl rfl) ?_
                  refine WL_nil ?_
                  refine WQ_nextF (x + 1) (by omega) (by omega) (Le.lq (by repeat (first | exact Le.nil | refine Le.cons rfl (by first | rfl | (congr 1; omega)) ?_))) (by repeat (first | exact Pushed.refl | refine Pushed.push rfl ?_)) rfl (by repeat (first | exact Pulls.nil | exact Pulls.all | (apply Pulls.cons; (repeat (first | exact Pull.head | apply Pull.tail))) | apply Pulls.skip))
              · refine WC_exit ?_
                refine WQ_code ?_
                refine WC_region ?_
                refine WL_val rfl rfl rfl (R_add rfl rfl rfl (by omega)) ?_
                refine WL_val rfl rfl rfl (R_move rfl rfl) ?_
                refine WL_nil ?_
                refine WQ_nextF (⟨g.k + 1, T2, (g.L.map (upd a.fn a.fg a.value)), g.n, g.o1, g.c1, g.t1, g.o2, g.c2, g.t2, g.o3, g.c3, g.t3⟩) (⟨by dsimp only; omega, hT2.trans hg.len, hf2, hok2, (by rw [List.length_map]; exact hg.cnt), by have := hg.few; dsimp only; rw [List.length_map]; omega, own1x, own2x, own3x⟩) (by dsimp only; omega) (Le.lq (by repeat (first | exact Le.nil | refine Le.cons rfl (by first | rfl | (congr 1; omega)) ?_))) (by repeat (first | exact Pushed.refl | refine Pushed.push rfl ?_)) rfl (by repeat (first | exact Pulls.nil | exact Pulls.all | (apply Pulls.cons; (repeat (first | exact Pull.head | apply Pull.tail))) | apply Pulls.skip))
          · refine WC_skip ?_
            refine WQ_code ?_
            refine WC_seq ?_
            refine WC_region ?_
            refine WL_val rfl rfl rfl (R_move rfl rfl) ?_
            refine WL_val rfl rfl rfl (R_len rfl Try.underlying49 rfl) ?_
            refine WL_val rfl rfl rfl (R_move rfl rfl) ?_
            refine WL_nil ?_
            refine WQ_code ?_
            refine WC_block ?_
            refine WC_loopF (G := Nat) [4, 22, 23, 24, 181, 182, 183, 184, 185, 186, 187, 188, 189, 190, 191, 192, 193, 194, 195, 196, 197, 198, 199, 200, 201, 202, 203, 204, 205, 206, 207, 208, 209, 210, 211, 212, 213, 214, 215, 216, 217, 218, 219, 220] (fun x => x ≤ g.n) (fun x => [(181, .int .i64 (x : Int))]) (fun x => []) (fun x => g.n - x) (0) (Nat.zero_le _) (Le.lq (by repeat (first | exact Le.nil | refine Le.cons rfl (by first | rfl | (congr 1; omega)) ?_))) (by repeat (first | exact Pulls.nil | exact Pulls.all | (apply Pulls.cons; (repeat (first | exact Pull.head | apply Pull.tail))) | apply Pulls.skip)) ?_
            rintro x hx
            refine WC_seq ?_
            refine WC_region ?_
            refine WL_val rfl rfl rfl (R_lss rfl rfl rfl) ?_
            refine WL_nil ?_
            refine WQ_code ?_
            refine WC_seq ?_
            refine WC_dec rfl (fun c37 => ?_) (fun c37 => ?_)
            · refine WC_skip ?_
              refine WQ_code ?_
              refine WC_seq ?_
              refine WC_block ?_
              refine WC_seq ?_
              refine WC_region ?_
              refine WL_val rfl rfl rfl (R_move rfl rfl) ?_
              refine WL_val rfl rfl rfl (R_assign rfl rfl) ?_
              refine WL_nil ?_
              refine WQ_code ?_
              refine WC_seq ?_
              refine WC_region ?_
              refine WL_val rfl rfl rfl (R_move rfl rfl) ?_
              refine WL_val rfl rfl rfl (R_move rfl rfl) ?_
              refine WL_val rfl rfl rfl (R_move rfl rfl) ?_
              obtain ⟨y, hy⟩ := exE (T := g.L) (i := x) (by first | omega | (simp; omega))
              obtain ⟨wb1, hwb1⟩ := hg.own1.some_of (by omega)
              rw [hwb1]
              obtain ⟨wb2, hwb2⟩ := hg.own2.some_of (by omega)
              rw [hwb2]
              obtain ⟨wb3, hwb3⟩ := hg.own3.some_of (by omega)
              rw [hwb3]
              refine WL_val rfl rfl rfl (R_indexAddrN rfl Try.underlying49 Try.sizeOf34 rfl rfl (by omega)) ?_
              refine WL_val rfl rfl rfl (R_loadA (vs := [.int .i64 y.n, .int .i64 y.gen]) rfl ag34 rfl (by repeat (first | exact List.Mem.head _ | refine List.Mem.tail _ ?_)) rfl ((fm_at0 encN2 hy (j := 0) (vs := [.int .i64 y.n, .int .i64 y.gen]) (At.cons (At.cons At.nil)) (by simp)))) ?_
              refine WL_do rfl rfl rfl (D_call (hget p pb m [] g.T hg.fine g.L hg.ok (by first | omega | (simp; omega)) x y hy) rfl rfl rfl rfl (by repeat (first | exact Pulls.nil | exact Pulls.all | (apply Pulls.cons; (repeat (first | exact Pull.head | apply Pull.tail))) | apply Pulls.skip))) ?_
              rintro _ _ ⟨_, ⟨v9, e9, rfl, rfl, hc9, hc0⟩, rfl⟩
              refine WL_val rfl rfl rfl (R_move rfl rfl) ?_
              refine WL_val rfl rfl rfl (R_extract rfl rfl rfl) ?_
              refine WL_val rfl rfl rfl (R_extract rfl rfl rfl) ?_
              refine WL_val rfl rfl rfl (R_assign rfl rfl) ?_
              refine WL_val rfl rfl rfl (R_assign rfl rfl) ?_
              refine WL_nil ?_
              refine WQ_code ?_
              refine WC_seq ?_
              refine WC_region ?_
              refine WL_val rfl rfl rfl (R_move rfl rfl) ?_
              refine WL_val rfl rfl rfl (R_move rfl rfl) ?_
              refine WL_val rfl rfl rfl (R_indexAddrN rfl Try.underlying51 Try.sizeOf4 rfl rfl (by omega)) ?_
              refine WL_val rfl rfl rfl (R_load (v := .bool y.closed) rfl sc4 rfl (by repeat (first | exact List.Mem.head _ | refine List.Mem.tail _ ?_)) (fm_get0 encC1 hy (j := 0) (by omega))) ?_
              refine WL_val rfl rfl rfl (R_move rfl rfl) ?_
              refine WL_split (s := 197) rfl (fun c38 => ?_) (fun c38 => ?_)
              · have hcl := c38
                have he9 := hc9 hcl
                refine WL_val rfl rfl rfl (R_move rfl rfl) ?_
                refine WL_val rfl rfl rfl (R_neq rfl rfl rfl) ?_
                refine WL_val rfl rfl rfl (R_pickT rfl rfl rfl) ?_
                refine WL_val rfl rfl rfl (R_move rfl rfl) ?_
                refine WL_set (s := 201) (v := .bool false) rfl (by simp [he9]) ?_
                refine WL_val rfl rfl rfl (R_move rfl rfl) ?_
                refine WL_val rfl rfl rfl (R_move rfl rfl) ?_
                refine WL_val rfl rfl rfl (R_indexAddrN rfl Try.underlying51 Try.sizeOf4 rfl rfl (by omega)) ?_
                refine WL_val rfl rfl rfl (R_load (v := .bool y.closed) rfl sc4 rfl (by repeat (first | exact List.Mem.head _ | refine List.Mem.tail _ ?_)) (fm_get0 encC1 hy (j := 0) (by omega))) ?_
                refine WL_val rfl rfl rfl (R_not rfl rfl) ?_
                refine WL_val rfl rfl rfl (R_move rfl rfl) ?_
                refine WL_set (s := 207) (v := .bool false) rfl (by simp [hcl]) ?_
                refine WL_skip rfl rfl rfl ?_
                refine WL_skip rfl rfl rfl ?_
                refine WL_skip rfl rfl rfl ?_
                refine WL_skip rfl rfl rfl ?_
                refine WL_skip rfl rfl rfl ?_
                refine WL_skip rfl rfl rfl ?_
                refine WL_skip rfl rfl rfl ?_
                refine WL_skip rfl rfl rfl ?_
                refine WL_skip rfl rfl rfl ?_
                refine WL_skip rfl rfl rfl ?_
                refine WL_val rfl rfl rfl (R_pickF rfl rfl rfl) ?_
                refine WL_val rfl rfl rfl (R_pickF rfl rfl rfl) ?_
                refine WL_nil ?_
                refine WQ_code ?_
                refine WC_F rfl ?_
                refine WC_skip ?_
                refine WQ_code ?_
                refine WC_region ?_
                refine WL_val rfl rfl rfl (R_add rfl rfl rfl (by omega)) ?_
                refine WL_val rfl rfl rfl (R_move rfl rfl) ?_
                refine WL_nil ?_
                refine WQ_nextF (x + 1) (by omega) (by omega) (Le.lq (by repeat (first | exact Le.nil | refine Le.cons rfl (by first | rfl | (congr 1; omega)) ?_))) (by repeat (first | exact Pushed.refl | refine Pushed.push rfl ?_)) rfl (by repeat (first | exact Pulls.nil | exact Pulls.all | (apply Pulls.cons; (repeat (first | exact Pull.head | apply Pull.tail))) | apply Pulls.skip))
              · have hcl := c38
                obtain ⟨hv0, he0⟩ := hc0 hcl
                refine WL_skip rfl rfl rfl ?_
                refine WL_skip rfl rfl rfl ?_
                refine WL_val rfl rfl rfl (R_pickF rfl rfl rfl) ?_
                refine WL_val rfl rfl rfl (R_move rfl rfl) ?_
                refine WL_val rfl rfl rfl (R_move rfl rfl) ?_
                refine WL_val rfl rfl rfl (R_move rfl rfl) ?_
                refine WL_val rfl rfl rfl (R_indexAddrN rfl Try.underlying51 Try.sizeOf4 rfl rfl (by omega)) ?_
                refine WL_val rfl rfl rfl (R_load (v := .bool y.closed) rfl sc4 rfl (by repeat (first | exact List.Mem.head _ | refine List.Mem.tail _ ?_)) (fm_get0 encC1 hy (j := 0) (by omega))) ?_
                refine WL_val rfl rfl rfl (R_not rfl rfl) ?_
                refine WL_val rfl rfl rfl (R_move rfl rfl) ?_
                refine WL_set (s := 207) (v := .bool true) rfl (by simp [hcl]) ?_
                refine WL_val rfl rfl rfl (R_move rfl rfl) ?_
                refine WL_val rfl rfl rfl (R_move rfl rfl) ?_
                refine WL_val rfl rfl rfl (R_move rfl rfl) ?_
                refine WL_val rfl rfl rfl (R_indexAddrN rfl Try.underlying50 Try.sizeOf3 rfl rfl (by omega)) ?_
                refine WL_val rfl rfl rfl (R_load (v := .int .i64 y.value) rfl sc3 rfl (by repeat (first | exact List.Mem.head _ | refine List.Mem.tail _ ?_)) (fm_get0 encV1 hy (j := 0) (by omega))) ?_
                refine WL_val rfl rfl rfl (R_neq rfl rfl rfl) ?_
                refine WL_val rfl rfl rfl (R_move rfl rfl) ?_
                refine WL_set (s := 214) (v := .bool false) rfl (by simp [hv0]) ?_
                refine WL_val rfl rfl rfl (R_move rfl rfl) ?_
                refine WL_val rfl rfl rfl (R_neq rfl rfl rfl) ?_
                refine WL_val rfl rfl rfl (R_pickF rfl rfl rfl) ?_
                refine WL_val rfl rfl rfl (R_pickT rfl rfl rfl) ?_
                refine WL_val rfl rfl rfl (R_pickF rfl rfl rfl) ?_
                refine WL_nil ?_
                refine WQ_code ?_
                refine WC_dF rfl (by simp [he0]) ?_
                refine WC_skip ?_
                refine WQ_code ?_
                refine WC_region ?_
                refine WL_val rfl rfl rfl (R_add rfl rfl rfl (by omega)) ?_
                refine WL_val rfl rfl rfl (R_move rfl rfl) ?_
                refine WL_nil ?_
                refine WQ_nextF (x + 1) (by omega) (by omega) (Le.lq (by repeat (first | exact Le.nil | refine Le.cons rfl (by first | rfl | (congr 1; omega)) ?_))) (by repeat (first | exact Pushed.refl | refine Pushed.push rfl ?_)) rfl (by repeat (first | exact Pulls.nil | exact Pulls.all | (apply Pulls.cons; (repeat (first | exact Pull.head | apply Pull.tail))) | apply Pulls.skip))
            · refine WC_exit ?_
              refine WQ_code ?_
              refine WC_region ?_
              refine WL_val rfl rfl rfl (R_add rfl rfl rfl (by omega)) ?_
              refine WL_val rfl rfl rfl (R_move rfl rfl) ?_
              refine WL_nil ?_
              refine WQ_nextF (⟨g.k + 1, g.T, g.L, g.n, g.o1, g.c1, g.t1, g.o2, g.c2, g.t2, g.o3, g.c3, g.t3⟩) (⟨by dsimp only; omega, hg.len, hg.fine, hg.ok, hg.cnt, by have := hg.few; dsimp only; omega, hg.own1, hg.own2, hg.own3⟩) (by dsimp only; omega) (Le.lq (by repeat (first | exact Le.nil | refine Le.cons rfl (by first | rfl | (congr 1; omega)) ?_))) (by repeat (first | exact Pushed.refl | refine Pushed.push rfl ?_)) rfl (by repeat (first | exact Pulls.nil | exact Pulls.all | (apply Pulls.cons; (repeat (first | exact Pull.head | apply Pull.tail))) | apply Pulls.skip))
  · refine WC_exit ?_
    refine WQ_code ?_
    refine WC_seq ?_
    refine WC_region ?_
    refine WL_do rfl rfl rfl (D_call (known_ok) rfl rfl rfl rfl (by repeat (first | exact Pulls.nil | exact Pulls.all | (apply Pulls.cons; (repeat (first | exact Pull.head | apply Pull.tail))) | apply Pulls.skip))) ?_
    rintro _ _ ⟨_, ⟨rfl, rfl⟩, rfl⟩
    refine WL_val rfl rfl rfl (R_assign rfl rfl) ?_
    refine WL_nil ?_
    refine WQ_code ?_
    refine WC_ret ?_
    refine WQ_ret rfl rfl (.cons (.tmp rfl) .nil) rfl (by
        exact ⟨rfl, rfl⟩) (by repeat (first | exact Pulls.nil | exact Pulls.all | (apply Pulls.cons; (repeat (first | exact Pull.head | apply Pull.tail))) | apply Pulls.skip))

end Go.Proofs.Ytnolalkkdigcbaa
