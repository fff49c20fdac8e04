/-
  Chapter 45 (rpc), part Fulls: contracts of functions that the laws call, each for the heap it names.
-/
import Derived.Test.YtdelhikejgoffaaY03
import Derived.Test.YtdelhikejgoffaaRows
section
set_option linter.unusedVariables false
set_option maxRecDepth 20000
set_option maxHeartbeats 2000000
namespace Go.Proofs.Ytdelhikejgoffaa
theorem RdB.fr (b e : Nat) (fr : Nat × Nat) (tl : List Value) (l : Bs) : RdB (some ⟨b, 0, none⟩) ⟨some b, .cells (List.toArray (bvs l ++ tl)) e fr⟩ l := fun _ => ⟨b, 0, _, _, fr, rfl, rfl, fun j v hj => by rw [Nat.zero_add, List.getElem?_append_left (List.getElem?_eq_some_iff.1 hj).1]; exact hj⟩
theorem WL_turn {X : Ctx} {ops : Array Oper} {p : Post} {l : List Oper} {E : Env} {H F B : Heap} {a : Ent} (hx : ∀ F : Heap, ∀ H0 w0 w, HW H0 w0 (a :: F) w → HW H0 w0 (B ++ F) w) (q : Pull a H F) (k : WL X ops p l E (B ++ F)) : WL X ops p l E H :=
  fun a w ha hw => k a w ha (hx _ _ _ _ (hw.perm q.perm))
theorem dec_pair {α β : Type} [DecidableEq α] [DecidableEq β] (q : α × β) (a : α) (b : β) : decide (q = (a, b)) = (decide (q.1 = a) && decide (q.2 = b)) := by
  obtain ⟨x, y⟩ := q
  by_cases h1 : x = a <;> by_cases h2 : y = b <;> simp [h1, h2]
theorem byt_mk (l : Bs) : byt ⟨l.toArray⟩ = l := by simp [byt]
def PC.ends (x : PC) (id code : Int) (b : Bs) : Bool := match x.res with
  | [] => false
  | r :: _ => decide (r.id = id) && (decide (r.code = code) && decide (r.body = b))
def PV.asks (x : PV) (id : Int) (dl : Nat) (b : Bs) : Bool := match x.qu with
  | [] => false
  | r :: _ => decide (r.id = id) && (decide (r.dl = dl) && decide (r.body = b))
theorem calls_ok {g : CG} {p : Nat} {v : PC} (hg : CGd g p v) (hb : PCB v) (s : ByteArray) (dl : Nat) (hdl : dl ≤ 18446744073709551615) (want no : Int) : Spec Try.prog 6 [ptrC p, .string s, .int .u64 (dl : Int), .int .i64 want, .int .i64 no] (cH g) (fun r H' => ∃ g', CGd g' p (v.call (byt s) dl).1 ∧ r = .bool (decide ((v.call (byt s) dl).2 = (want, no))) ∧ H' = cH g') := by
  rw [dec_pair]
  refine Spec.of (E := [(0, ptrC p), (1, .string s), (2, .int .u64 (dl : Int)), (3, .int .i64 want), (4, .int .i64 no)]) Try.func6 rfl (by kernel_rfl) Try.ntmps6 rfl rfl (fun w => ?_)
  refine WC_seq ?_
  refine WC_region ?_
  refine WL_val rfl rfl rfl (R_assign rfl rfl) ?_
  refine WL_nil ?_
  refine WQ_code ?_
  refine WC_seq ?_
  refine WC_region ?_
  refine WL_val rfl rfl rfl (R_move rfl rfl) ?_
  refine WL_val rfl rfl rfl (R_move rfl rfl) ?_
  refine WL_do rfl rfl rfl (D_strByte rfl Try.underlying9 Try.underlying23 Try.underlying5 rfl) ?_
  rintro _ _ ⟨bB, cB, tB, fB, rfl, rfl⟩
  refine WL_val rfl rfl rfl (R_move rfl rfl) ?_
  refine WL_do rfl rfl rfl (D_call (k_call hg hb (RdB.fr bB _ fB tB (byt s)) dl hdl) rfl rfl rfl rfl (pqD)) ?_
  rintro _ _ ⟨_, ⟨g', hg', rfl, rfl⟩, rfl⟩
  refine WL_val rfl rfl rfl (R_move rfl rfl) ?_
  refine WL_val rfl rfl rfl (R_extract rfl rfl rfl) ?_
  refine WL_val rfl rfl rfl (R_extract rfl rfl rfl) ?_
  refine WL_val rfl rfl rfl (R_assign rfl rfl) ?_
  refine WL_val rfl rfl rfl (R_assign rfl rfl) ?_
  refine WL_nil ?_
  refine WQ_code ?_
  refine WC_seq ?_
  refine WC_region ?_
  refine WL_val rfl rfl rfl (R_move rfl rfl) ?_
  refine WL_val rfl rfl rfl (R_move rfl rfl) ?_
  refine WL_val rfl rfl rfl (R_eql rfl rfl rfl) ?_
  refine WL_val rfl rfl rfl (R_move rfl rfl) ?_
  refine WL_splitD (s := 24) rfl (fun c1 => ?_) (fun c1 => ?_)
  · have hc := c1
    refine WL_val rfl rfl rfl (R_move rfl rfl) ?_
    refine WL_val rfl rfl rfl (R_move rfl rfl) ?_
    refine WL_val rfl rfl rfl (R_eql rfl rfl rfl) ?_
    refine WL_val rfl rfl rfl (R_pickT rfl rfl rfl) ?_
    refine WL_val rfl rfl rfl (R_assign rfl rfl) ?_
    refine WL_nil ?_
    refine WQ_code ?_
    refine WC_ret ?_
    refine WQ_ret rfl rfl (.cons (.tmp rfl) .nil) rfl (by
        exact ⟨g', hg', congrArg Value.bool (by simp [hc]), rfl⟩) (pqD)
  · have hc := c1
    refine WL_skip rfl rfl rfl ?_
    refine WL_skip rfl rfl rfl ?_
    refine WL_skip rfl rfl rfl ?_
    refine WL_val rfl rfl rfl (R_pickF rfl rfl rfl) ?_
    refine WL_val rfl rfl rfl (R_assign rfl rfl) ?_
    refine WL_nil ?_
    refine WQ_code ?_
    refine WC_ret ?_
    refine WQ_ret rfl rfl (.cons (.tmp rfl) .nil) rfl (by
        exact ⟨g', hg', congrArg Value.bool (by simp [hc]), rfl⟩) (pqD)
theorem up_ok {g : CG} {p : Nat} {v : PC} (hg : CGd g p v) (hb : PCB v) {g2 : SG} {p2 : Nat} {u : PV} (hg2 : SGd g2 p2 u) (hb2 : PVB u) : Spec Try.prog 7 [ptrC p, ptrC p2] (cH g ++ sH g2)
    (fun r H' => ∃ g' g2', CGd g' p { v with out := v.out.drop 65536 } ∧ SGd g2' p2 (u.recv (v.out.take 65536)).1 ∧ r = .bool (decide ((u.recv (v.out.take 65536)).2 = 0)) ∧ H' = cH g' ++ sH g2') := by
  refine Spec.of (E := [(0, ptrC p), (1, ptrC p2)]) Try.func7 rfl (by kernel_rfl) Try.ntmps7 rfl rfl (fun w => ?_)
  refine WC_seq ?_
  refine WC_region ?_
  refine WL_val rfl rfl rfl (R_assign rfl rfl) ?_
  refine WL_nil ?_
  refine WQ_code ?_
  refine WC_seq ?_
  refine WC_region ?_
  refine WL_val rfl rfl rfl (R_move rfl rfl) ?_
  refine WL_do rfl rfl rfl (D_call (k_out1 hg hb 65536 (by omega)) rfl rfl rfl rfl (pqD)) ?_
  rintro _ _ ⟨_, ⟨g', o9, c9, tl9, hg', own9, rfl, rfl⟩, rfl⟩
  refine WL_val rfl rfl rfl (R_move rfl rfl) ?_
  refine WL_val rfl rfl rfl (R_extract rfl rfl rfl) ?_
  refine WL_val rfl rfl rfl (R_extract rfl rfl rfl) ?_
  refine WL_val rfl rfl rfl (R_assign rfl rfl) ?_
  refine WL_val rfl rfl rfl (R_assign rfl rfl) ?_
  refine WL_nil ?_
  refine WQ_code ?_
  refine WC_seq ?_
  refine WC_region ?_
  refine WL_val rfl rfl rfl (R_move rfl rfl) ?_
  refine WL_val rfl rfl rfl (R_eql rfl rfl rfl) ?_
  refine WL_set (s := 13) (v := .bool true) rfl (by rfl) ?_
  refine WL_val rfl rfl rfl (R_move rfl rfl) ?_
  refine WL_val rfl rfl rfl (R_move rfl rfl) ?_
  refine WL_val rfl rfl rfl (R_move rfl rfl) ?_
  refine WL_do rfl rfl rfl (D_call (s_recv hg2 hb2 (RdB.own own9) (by simp; omega)) rfl rfl rfl rfl (pqD)) ?_
  rintro _ _ ⟨_, ⟨g2', hg2', rfl, rfl⟩, rfl⟩
  refine WL_val rfl rfl rfl (R_eql rfl rfl rfl) ?_
  refine WL_val rfl rfl rfl (R_pickT rfl rfl rfl) ?_
  refine WL_val rfl rfl rfl (R_assign rfl rfl) ?_
  refine WL_nil ?_
  refine WQ_code ?_
  refine WC_ret ?_
  refine WQ_ret rfl rfl (.cons (.tmp rfl) .nil) rfl (by
      exact ⟨g', g2', hg', hg2', rfl, rfl⟩) (pqD)
theorem down_ok {g : CG} {p : Nat} {v : PC} (hg : CGd g p v) (hb : PCB v) {g2 : SG} {p2 : Nat} {u : PV} (hg2 : SGd g2 p2 u) (hb2 : PVB u) : Spec Try.prog 11 [ptrC p2, ptrC p] (cH g ++ sH g2)
    (fun r H' => ∃ g' g2', SGd g2' p2 { u with out := u.out.drop 65536 } ∧ CGd g' p (v.recv (u.out.take 65536)).1 ∧ r = .bool (decide ((v.recv (u.out.take 65536)).2 = 0)) ∧ H' = cH g' ++ sH g2') := by
  refine Spec.of (E := [(0, ptrC p2), (1, ptrC p)]) Try.func11 rfl (by kernel_rfl) Try.ntmps11 rfl rfl (fun w => ?_)
  refine WC_seq ?_
  refine WC_region ?_
  refine WL_val rfl rfl rfl (R_assign rfl rfl) ?_
  refine WL_nil ?_
  refine WQ_code ?_
  refine WC_seq ?_
  refine WC_region ?_
  refine WL_val rfl rfl rfl (R_move rfl rfl) ?_
  refine WL_do rfl rfl rfl (D_call (s_out1 hg2 hb2 65536 (by omega)) rfl rfl rfl rfl (pqD)) ?_
  rintro _ _ ⟨_, ⟨g2', o9, c9, tl9, hg2', own9, rfl, rfl⟩, rfl⟩
  refine WL_val rfl rfl rfl (R_move rfl rfl) ?_
  refine WL_val rfl rfl rfl (R_extract rfl rfl rfl) ?_
  refine WL_val rfl rfl rfl (R_extract rfl rfl rfl) ?_
  refine WL_val rfl rfl rfl (R_assign rfl rfl) ?_
  refine WL_val rfl rfl rfl (R_assign rfl rfl) ?_
  refine WL_nil ?_
  refine WQ_code ?_
  refine WC_seq ?_
  refine WC_region ?_
  refine WL_val rfl rfl rfl (R_move rfl rfl) ?_
  refine WL_val rfl rfl rfl (R_eql rfl rfl rfl) ?_
  refine WL_set (s := 13) (v := .bool true) rfl (by rfl) ?_
  refine WL_val rfl rfl rfl (R_move rfl rfl) ?_
  refine WL_val rfl rfl rfl (R_move rfl rfl) ?_
  refine WL_val rfl rfl rfl (R_move rfl rfl) ?_
  refine WL_do rfl rfl rfl (D_call (k_recv hg hb (RdB.own own9) (by simp; omega)) rfl rfl rfl rfl (pqD)) ?_
  rintro _ _ ⟨_, ⟨g', hg', rfl, rfl⟩, rfl⟩
  refine WL_val rfl rfl rfl (R_eql rfl rfl rfl) ?_
  refine WL_val rfl rfl rfl (R_pickT rfl rfl rfl) ?_
  refine WL_val rfl rfl rfl (R_assign rfl rfl) ?_
  refine WL_nil ?_
  refine WQ_code ?_
  refine WC_ret ?_
  refine WQ_ret rfl rfl (.cons (.tmp rfl) .nil) rfl (by
      exact ⟨g', g2', hg2', hg', rfl, rfl⟩) (pqD)
theorem ends_ok {g : CG} {p : Nat} {v : PC} (hg : CGd g p v) (hb : PCB v) (id code : Int) (s : ByteArray) (hbody : ∀ r ∈ v.res, r.body.length ≤ 1000000) : Spec Try.prog 10 [ptrC p, .int .i64 id, .int .i64 code, .string s] (cH g) (fun r H' => ∃ g', CGd g' p v.next.1 ∧ r = .bool (v.ends id code (byt s)) ∧ H' = cH g') := by
  cases he : v.res with
  | nil =>
    rw [show v.next.1 = v from by unfold PC.next; rw [he], show v.ends id code (byt s) = false from by unfold PC.ends; rw [he]]
    refine Spec.of (E := [(0, ptrC p), (1, .int .i64 id), (2, .int .i64 code), (3, .string s)]) Try.func10 rfl (by kernel_rfl) Try.ntmps10 rfl rfl (fun w => ?_)
    refine WC_seq ?_
    refine WC_region ?_
    refine WL_val rfl rfl rfl (R_assign rfl rfl) ?_
    refine WL_nil ?_
    refine WQ_code ?_
    refine WC_seq ?_
    refine WC_region ?_
    refine WL_val rfl rfl rfl (R_move rfl rfl) ?_
    refine WL_do rfl rfl rfl (D_call (k_next0 hg hb he) rfl rfl rfl rfl (pqD)) ?_
    rintro _ _ ⟨_, ⟨g', hg', rfl, rfl⟩, rfl⟩
    refine WL_val rfl rfl rfl (R_move rfl rfl) ?_
    refine WL_val rfl rfl rfl (R_extract rfl rfl rfl) ?_
    refine WL_val rfl rfl rfl (R_extract rfl rfl rfl) ?_
    refine WL_do rfl rfl rfl (D_alloc rfl zv66) ?_
    rintro _ _ ⟨b1, rfl, rfl⟩
    refine WL_do0 rfl rfl (D_store (vs := [_, _, _]) rfl Try.sizeOf66 rfl rfl rfl rfl rfl (plD) (by exact Nat.le_of_ble_eq_true rfl)) ?_
    rintro _ _ rfl
    refine WL_val rfl rfl rfl (R_assign rfl rfl) ?_
    refine WL_nil ?_
    refine WQ_code ?_
    refine WC_seq ?_
    refine WC_region ?_
    refine WL_val rfl rfl rfl (R_move rfl rfl) ?_
    refine WL_val rfl rfl rfl (R_move rfl rfl) ?_
    refine WL_skip rfl rfl rfl ?_
    refine WL_skip rfl rfl rfl ?_
    refine WL_skip rfl rfl rfl ?_
    refine WL_skip rfl rfl rfl ?_
    refine WL_val rfl rfl rfl (R_pickF rfl rfl rfl) ?_
    refine WL_val rfl rfl rfl (R_move rfl rfl) ?_
    refine WL_skip rfl rfl rfl ?_
    refine WL_skip rfl rfl rfl ?_
    refine WL_skip rfl rfl rfl ?_
    refine WL_skip rfl rfl rfl ?_
    refine WL_val rfl rfl rfl (R_pickF rfl rfl rfl) ?_
    refine WL_val rfl rfl rfl (R_move rfl rfl) ?_
    refine WL_skip rfl rfl rfl ?_
    refine WL_skip rfl rfl rfl ?_
    refine WL_skip rfl rfl rfl ?_
    refine WL_skip rfl rfl rfl ?_
    refine WL_skip rfl rfl rfl ?_
    refine WL_val rfl rfl rfl (R_pickF rfl rfl rfl) ?_
    refine WL_val rfl rfl rfl (R_assign rfl rfl) ?_
    refine WL_nil ?_
    refine WQ_code ?_
    refine WC_ret ?_
    refine WQ_ret rfl rfl (.cons (.tmp rfl) .nil) rfl (by
        exact ⟨g', hg', rfl, rfl⟩) (pqD)
  | cons rr rest =>
    rw [show v.next.1 = { v with res := rest } from by unfold PC.next; rw [he], show v.ends id code (byt s) = (decide (rr.id = id) && (decide (rr.code = code) && decide (rr.body = byt s))) from by unfold PC.ends; rw [he]]
    refine Spec.of (E := [(0, ptrC p), (1, .int .i64 id), (2, .int .i64 code), (3, .string s)]) Try.func10 rfl (by kernel_rfl) Try.ntmps10 rfl rfl (fun w => ?_)
    refine WC_seq ?_
    refine WC_region ?_
    refine WL_val rfl rfl rfl (R_assign rfl rfl) ?_
    refine WL_nil ?_
    refine WQ_code ?_
    refine WC_seq ?_
    refine WC_region ?_
    refine WL_val rfl rfl rfl (R_move rfl rfl) ?_
    refine WL_do rfl rfl rfl (D_call (k_next1 hg hb he) rfl rfl rfl rfl (pqD)) ?_
    rintro _ _ ⟨_, ⟨g', o9, c9, tl9, hg', own9, rfl, rfl⟩, rfl⟩
    refine WL_val rfl rfl rfl (R_move rfl rfl) ?_
    refine WL_val rfl rfl rfl (R_extract rfl rfl rfl) ?_
    refine WL_val rfl rfl rfl (R_extract rfl rfl rfl) ?_
    refine WL_do rfl rfl rfl (D_alloc rfl zv66) ?_
    rintro _ _ ⟨b1, rfl, rfl⟩
    refine WL_do0 rfl rfl (D_store (vs := [_, _, _]) rfl Try.sizeOf66 rfl rfl rfl rfl rfl (plD) (by exact Nat.le_of_ble_eq_true rfl)) ?_
    rintro _ _ rfl
    refine WL_val rfl rfl rfl (R_assign rfl rfl) ?_
    refine WL_nil ?_
    refine WQ_code ?_
    refine WC_seq ?_
    refine WC_region ?_
    refine WL_val rfl rfl rfl (R_move rfl rfl) ?_
    refine WL_val rfl rfl rfl (R_move rfl rfl) ?_
    refine WL_val rfl rfl rfl (R_fieldAddr rfl fa66_0 rfl) ?_
    refine WL_val rfl rfl rfl (R_load rfl sc3 rfl (mmD) rfl) ?_
    refine WL_val rfl rfl rfl (R_move rfl rfl) ?_
    refine WL_val rfl rfl rfl (R_eql rfl rfl rfl) ?_
    refine WL_val rfl rfl rfl (R_pickT rfl rfl rfl) ?_
    refine WL_val rfl rfl rfl (R_move rfl rfl) ?_
    refine WL_splitD (s := 23) rfl (fun c1 => ?_) (fun c1 => ?_)
    · have hc1 := c1
      refine WL_val rfl rfl rfl (R_fieldAddr rfl fa66_1 rfl) ?_
      refine WL_val rfl rfl rfl (R_load rfl sc24 rfl (mmD) rfl) ?_
      refine WL_val rfl rfl rfl (R_move rfl rfl) ?_
      refine WL_val rfl rfl rfl (R_eql rfl rfl rfl) ?_
      refine WL_val rfl rfl rfl (R_pickT rfl rfl rfl) ?_
      refine WL_val rfl rfl rfl (R_move rfl rfl) ?_
      refine WL_splitD (s := 29) rfl (fun c2 => ?_) (fun c2 => ?_)
      · have hc2 := c2
        refine WL_val rfl rfl rfl (R_fieldAddr rfl fa66_2 rfl) ?_
        refine WL_val rfl rfl rfl (R_load rfl sc23 rfl (mmD) rfl) ?_
        refine WL_val rfl rfl rfl (R_byteStr rfl Try.underlying23 Try.underlying5 Try.underlying9 rfl (RdB.own own9) mmD) ?_
        refine WL_val rfl rfl rfl (R_move rfl rfl) ?_
        refine WL_val rfl rfl rfl (R_strEq rfl Try.underlying9 rfl rfl) ?_
        refine WL_val rfl rfl rfl (R_pickT rfl rfl rfl) ?_
        refine WL_val rfl rfl rfl (R_assign rfl rfl) ?_
        refine WL_nil ?_
        refine WQ_code ?_
        refine WC_ret ?_
        refine WQ_ret rfl rfl (.cons (.tmp rfl) .nil) rfl (by
            exact ⟨g', hg', congrArg Value.bool (by simp [byt_mk, *]), rfl⟩) (pqD)
      · have hc2 := c2
        refine WL_skip rfl rfl rfl ?_
        refine WL_skip rfl rfl rfl ?_
        refine WL_skip rfl rfl rfl ?_
        refine WL_skip rfl rfl rfl ?_
        refine WL_skip rfl rfl rfl ?_
        refine WL_val rfl rfl rfl (R_pickF rfl rfl rfl) ?_
        refine WL_val rfl rfl rfl (R_assign rfl rfl) ?_
        refine WL_nil ?_
        refine WQ_code ?_
        refine WC_ret ?_
        refine WQ_ret rfl rfl (.cons (.tmp rfl) .nil) rfl (by
            exact ⟨g', hg', congrArg Value.bool (by simp [*]), rfl⟩) (pqD)
    · have hc1 := c1
      refine WL_skip rfl rfl rfl ?_
      refine WL_skip rfl rfl rfl ?_
      refine WL_skip rfl rfl rfl ?_
      refine WL_skip rfl rfl rfl ?_
      refine WL_val rfl rfl rfl (R_pickF rfl rfl rfl) ?_
      refine WL_val rfl rfl rfl (R_move rfl rfl) ?_
      refine WL_skip rfl rfl rfl ?_
      refine WL_skip rfl rfl rfl ?_
      refine WL_skip rfl rfl rfl ?_
      refine WL_skip rfl rfl rfl ?_
      refine WL_skip rfl rfl rfl ?_
      refine WL_val rfl rfl rfl (R_pickF rfl rfl rfl) ?_
      refine WL_val rfl rfl rfl (R_assign rfl rfl) ?_
      refine WL_nil ?_
      refine WQ_code ?_
      refine WC_ret ?_
      refine WQ_ret rfl rfl (.cons (.tmp rfl) .nil) rfl (by
          exact ⟨g', hg', congrArg Value.bool (by simp [*]), rfl⟩) (pqD)
theorem asks_ok {g : SG} {p : Nat} {u : PV} (hg : SGd g p u) (hb : PVB u) (id : Int) (dl : Nat) (s : ByteArray) : Spec Try.prog 33 [ptrC p, .int .i64 id, .int .u64 (dl : Int), .string s] (sH g) (fun r H' => ∃ g', SGd g' p u.next.1 ∧ r = .bool (u.asks id dl (byt s)) ∧ H' = sH g') := by
  cases he : u.qu with
  | nil =>
    rw [show u.next.1 = u from by unfold PV.next; rw [he], show u.asks id dl (byt s) = false from by unfold PV.asks; rw [he]]
    refine Spec.of (E := [(0, ptrC p), (1, .int .i64 id), (2, .int .u64 (dl : Int)), (3, .string s)]) Try.func33 rfl (by kernel_rfl) Try.ntmps33 rfl rfl (fun w => ?_)
    refine WC_seq ?_
    refine WC_region ?_
    refine WL_val rfl rfl rfl (R_assign rfl rfl) ?_
    refine WL_nil ?_
    refine WQ_code ?_
    refine WC_seq ?_
    refine WC_region ?_
    refine WL_val rfl rfl rfl (R_move rfl rfl) ?_
    refine WL_do rfl rfl rfl (D_call (s_next0 hg hb he) rfl rfl rfl rfl (pqD)) ?_
    rintro _ _ ⟨_, ⟨g', hg', rfl, rfl⟩, rfl⟩
    refine WL_val rfl rfl rfl (R_move rfl rfl) ?_
    refine WL_val rfl rfl rfl (R_extract rfl rfl rfl) ?_
    refine WL_val rfl rfl rfl (R_extract rfl rfl rfl) ?_
    refine WL_do rfl rfl rfl (D_alloc rfl zv60) ?_
    rintro _ _ ⟨b1, rfl, rfl⟩
    refine WL_do0 rfl rfl (D_store (vs := [_, _, _]) rfl Try.sizeOf60 rfl rfl rfl rfl rfl (plD) (by exact Nat.le_of_ble_eq_true rfl)) ?_
    rintro _ _ rfl
    refine WL_val rfl rfl rfl (R_assign rfl rfl) ?_
    refine WL_nil ?_
    refine WQ_code ?_
    refine WC_seq ?_
    refine WC_region ?_
    refine WL_val rfl rfl rfl (R_move rfl rfl) ?_
    refine WL_val rfl rfl rfl (R_move rfl rfl) ?_
    refine WL_skip rfl rfl rfl ?_
    refine WL_skip rfl rfl rfl ?_
    refine WL_skip rfl rfl rfl ?_
    refine WL_skip rfl rfl rfl ?_
    refine WL_val rfl rfl rfl (R_pickF rfl rfl rfl) ?_
    refine WL_val rfl rfl rfl (R_move rfl rfl) ?_
    refine WL_skip rfl rfl rfl ?_
    refine WL_skip rfl rfl rfl ?_
    refine WL_skip rfl rfl rfl ?_
    refine WL_skip rfl rfl rfl ?_
    refine WL_val rfl rfl rfl (R_pickF rfl rfl rfl) ?_
    refine WL_val rfl rfl rfl (R_move rfl rfl) ?_
    refine WL_skip rfl rfl rfl ?_
    refine WL_skip rfl rfl rfl ?_
    refine WL_skip rfl rfl rfl ?_
    refine WL_skip rfl rfl rfl ?_
    refine WL_skip rfl rfl rfl ?_
    refine WL_val rfl rfl rfl (R_pickF rfl rfl rfl) ?_
    refine WL_val rfl rfl rfl (R_assign rfl rfl) ?_
    refine WL_nil ?_
    refine WQ_code ?_
    refine WC_ret ?_
    refine WQ_ret rfl rfl (.cons (.tmp rfl) .nil) rfl (by
        exact ⟨g', hg', rfl, rfl⟩) (pqD)
  | cons rr rest =>
    rw [show u.next.1 = { u with qu := rest } from by unfold PV.next; rw [he], show u.asks id dl (byt s) = (decide (rr.id = id) && (decide (rr.dl = dl) && decide (rr.body = byt s))) from by unfold PV.asks; rw [he]]
    refine Spec.of (E := [(0, ptrC p), (1, .int .i64 id), (2, .int .u64 (dl : Int)), (3, .string s)]) Try.func33 rfl (by kernel_rfl) Try.ntmps33 rfl rfl (fun w => ?_)
    refine WC_seq ?_
    refine WC_region ?_
    refine WL_val rfl rfl rfl (R_assign rfl rfl) ?_
    refine WL_nil ?_
    refine WQ_code ?_
    refine WC_seq ?_
    refine WC_region ?_
    refine WL_val rfl rfl rfl (R_move rfl rfl) ?_
    refine WL_do rfl rfl rfl (D_call (s_next1 hg hb he) rfl rfl rfl rfl (pqD)) ?_
    rintro _ _ ⟨_, ⟨g', o9, c9, tl9, hg', own9, rfl, rfl⟩, rfl⟩
    refine WL_val rfl rfl rfl (R_move rfl rfl) ?_
    refine WL_val rfl rfl rfl (R_extract rfl rfl rfl) ?_
    refine WL_val rfl rfl rfl (R_extract rfl rfl rfl) ?_
    refine WL_do rfl rfl rfl (D_alloc rfl zv60) ?_
    rintro _ _ ⟨b1, rfl, rfl⟩
    refine WL_do0 rfl rfl (D_store (vs := [_, _, _]) rfl Try.sizeOf60 rfl rfl rfl rfl rfl (plD) (by exact Nat.le_of_ble_eq_true rfl)) ?_
    rintro _ _ rfl
    refine WL_val rfl rfl rfl (R_assign rfl rfl) ?_
    refine WL_nil ?_
    refine WQ_code ?_
    refine WC_seq ?_
    refine WC_region ?_
    refine WL_val rfl rfl rfl (R_move rfl rfl) ?_
    refine WL_val rfl rfl rfl (R_move rfl rfl) ?_
    refine WL_val rfl rfl rfl (R_fieldAddr rfl fa60_0 rfl) ?_
    refine WL_val rfl rfl rfl (R_load rfl sc3 rfl (mmD) rfl) ?_
    refine WL_val rfl rfl rfl (R_move rfl rfl) ?_
    refine WL_val rfl rfl rfl (R_eql rfl rfl rfl) ?_
    refine WL_val rfl rfl rfl (R_pickT rfl rfl rfl) ?_
    refine WL_val rfl rfl rfl (R_move rfl rfl) ?_
    refine WL_splitD (s := 23) rfl (fun c1 => ?_) (fun c1 => ?_)
    · have hc1 := c1
      refine WL_val rfl rfl rfl (R_fieldAddr rfl fa60_1 rfl) ?_
      refine WL_val rfl rfl rfl (R_load rfl sc30 rfl (mmD) rfl) ?_
      refine WL_val rfl rfl rfl (R_move rfl rfl) ?_
      refine WL_val rfl rfl rfl (R_eql rfl rfl rfl) ?_
      refine WL_val rfl rfl rfl (R_pickT rfl rfl rfl) ?_
      refine WL_val rfl rfl rfl (R_move rfl rfl) ?_
      refine WL_splitD (s := 29) rfl (fun c2 => ?_) (fun c2 => ?_)
      · have hc2 : rr.dl = dl := by have := c2; omega
        refine WL_val rfl rfl rfl (R_fieldAddr rfl fa60_2 rfl) ?_
        refine WL_val rfl rfl rfl (R_load rfl sc23 rfl (mmD) rfl) ?_
        refine WL_val rfl rfl rfl (R_byteStr rfl Try.underlying23 Try.underlying5 Try.underlying9 rfl (RdB.own own9) mmD) ?_
        refine WL_val rfl rfl rfl (R_move rfl rfl) ?_
        refine WL_val rfl rfl rfl (R_strEq rfl Try.underlying9 rfl rfl) ?_
        refine WL_val rfl rfl rfl (R_pickT rfl rfl rfl) ?_
        refine WL_val rfl rfl rfl (R_assign rfl rfl) ?_
        refine WL_nil ?_
        refine WQ_code ?_
        refine WC_ret ?_
        refine WQ_ret rfl rfl (.cons (.tmp rfl) .nil) rfl (by
            exact ⟨g', hg', congrArg Value.bool (by simp [byt_mk, *]), rfl⟩) (pqD)
      · have hc2 : ¬ rr.dl = dl := by have := c2; omega
        refine WL_skip rfl rfl rfl ?_
        refine WL_skip rfl rfl rfl ?_
        refine WL_skip rfl rfl rfl ?_
        refine WL_skip rfl rfl rfl ?_
        refine WL_skip rfl rfl rfl ?_
        refine WL_val rfl rfl rfl (R_pickF rfl rfl rfl) ?_
        refine WL_val rfl rfl rfl (R_assign rfl rfl) ?_
        refine WL_nil ?_
        refine WQ_code ?_
        refine WC_ret ?_
        refine WQ_ret rfl rfl (.cons (.tmp rfl) .nil) rfl (by
            exact ⟨g', hg', congrArg Value.bool (by simp [*]), rfl⟩) (pqD)
    · have hc1 := c1
      refine WL_skip rfl rfl rfl ?_
      refine WL_skip rfl rfl rfl ?_
      refine WL_skip rfl rfl rfl ?_
      refine WL_skip rfl rfl rfl ?_
      refine WL_val rfl rfl rfl (R_pickF rfl rfl rfl) ?_
      refine WL_val rfl rfl rfl (R_move rfl rfl) ?_
      refine WL_skip rfl rfl rfl ?_
      refine WL_skip rfl rfl rfl ?_
      refine WL_skip rfl rfl rfl ?_
      refine WL_skip rfl rfl rfl ?_
      refine WL_skip rfl rfl rfl ?_
      refine WL_val rfl rfl rfl (R_pickF rfl rfl rfl) ?_
      refine WL_val rfl rfl rfl (R_assign rfl rfl) ?_
      refine WL_nil ?_
      refine WQ_code ?_
      refine WC_ret ?_
      refine WQ_ret rfl rfl (.cons (.tmp rfl) .nil) rfl (by
          exact ⟨g', hg', congrArg Value.bool (by simp [*]), rfl⟩) (pqD)
end Go.Proofs.Ytdelhikejgoffaa
end
section
set_option linter.unusedVariables false
set_option maxRecDepth 20000
set_option maxHeartbeats 2000000
namespace Go.Proofs.Ytdelhikejgoffaa
def pcbB (x : PC) : Bool := decide (x.out.length ≤ 200000) && (decide (x.bs.length ≤ 65536) && (decide (x.last ≤ 1000000) && (decide (x.calls.length ≤ 32) && (decide (x.calls.length + x.res.length ≤ 100000) && (decide (x.now ≤ 18446744073709551615) && (x.calls.all (fun c => decide (c.dl ≤ 18446744073709551615) && decide (c.id ≤ 1000000)) && (decide (x.br ≠ 0) || decide (x.rb = 0))))))))
theorem PCB.of {x : PC} (h : pcbB x = true) : PCB x := by
  simp only [pcbB, Bool.and_eq_true, decide_eq_true_eq, List.all_eq_true, Bool.or_eq_true] at h
  obtain ⟨h1, h2, h3, h4, h5, h6, h7, h8⟩ := h
  exact ⟨h1, h2, h3, h4, h5, h6, fun c hc => (h7 c hc).1, fun c hc => (h7 c hc).2, fun e => h8.resolve_left (fun n => n e)⟩
def pvbB (x : PV) : Bool := decide (x.out.length ≤ 200000) && (decide (x.bs.length ≤ 65536) && (decide (x.last < 4294967296) && (decide (x.opn.length ≤ 32) && (decide (x.qu.length ≤ 200000) && (x.opn.all (fun i => decide (0 ≤ i) && decide (i < 4294967296)) && (decide (x.br ≠ 0) || decide (x.rb = 0)))))))
theorem PVB.of {x : PV} (h : pvbB x = true) : PVB x := by
  simp only [pvbB, Bool.and_eq_true, decide_eq_true_eq, List.all_eq_true, Bool.or_eq_true] at h
  obtain ⟨h1, h2, h3, h4, h5, h6, h8⟩ := h
  exact ⟨h1, h2, h3, h4, h5, h6, fun e => h8.resolve_left (fun n => n e)⟩
theorem pc0b : PCB pc0 := PCB.of (by kernel_rfl)
theorem pv0b : PVB pv0 := PVB.of (by kernel_rfl)
theorem RdB.cst (b : Nat) (l : Bs) {fr : Nat × Nat} : RdB (some ⟨b, 0, none⟩) ⟨some b, .cells (List.toArray (bvs l)) 5 fr⟩ l := fun _ => ⟨b, 0, _, _, fr, rfl, rfl, fun j v hj => by rw [Nat.zero_add]; exact hj⟩
theorem kf1 : (pc0.call [97, 98] 10).2 = (1, 0) := by kernel_rfl
def kc1 : PC := (pc0.call [97, 98] 10).1
theorem kc1b : PCB kc1 := PCB.of (by kernel_rfl)
theorem kf2 : (kc1.call [] 5).2 = (2, 0) := by kernel_rfl
def kc2 : PC := (kc1.call [] 5).1
theorem kc2b : PCB kc2 := PCB.of (by kernel_rfl)
theorem kf3 : (kc2.call [120] 0).2 = (0, 2) := by kernel_rfl
def kc3 : PC := (kc2.call [120] 0).1
theorem kc3b : PCB kc3 := PCB.of (by kernel_rfl)
theorem kf4 : (pv0.recv (kc3.out.take 65536)).2 = 0 := by kernel_rfl
def ks1 : PV := (pv0.recv (kc3.out.take 65536)).1
theorem ks1b : PVB ks1 := PVB.of (by kernel_rfl)
def kc4 : PC := { kc3 with out := kc3.out.drop 65536 }
theorem kc4b : PCB kc4 := PCB.of (by kernel_rfl)
theorem kf5 : ks1.asks 1 10 [97, 98] = true := by kernel_rfl
def ks2 : PV := ks1.next.1
theorem ks2b : PVB ks2 := PVB.of (by kernel_rfl)
theorem kf6 : ks2.asks 2 5 [] = true := by kernel_rfl
def ks3 : PV := ks2.next.1
theorem ks3b : PVB ks3 := PVB.of (by kernel_rfl)
theorem kf7 : (ks3.reply 1 0 [121, 101, 115]).2 = 0 := by kernel_rfl
def ks4 : PV := (ks3.reply 1 0 [121, 101, 115]).1
theorem ks4b : PVB ks4 := PVB.of (by kernel_rfl)
theorem kf8 : (kc4.recv (ks4.out.take 65536)).2 = 0 := by kernel_rfl
def kc5 : PC := (kc4.recv (ks4.out.take 65536)).1
theorem kc5b : PCB kc5 := PCB.of (by kernel_rfl)
def ks5 : PV := { ks4 with out := ks4.out.drop 65536 }
theorem ks5b : PVB ks5 := PVB.of (by kernel_rfl)
theorem kf9 : kc5.ends 1 0 [121, 101, 115] = true := by kernel_rfl
theorem kf10 : kc5.res.all (fun r => decide (r.body.length ≤ 1000000)) = true := by kernel_rfl
def kc6 : PC := kc5.next.1
theorem kc6b : PCB kc6 := PCB.of (by kernel_rfl)
theorem kf11 : (ks5.reply 1 0 [110, 111]).2 = 9 := by kernel_rfl
def ks6 : PV := (ks5.reply 1 0 [110, 111]).1
theorem ks6b : PVB ks6 := PVB.of (by kernel_rfl)
theorem kf12 : (kc6.advance 5).2 = 0 := by kernel_rfl
def kc7 : PC := (kc6.advance 5).1
theorem kc7b : PCB kc7 := PCB.of (by kernel_rfl)
theorem kf13 : kc7.ends 2 12 [] = true := by kernel_rfl
theorem kf14 : kc7.res.all (fun r => decide (r.body.length ≤ 1000000)) = true := by kernel_rfl
def kc8 : PC := kc7.next.1
theorem kc8b : PCB kc8 := PCB.of (by kernel_rfl)
theorem kf15 : (ks6.recv (kc8.out.take 65536)).2 = 0 := by kernel_rfl
def ks7 : PV := (ks6.recv (kc8.out.take 65536)).1
theorem ks7b : PVB ks7 := PVB.of (by kernel_rfl)
def kc9 : PC := { kc8 with out := kc8.out.drop 65536 }
theorem kc9b : PCB kc9 := PCB.of (by kernel_rfl)
theorem kf16 : ks7.opn = [] := by kernel_rfl
theorem kf17 : (ks7.reply 2 0 []).2 = 9 := by kernel_rfl
def ks8 : PV := (ks7.reply 2 0 []).1
theorem ks8b : PVB ks8 := PVB.of (by kernel_rfl)
theorem kf18 : (kc9.call [122] 9).2 = (3, 0) := by kernel_rfl
def kc10 : PC := (kc9.call [122] 9).1
theorem kc10b : PCB kc10 := PCB.of (by kernel_rfl)
theorem kf19 : (ks8.recv (kc10.out.take 65536)).2 = 0 := by kernel_rfl
def ks9 : PV := (ks8.recv (kc10.out.take 65536)).1
theorem ks9b : PVB ks9 := PVB.of (by kernel_rfl)
def kc11 : PC := { kc10 with out := kc10.out.drop 65536 }
theorem kc11b : PCB kc11 := PCB.of (by kernel_rfl)
theorem kf20 : (kc11.cancel 3).2 = 0 := by kernel_rfl
def kc12 : PC := (kc11.cancel 3).1
theorem kc12b : PCB kc12 := PCB.of (by kernel_rfl)
theorem kf21 : (ks9.recv (kc12.out.take 65536)).2 = 0 := by kernel_rfl
def ks10 : PV := (ks9.recv (kc12.out.take 65536)).1
theorem ks10b : PVB ks10 := PVB.of (by kernel_rfl)
def kc13 : PC := { kc12 with out := kc12.out.drop 65536 }
theorem kc13b : PCB kc13 := PCB.of (by kernel_rfl)
theorem kf22 : (kc13.cancel 3).2 = 9 := by kernel_rfl
def kc14 : PC := (kc13.cancel 3).1
theorem kc14b : PCB kc14 := PCB.of (by kernel_rfl)
theorem kf23 : kc14.ends 3 14 [] = true := by kernel_rfl
theorem kf24 : kc14.res.all (fun r => decide (r.body.length ≤ 1000000)) = true := by kernel_rfl
def kc15 : PC := kc14.next.1
theorem kf25 : ks10.qu = [] := by kernel_rfl
end Go.Proofs.Ytdelhikejgoffaa
end
section
set_option linter.unusedVariables false
set_option maxRecDepth 20000
set_option maxHeartbeats 4000000
namespace Go.Proofs.Ytdelhikejgoffaa
def fc : Nat → PC
  | 0 => pc0
  | n + 1 => ((fc n).call [] 9).1
def fcE : PC := fc 32
theorem fc_facts : (List.range 33).all (fun n => pcbB (fc n)) = true := by kernel_rfl
theorem fc_calls : (List.range 32).all (fun n => decide (((fc n).call [] 9).2 = (((n + 1 : Nat) : Int), 0))) = true := by kernel_rfl
theorem allR {n i : Nat} {p : Nat → Bool} (h : (List.range n).all p = true) (hi : i < n) : p i = true := List.all_eq_true.1 h i (List.mem_range.2 hi)
theorem fcb {n : Nat} (h : n ≤ 32) : PCB (fc n) := PCB.of (allR fc_facts (show n < 33 by omega))
theorem fcc {n : Nat} (h : n < 32) : ((fc n).call [] 9).2 = (((n + 1 : Nat) : Int), 0) := of_decide_eq_true (allR fc_calls h)
theorem fcEb : PCB fcE := fcb (Nat.le_refl _)
theorem ff1 : (fcE.call [] 9).2 = (0, 7) := by kernel_rfl
def fc1 : PC := (fcE.call [] 9).1
theorem fc1b : PCB fc1 := PCB.of (by kernel_rfl)
theorem ff2 : (pv0.recv (fc1.out.take 65536)).2 = 0 := by kernel_rfl
def fs1 : PV := (pv0.recv (fc1.out.take 65536)).1
theorem fs1b : PVB fs1 := PVB.of (by kernel_rfl)
def fc2 : PC := { fc1 with out := fc1.out.drop 65536 }
theorem ff3 : fs1.opn.length = 32 := by kernel_rfl
def gcF : Nat → PC
  | 0 => fc2
  | j + 1 => ((gcF j).cancel ((j + 1 : Nat) : Int)).1.next.1
def hcF (k : Nat) : Nat → PC
  | 0 => gcF k
  | j + 1 => ((hcF k j).call [] 9).1
def upS (k : Nat) : PV := (fs1.recv ((hcF k k).out.take 65536)).1
def upC (k : Nat) : PC := { hcF k k with out := (hcF k k).out.drop 65536 }
def dnS (k : Nat) : PV := { upS k with out := (upS k).out.drop 65536 }
def dnC (k : Nat) : PC := ((upC k).recv ((upS k).out.take 65536)).1
theorem gc_facts : (List.range 4).all (fun j => pcbB (gcF j) && pcbB ((gcF j).cancel ((j + 1 : Nat) : Int)).1 && ((gcF j).cancel ((j + 1 : Nat) : Int)).1.res.all (fun r => decide (r.body.length ≤ 1000000))) = true := by kernel_rfl
theorem gc_can : (List.range 3).all (fun j => decide (((gcF j).cancel ((j + 1 : Nat) : Int)).2 = 0) && ((gcF j).cancel ((j + 1 : Nat) : Int)).1.ends ((j + 1 : Nat) : Int) 14 []) = true := by kernel_rfl
theorem hc_facts : (List.range 4).all (fun k => (List.range 4).all (fun j => pcbB (hcF k j)) && (List.range k).all (fun j => decide (((hcF k j).call [] 9).2 = (((32 + (j + 1) : Nat) : Int), 0)))) = true := by kernel_rfl
theorem up_facts : (List.range 4).all (fun k => decide ((fs1.recv ((hcF k k).out.take 65536)).2 = 0) && (decide ((upS k).opn.length = 32) && (decide (((upC k).recv ((upS k).out.take 65536)).2 = 0) && (pvbB (upS k) && (pcbB (upC k) && (pvbB (dnS k) && pcbB (dnC k))))))) = true := by kernel_rfl
def ou : Nat → PC × PV
  | 0 => (pc0, pv0)
  | n + 1 => if n = 32 then ((({ ((ou n).1.cancel 1).1 with out := ((ou n).1.cancel 1).1.out.drop 65536 } : PC).call [] 9).1, (ou n).2)
    else ({ ((ou n).1.call [] 9).1 with out := ((ou n).1.call [] 9).1.out.drop 65536 }, ((ou n).2.recv (((ou n).1.call [] 9).1.out.take 65536)).1)
theorem ou_facts : (List.range 34).all (fun n => pcbB (ou n).1 && pvbB (ou n).2) = true := by kernel_rfl
theorem ou_calls : (List.range 32).all (fun n => decide (((ou n).1.call [] 9).2 = (((n + 1 : Nat) : Int), 0)) && (decide (((ou n).2.recv (((ou n).1.call [] 9).1.out.take 65536)).2 = 0) && pcbB ((ou n).1.call [] 9).1)) = true := by kernel_rfl
def oc1 : PC := (ou 32).1
def oc2 : PC := (oc1.cancel 1).1
def oc3 : PC := { oc2 with out := oc2.out.drop 65536 }
def oc4 : PC := (oc3.call [] 9).1
theorem oc1f : (oc1.cancel 1).2 = 0 := by kernel_rfl
theorem oc3f : (oc3.call [] 9).2 = (33, 0) := by kernel_rfl
theorem oc1b : PCB oc1 := PCB.of (by kernel_rfl)
theorem oc2b : PCB oc2 := PCB.of (by kernel_rfl)
theorem oc3b : PCB oc3 := PCB.of (by kernel_rfl)
theorem oub {n : Nat} (h : n ≤ 33) : PCB (ou n).1 ∧ PVB (ou n).2 := by
  have h9 := allR ou_facts (show n < 34 by omega)
  simp only [Bool.and_eq_true] at h9
  exact ⟨PCB.of h9.1, PVB.of h9.2⟩
theorem ouc {n : Nat} (h : n < 32) : ((ou n).1.call [] 9).2 = (((n + 1 : Nat) : Int), 0) ∧ ((ou n).2.recv (((ou n).1.call [] 9).1.out.take 65536)).2 = 0 ∧ PCB ((ou n).1.call [] 9).1 := by
  have h9 := allR ou_calls h
  simp only [Bool.and_eq_true, decide_eq_true_eq] at h9
  exact ⟨h9.1, h9.2.1, PCB.of h9.2.2⟩
theorem ou_next {n : Nat} (h : n < 32) : ou (n + 1) = ({ ((ou n).1.call [] 9).1 with out := ((ou n).1.call [] 9).1.out.drop 65536 }, ((ou n).2.recv (((ou n).1.call [] 9).1.out.take 65536)).1) := by
  show (if n = 32 then _ else _) = _
  rw [if_neg (by omega)]
theorem ou_last : ou 33 = (oc4, (ou 32).2) := by
  show (if 32 = 32 then _ else _) = _
  rw [if_pos rfl]; rfl
def ocE : PC := (ou 33).1
def osE : PV := (ou 33).2
theorem ocEb : PCB ocE := (oub (Nat.le_refl _)).1
theorem osEb : PVB osE := (oub (Nat.le_refl _)).2
theorem gcc {j : Nat} (h : j < 3) : ((gcF j).cancel ((j + 1 : Nat) : Int)).2 = 0 ∧ ((gcF j).cancel ((j + 1 : Nat) : Int)).1.ends ((j + 1 : Nat) : Int) 14 [] = true := by
  have h9 := allR gc_can h
  simp only [Bool.and_eq_true, decide_eq_true_eq] at h9
  exact h9
theorem gcb {j : Nat} (h : j < 4) : PCB (gcF j) ∧ PCB ((gcF j).cancel ((j + 1 : Nat) : Int)).1 ∧ ∀ r ∈ ((gcF j).cancel ((j + 1 : Nat) : Int)).1.res, r.body.length ≤ 1000000 := by
  have h9 := allR gc_facts h
  simp only [Bool.and_eq_true] at h9
  exact ⟨PCB.of h9.1.1, PCB.of h9.1.2, fun r hr => of_decide_eq_true (List.all_eq_true.1 h9.2 r hr)⟩
theorem hcc {k : Nat} (hk : k < 4) : (∀ j, j < 4 → PCB (hcF k j)) ∧ ∀ j, j < k → ((hcF k j).call [] 9).2 = (((32 + (j + 1) : Nat) : Int), 0) := by
  have h9 := allR hc_facts hk
  simp only [Bool.and_eq_true] at h9
  exact ⟨fun j hj => PCB.of (allR h9.1 hj), fun j hj => of_decide_eq_true (allR h9.2 hj)⟩
theorem upc {k : Nat} (hk : k < 4) : (fs1.recv ((hcF k k).out.take 65536)).2 = 0 ∧ (upS k).opn.length = 32 ∧ ((upC k).recv ((upS k).out.take 65536)).2 = 0 ∧ PVB (upS k) ∧ PCB (upC k) ∧ PVB (dnS k) ∧ PCB (dnC k) := by
  have h9 := allR up_facts hk
  simp only [Bool.and_eq_true, decide_eq_true_eq] at h9
  obtain ⟨h1, h2, h3, h4, h5, h6, h7⟩ := h9
  exact ⟨h1, h2, h3, PVB.of h4, PCB.of h5, PVB.of h6, PCB.of h7⟩
theorem zqf1 : (osE.recv (ocE.out.take 65536)).2 = 0 := by kernel_rfl
def zqs1 : PV := (osE.recv (ocE.out.take 65536)).1
theorem zqs1b : PVB zqs1 := PVB.of (by kernel_rfl)
def zqc1 : PC := { ocE with out := ocE.out.drop 65536 }
theorem zqc1b : PCB zqc1 := PCB.of (by kernel_rfl)
theorem zqf2 : zqs1.opn.length = 32 := by kernel_rfl
theorem zqf3 : (zqc1.recv (zqs1.out.take 65536)).2 = 0 := by kernel_rfl
def zqc2 : PC := (zqc1.recv (zqs1.out.take 65536)).1
theorem zqc2b : PCB zqc2 := PCB.of (by kernel_rfl)
def zqs2 : PV := { zqs1 with out := zqs1.out.drop 65536 }
theorem zqf4 : zqc2.ends 1 14 [] = true := by kernel_rfl
theorem zqf5 : zqc2.res.all (fun r => decide (r.body.length ≤ 1000000)) = true := by kernel_rfl
def zqc3 : PC := zqc2.next.1
theorem zqc3b : PCB zqc3 := PCB.of (by kernel_rfl)
theorem zqf6 : zqc3.ends 33 7 [] = true := by kernel_rfl
theorem zqf7 : zqc3.res.all (fun r => decide (r.body.length ≤ 1000000)) = true := by kernel_rfl
def zqc4 : PC := zqc3.next.1
structure FlW where
  n : Nat
  g : CG
structure FmW where
  n : Nat
  g : CG
  h : SG
end Go.Proofs.Ytdelhikejgoffaa
end
section
set_option linter.unusedVariables false
set_option maxRecDepth 20000
set_option maxHeartbeats 4000000
namespace Go.Proofs.Ytdelhikejgoffaa
theorem known_ok : Spec Try.prog 13 [] [] (fun r H' => r = .bool true ∧ H' = []) := by
  refine Spec.of (E := []) Try.func13 rfl (by kernel_rfl) Try.ntmps13 rfl rfl (fun w => ?_)
  refine WC_seq ?_
  refine WC_region ?_
  refine WL_val rfl rfl rfl (R_assign rfl rfl) ?_
  refine WL_nil ?_
  refine WQ_code ?_
  refine WC_seq ?_
  refine WC_region ?_
  refine WL_val rfl rfl rfl (R_build rfl zv34 pl34 rfl rfl) ?_
  refine WL_do rfl rfl rfl (D_box (cs := [_, _, _, _, _, _, _, _, _]) rfl rfl rfl) ?_
  rintro _ _ ⟨b1, rfl, rfl⟩
  obtain ⟨gpc0, hpc0, hx1⟩ := c_new b1
  refine WL_turn hx1 plD ?_
  refine WL_val rfl rfl rfl (R_build rfl zv39 pl39 rfl rfl) ?_
  refine WL_do rfl rfl rfl (D_box (cs := [_, _, _, _, _, _, _]) rfl rfl rfl) ?_
  rintro _ _ ⟨b2, rfl, rfl⟩
  obtain ⟨gpv0, hpv0, hx2⟩ := s_new b2
  refine WL_turn hx2 plD ?_
  refine WL_val rfl rfl rfl (R_assign rfl rfl) ?_
  refine WL_val rfl rfl rfl (R_assign rfl rfl) ?_
  refine WL_nil ?_
  refine WQ_code ?_
  refine WC_seq ?_
  refine WC_seq ?_
  refine WC_region ?_
  refine WL_val rfl rfl rfl (R_move rfl rfl) ?_
  refine WL_do rfl rfl rfl (D_call (calls_ok hpc0 pc0b _ 10 (by omega) 1 0) rfl rfl rfl rfl (pqD)) ?_
  rintro _ _ ⟨_, ⟨gkc1, hkc1, rfl, rfl⟩, rfl⟩
  refine WL_set (s := 10) (v := .bool true) rfl (by exact congrArg Value.bool (decide_eq_true kf1)) ?_
  have hkc1 : CGd gkc1 b1 kc1 := hkc1
  refine WL_val rfl rfl rfl (R_not rfl rfl) ?_
  refine WL_val rfl rfl rfl (R_move rfl rfl) ?_
  refine WL_val rfl rfl rfl (R_move rfl rfl) ?_
  refine WL_do rfl rfl rfl (D_call (calls_ok hkc1 kc1b _ 5 (by omega) 2 0) rfl rfl rfl rfl (pqD)) ?_
  rintro _ _ ⟨_, ⟨gkc2, hkc2, rfl, rfl⟩, rfl⟩
  refine WL_set (s := 14) (v := .bool true) rfl (by exact congrArg Value.bool (decide_eq_true kf2)) ?_
  have hkc2 : CGd gkc2 b1 kc2 := hkc2
  refine WL_val rfl rfl rfl (R_not rfl rfl) ?_
  refine WL_val rfl rfl rfl (R_pickF rfl rfl rfl) ?_
  refine WL_val rfl rfl rfl (R_move rfl rfl) ?_
  refine WL_val rfl rfl rfl (R_move rfl rfl) ?_
  refine WL_do rfl rfl rfl (D_call (calls_ok hkc2 kc2b _ 0 (by omega) 0 2) rfl rfl rfl rfl (pqD)) ?_
  rintro _ _ ⟨_, ⟨gkc3, hkc3, rfl, rfl⟩, rfl⟩
  refine WL_set (s := 19) (v := .bool true) rfl (by exact congrArg Value.bool (decide_eq_true kf3)) ?_
  have hkc3 : CGd gkc3 b1 kc3 := hkc3
  refine WL_val rfl rfl rfl (R_not rfl rfl) ?_
  refine WL_val rfl rfl rfl (R_pickF rfl rfl rfl) ?_
  refine WL_val rfl rfl rfl (R_move rfl rfl) ?_
  refine WL_val rfl rfl rfl (R_move rfl rfl) ?_
  refine WL_val rfl rfl rfl (R_move rfl rfl) ?_
  refine WL_do rfl rfl rfl (D_call (up_ok hkc3 kc3b hpv0 pv0b) rfl rfl rfl rfl (pqD)) ?_
  rintro _ _ ⟨_, ⟨gkc4, gks1, hkc4, hks1, rfl, rfl⟩, rfl⟩
  refine WL_set (s := 25) (v := .bool true) rfl (by exact congrArg Value.bool (decide_eq_true kf4)) ?_
  have hkc4 : CGd gkc4 b1 kc4 := hkc4
  have hks1 : SGd gks1 b2 ks1 := hks1
  refine WL_val rfl rfl rfl (R_not rfl rfl) ?_
  refine WL_val rfl rfl rfl (R_pickF rfl rfl rfl) ?_
  refine WL_val rfl rfl rfl (R_move rfl rfl) ?_
  refine WL_val rfl rfl rfl (R_move rfl rfl) ?_
  refine WL_do rfl rfl rfl (D_call (asks_ok hks1 ks1b 1 10 _) rfl rfl rfl rfl (pqD)) ?_
  rintro _ _ ⟨_, ⟨gks2, hks2, rfl, rfl⟩, rfl⟩
  refine WL_set (s := 30) (v := .bool true) rfl (by exact congrArg Value.bool kf5) ?_
  have hks2 : SGd gks2 b2 ks2 := hks2
  refine WL_val rfl rfl rfl (R_not rfl rfl) ?_
  refine WL_val rfl rfl rfl (R_pickF rfl rfl rfl) ?_
  refine WL_val rfl rfl rfl (R_move rfl rfl) ?_
  refine WL_val rfl rfl rfl (R_move rfl rfl) ?_
  refine WL_do rfl rfl rfl (D_call (asks_ok hks2 ks2b 2 5 _) rfl rfl rfl rfl (pqD)) ?_
  rintro _ _ ⟨_, ⟨gks3, hks3, rfl, rfl⟩, rfl⟩
  refine WL_set (s := 35) (v := .bool true) rfl (by exact congrArg Value.bool kf6) ?_
  have hks3 : SGd gks3 b2 ks3 := hks3
  refine WL_val rfl rfl rfl (R_not rfl rfl) ?_
  refine WL_val rfl rfl rfl (R_pickF rfl rfl rfl) ?_
  refine WL_nil ?_
  refine WQ_code ?_
  refine WC_F rfl ?_
  refine WC_skip ?_
  refine WQ_code ?_
  refine WC_seq ?_
  refine WC_seq ?_
  refine WC_region ?_
  refine WL_val rfl rfl rfl (R_move rfl rfl) ?_
  refine WL_do rfl rfl rfl (D_buildSlice rfl si23 rfl rfl rfl) ?_
  rintro _ _ ⟨b3, rfl, rfl⟩
  refine WL_do rfl rfl rfl (D_bytesConst rfl Try.underlying23 Try.underlying5 rfl plD) ?_
  rintro _ _ ⟨frb3, rfl, rfl⟩
  refine WL_do rfl rfl rfl (D_call (s_reply hks3 ks3b 1 0 (body := [121, 101, 115]) (RdB.cst b3 [121, 101, 115]) (by decide)) rfl rfl rfl rfl (pqD)) ?_
  rintro _ _ ⟨_, ⟨gks4, hks4, rfl, rfl⟩, rfl⟩
  have hks4 : SGd gks4 b2 ks4 := hks4
  refine WL_val rfl rfl rfl (R_neq rfl rfl rfl) ?_
  refine WL_set (s := 42) (v := .bool false) rfl (by exact congrArg Value.bool (decide_eq_false (fun e => e kf7))) ?_
  refine WL_val rfl rfl rfl (R_move rfl rfl) ?_
  refine WL_val rfl rfl rfl (R_move rfl rfl) ?_
  refine WL_val rfl rfl rfl (R_move rfl rfl) ?_
  refine WL_do rfl rfl rfl (D_call (down_ok hkc4 kc4b hks4 ks4b) rfl rfl rfl rfl (pqD)) ?_
  rintro _ _ ⟨_, ⟨gkc5, gks5, hks5, hkc5, rfl, rfl⟩, rfl⟩
  refine WL_set (s := 46) (v := .bool true) rfl (by exact congrArg Value.bool (decide_eq_true kf8)) ?_
  have hkc5 : CGd gkc5 b1 kc5 := hkc5
  have hks5 : SGd gks5 b2 ks5 := hks5
  refine WL_val rfl rfl rfl (R_not rfl rfl) ?_
  refine WL_val rfl rfl rfl (R_pickF rfl rfl rfl) ?_
  refine WL_val rfl rfl rfl (R_move rfl rfl) ?_
  refine WL_val rfl rfl rfl (R_move rfl rfl) ?_
  refine WL_do rfl rfl rfl (D_call (ends_ok hkc5 kc5b 1 0 _ (fun r hr => of_decide_eq_true (List.all_eq_true.1 kf10 r hr))) rfl rfl rfl rfl (pqD)) ?_
  rintro _ _ ⟨_, ⟨gkc6, hkc6, rfl, rfl⟩, rfl⟩
  refine WL_set (s := 51) (v := .bool true) rfl (by exact congrArg Value.bool kf9) ?_
  have hkc6 : CGd gkc6 b1 kc6 := hkc6
  refine WL_val rfl rfl rfl (R_not rfl rfl) ?_
  refine WL_val rfl rfl rfl (R_pickF rfl rfl rfl) ?_
  refine WL_val rfl rfl rfl (R_move rfl rfl) ?_
  refine WL_val rfl rfl rfl (R_move rfl rfl) ?_
  refine WL_do rfl rfl rfl (D_buildSlice rfl si23 rfl rfl rfl) ?_
  rintro _ _ ⟨b4, rfl, rfl⟩
  refine WL_do rfl rfl rfl (D_bytesConst rfl Try.underlying23 Try.underlying5 rfl plD) ?_
  rintro _ _ ⟨frb4, rfl, rfl⟩
  refine WL_do rfl rfl rfl (D_call (s_reply hks5 ks5b 1 0 (body := [110, 111]) (RdB.cst b4 [110, 111]) (by decide)) rfl rfl rfl rfl (pqD)) ?_
  rintro _ _ ⟨_, ⟨gks6, hks6, rfl, rfl⟩, rfl⟩
  have hks6 : SGd gks6 b2 ks6 := hks6
  refine WL_val rfl rfl rfl (R_neq rfl rfl rfl) ?_
  refine WL_set (s := 59) (v := .bool false) rfl (by exact congrArg Value.bool (decide_eq_false (fun e => e kf11))) ?_
  refine WL_val rfl rfl rfl (R_pickF rfl rfl rfl) ?_
  refine WL_nil ?_
  refine WQ_code ?_
  refine WC_F rfl ?_
  refine WC_skip ?_
  refine WQ_code ?_
  refine WC_seq ?_
  refine WC_seq ?_
  refine WC_region ?_
  refine WL_val rfl rfl rfl (R_move rfl rfl) ?_
  refine WL_do rfl rfl rfl (D_call (k_adv hkc6 kc6b 5) rfl rfl rfl rfl (pqD)) ?_
  rintro _ _ ⟨_, ⟨gkc7, hkc7, rfl, rfl⟩, rfl⟩
  have hkc7 : CGd gkc7 b1 kc7 := hkc7
  refine WL_val rfl rfl rfl (R_neq rfl rfl rfl) ?_
  refine WL_set (s := 63) (v := .bool false) rfl (by exact congrArg Value.bool (decide_eq_false (fun e => e kf12))) ?_
  refine WL_val rfl rfl rfl (R_move rfl rfl) ?_
  refine WL_val rfl rfl rfl (R_move rfl rfl) ?_
  refine WL_do rfl rfl rfl (D_call (ends_ok hkc7 kc7b 2 12 _ (fun r hr => of_decide_eq_true (List.all_eq_true.1 kf14 r hr))) rfl rfl rfl rfl (pqD)) ?_
  rintro _ _ ⟨_, ⟨gkc8, hkc8, rfl, rfl⟩, rfl⟩
  refine WL_set (s := 66) (v := .bool true) rfl (by exact congrArg Value.bool kf13) ?_
  have hkc8 : CGd gkc8 b1 kc8 := hkc8
  refine WL_val rfl rfl rfl (R_not rfl rfl) ?_
  refine WL_val rfl rfl rfl (R_pickF rfl rfl rfl) ?_
  refine WL_val rfl rfl rfl (R_move rfl rfl) ?_
  refine WL_val rfl rfl rfl (R_move rfl rfl) ?_
  refine WL_val rfl rfl rfl (R_move rfl rfl) ?_
  refine WL_do rfl rfl rfl (D_call (up_ok hkc8 kc8b hks6 ks6b) rfl rfl rfl rfl (pqD)) ?_
  rintro _ _ ⟨_, ⟨gkc9, gks7, hkc9, hks7, rfl, rfl⟩, rfl⟩
  refine WL_set (s := 72) (v := .bool true) rfl (by exact congrArg Value.bool (decide_eq_true kf15)) ?_
  have hkc9 : CGd gkc9 b1 kc9 := hkc9
  have hks7 : SGd gks7 b2 ks7 := hks7
  refine WL_val rfl rfl rfl (R_not rfl rfl) ?_
  refine WL_val rfl rfl rfl (R_pickF rfl rfl rfl) ?_
  refine WL_val rfl rfl rfl (R_move rfl rfl) ?_
  refine WL_val rfl rfl rfl (R_move rfl rfl) ?_
  refine WL_do rfl rfl rfl (D_call (s_open hks7 ks7b) rfl rfl rfl rfl (pqD)) ?_
  rintro _ _ ⟨_, ⟨oq, cq, tq, rfl, ownq, rfl⟩, rfl⟩
  refine WL_val rfl rfl rfl (R_len rfl Try.underlying36 rfl) ?_
  refine WL_val rfl rfl rfl (R_neq rfl rfl rfl) ?_
  refine WL_set (s := 79) (v := .bool false) rfl (by exact congrArg Value.bool (decide_eq_false (fun e => e (by rw [kf16]; rfl)))) ?_
  refine WL_val rfl rfl rfl (R_pickF rfl rfl rfl) ?_
  refine WL_val rfl rfl rfl (R_move rfl rfl) ?_
  refine WL_val rfl rfl rfl (R_move rfl rfl) ?_
  refine WL_none 5 ?_
  refine WL_do rfl rfl rfl (D_call (s_reply hks7 ks7b 2 0 (body := []) (RdB.nil none ⟨none, cl [] 5⟩) (by decide)) rfl rfl rfl rfl (pqD)) ?_
  rintro _ _ ⟨_, ⟨gks8, hks8, rfl, rfl⟩, rfl⟩
  have hks8 : SGd gks8 b2 ks8 := hks8
  refine WL_val rfl rfl rfl (R_neq rfl rfl rfl) ?_
  refine WL_set (s := 84) (v := .bool false) rfl (by exact congrArg Value.bool (decide_eq_false (fun e => e kf17))) ?_
  refine WL_val rfl rfl rfl (R_pickF rfl rfl rfl) ?_
  refine WL_nil ?_
  refine WQ_code ?_
  refine WC_F rfl ?_
  refine WC_skip ?_
  refine WQ_code ?_
  refine WC_seq ?_
  refine WC_seq ?_
  refine WC_region ?_
  refine WL_val rfl rfl rfl (R_move rfl rfl) ?_
  refine WL_do rfl rfl rfl (D_call (calls_ok hkc9 kc9b _ 9 (by omega) 3 0) rfl rfl rfl rfl (pqD)) ?_
  rintro _ _ ⟨_, ⟨gkc10, hkc10, rfl, rfl⟩, rfl⟩
  refine WL_set (s := 87) (v := .bool true) rfl (by exact congrArg Value.bool (decide_eq_true kf18)) ?_
  have hkc10 : CGd gkc10 b1 kc10 := hkc10
  refine WL_val rfl rfl rfl (R_not rfl rfl) ?_
  refine WL_val rfl rfl rfl (R_move rfl rfl) ?_
  refine WL_val rfl rfl rfl (R_move rfl rfl) ?_
  refine WL_val rfl rfl rfl (R_move rfl rfl) ?_
  refine WL_do rfl rfl rfl (D_call (up_ok hkc10 kc10b hks8 ks8b) rfl rfl rfl rfl (pqD)) ?_
  rintro _ _ ⟨_, ⟨gkc11, gks9, hkc11, hks9, rfl, rfl⟩, rfl⟩
  refine WL_set (s := 92) (v := .bool true) rfl (by exact congrArg Value.bool (decide_eq_true kf19)) ?_
  have hkc11 : CGd gkc11 b1 kc11 := hkc11
  have hks9 : SGd gks9 b2 ks9 := hks9
  refine WL_val rfl rfl rfl (R_not rfl rfl) ?_
  refine WL_val rfl rfl rfl (R_pickF rfl rfl rfl) ?_
  refine WL_val rfl rfl rfl (R_move rfl rfl) ?_
  refine WL_val rfl rfl rfl (R_move rfl rfl) ?_
  refine WL_do rfl rfl rfl (D_call (k_cancel hkc11 kc11b 3) rfl rfl rfl rfl (pqD)) ?_
  rintro _ _ ⟨_, ⟨gkc12, hkc12, rfl, rfl⟩, rfl⟩
  have hkc12 : CGd gkc12 b1 kc12 := hkc12
  refine WL_val rfl rfl rfl (R_neq rfl rfl rfl) ?_
  refine WL_set (s := 98) (v := .bool false) rfl (by exact congrArg Value.bool (decide_eq_false (fun e => e kf20))) ?_
  refine WL_val rfl rfl rfl (R_pickF rfl rfl rfl) ?_
  refine WL_val rfl rfl rfl (R_move rfl rfl) ?_
  refine WL_val rfl rfl rfl (R_move rfl rfl) ?_
  refine WL_val rfl rfl rfl (R_move rfl rfl) ?_
  refine WL_do rfl rfl rfl (D_call (up_ok hkc12 kc12b hks9 ks9b) rfl rfl rfl rfl (pqD)) ?_
  rintro _ _ ⟨_, ⟨gkc13, gks10, hkc13, hks10, rfl, rfl⟩, rfl⟩
  refine WL_set (s := 103) (v := .bool true) rfl (by exact congrArg Value.bool (decide_eq_true kf21)) ?_
  have hkc13 : CGd gkc13 b1 kc13 := hkc13
  have hks10 : SGd gks10 b2 ks10 := hks10
  refine WL_val rfl rfl rfl (R_not rfl rfl) ?_
  refine WL_val rfl rfl rfl (R_pickF rfl rfl rfl) ?_
  refine WL_val rfl rfl rfl (R_move rfl rfl) ?_
  refine WL_val rfl rfl rfl (R_move rfl rfl) ?_
  refine WL_do rfl rfl rfl (D_call (k_cancel hkc13 kc13b 3) rfl rfl rfl rfl (pqD)) ?_
  rintro _ _ ⟨_, ⟨gkc14, hkc14, rfl, rfl⟩, rfl⟩
  have hkc14 : CGd gkc14 b1 kc14 := hkc14
  refine WL_val rfl rfl rfl (R_neq rfl rfl rfl) ?_
  refine WL_set (s := 109) (v := .bool false) rfl (by exact congrArg Value.bool (decide_eq_false (fun e => e kf22))) ?_
  refine WL_val rfl rfl rfl (R_pickF rfl rfl rfl) ?_
  refine WL_val rfl rfl rfl (R_move rfl rfl) ?_
  refine WL_val rfl rfl rfl (R_move rfl rfl) ?_
  refine WL_do rfl rfl rfl (D_call (ends_ok hkc14 kc14b 3 14 _ (fun r hr => of_decide_eq_true (List.all_eq_true.1 kf24 r hr))) rfl rfl rfl rfl (pqD)) ?_
  rintro _ _ ⟨_, ⟨gkc15, hkc15, rfl, rfl⟩, rfl⟩
  refine WL_set (s := 113) (v := .bool true) rfl (by exact congrArg Value.bool kf23) ?_
  have hkc15 : CGd gkc15 b1 kc15 := hkc15
  refine WL_val rfl rfl rfl (R_not rfl rfl) ?_
  refine WL_val rfl rfl rfl (R_pickF rfl rfl rfl) ?_
  refine WL_nil ?_
  refine WQ_code ?_
  refine WC_F rfl ?_
  refine WC_skip ?_
  refine WQ_code ?_
  refine WC_seq ?_
  refine WC_region ?_
  refine WL_val rfl rfl rfl (R_move rfl rfl) ?_
  refine WL_do rfl rfl rfl (D_call (s_next0 hks10 ks10b kf25) rfl rfl rfl rfl (pqD)) ?_
  rintro _ _ ⟨_, ⟨gl9, hl9, rfl, rfl⟩, rfl⟩
  refine WL_val rfl rfl rfl (R_move rfl rfl) ?_
  refine WL_val rfl rfl rfl (R_extract rfl rfl rfl) ?_
  refine WL_val rfl rfl rfl (R_extract rfl rfl rfl) ?_
  refine WL_do rfl rfl rfl (D_alloc rfl zv60) ?_
  rintro _ _ ⟨b5, rfl, rfl⟩
  refine WL_do0 rfl rfl (D_store (vs := [_, _, _]) rfl Try.sizeOf60 rfl rfl rfl rfl rfl (plD) (by exact Nat.le_of_ble_eq_true rfl)) ?_
  rintro _ _ rfl
  refine WL_val rfl rfl rfl (R_assign rfl rfl) ?_
  refine WL_nil ?_
  refine WQ_code ?_
  refine WC_seq ?_
  refine WC_region ?_
  refine WL_val rfl rfl rfl (R_move rfl rfl) ?_
  refine WL_val rfl rfl rfl (R_not rfl rfl) ?_
  refine WL_val rfl rfl rfl (R_assign rfl rfl) ?_
  refine WL_nil ?_
  refine WQ_code ?_
  refine WC_ret ?_
  refine WQ_ret rfl rfl (.cons (.tmp rfl) .nil) rfl (by
      exact ⟨rfl, rfl⟩) (pqD)
end Go.Proofs.Ytdelhikejgoffaa
end
section
set_option linter.unusedVariables false
set_option maxRecDepth 20000
set_option maxHeartbeats 4000000
namespace Go.Proofs.Ytdelhikejgoffaa
theorem fulls_ok (less : Nat) (hl : less < 256) : Spec Try.prog 3 [.int .u8 (less : Int)] [] (fun r H' => r = .bool true ∧ H' = []) := by
  have hk : less % 4 < 4 := Nat.mod_lt _ (by decide)
  refine Spec.of (E := [(0, .int .u8 (less : Int))]) Try.func3 rfl (by kernel_rfl) Try.ntmps3 rfl rfl (fun w => ?_)
  refine WC_seq ?_
  refine WC_region ?_
  refine WL_val rfl rfl rfl (R_assign rfl rfl) ?_
  refine WL_nil ?_
  refine WQ_code ?_
  refine WC_seq ?_
  refine WC_region ?_
  refine WL_val rfl rfl rfl (R_build rfl zv34 pl34 rfl rfl) ?_
  refine WL_do rfl rfl rfl (D_box (cs := [_, _, _, _, _, _, _, _, _]) rfl rfl rfl) ?_
  rintro _ _ ⟨b1, rfl, rfl⟩
  obtain ⟨gpc0, hpc0, hx1⟩ := c_new b1
  refine WL_turn hx1 plD ?_
  refine WL_val rfl rfl rfl (R_build rfl zv39 pl39 rfl rfl) ?_
  refine WL_do rfl rfl rfl (D_box (cs := [_, _, _, _, _, _, _]) rfl rfl rfl) ?_
  rintro _ _ ⟨b2, rfl, rfl⟩
  obtain ⟨gpv0, hpv0, hx2⟩ := s_new b2
  refine WL_turn hx2 plD ?_
  refine WL_val rfl rfl rfl (R_assign rfl rfl) ?_
  refine WL_val rfl rfl rfl (R_assign rfl rfl) ?_
  refine WL_nil ?_
  refine WQ_code ?_
  refine WC_seq ?_
  refine WC_seq ?_
  refine WC_region ?_
  refine WL_val rfl rfl rfl (R_assign rfl rfl) ?_
  refine WL_nil ?_
  refine WQ_code ?_
  refine WC_block ?_
  refine WC_loopF (G := FlW) [2, 5, 18, 19, 20, 21, 22, 23, 24, 25] (fun y => y.n ≤ 32 ∧ CGd y.g b1 (fc y.n)) (fun y => [(5, .int .i64 ((y.n + 1 : Nat) : Int))]) (fun y => cH y.g) (fun y => 32 - y.n) (⟨0, gpc0⟩) (⟨Nat.zero_le _, hpc0⟩) leZ (pqD) ?_
  rintro y ⟨hn, hy⟩
  refine WC_seq ?_
  refine WC_seq ?_
  refine WC_region ?_
  refine WL_val rfl rfl rfl (R_move rfl rfl) ?_
  refine WL_val rfl rfl rfl (R_leq rfl rfl rfl) ?_
  refine WL_nil ?_
  refine WQ_code ?_
  refine WC_dec rfl (fun c1 => ?_) (fun c1 => ?_)
  · refine WC_skip ?_
    refine WQ_code ?_
    refine WC_seq ?_
    refine WC_block ?_
    refine WC_seq ?_
    refine WC_region ?_
    refine WL_val rfl rfl rfl (R_move rfl rfl) ?_
    refine WL_val rfl rfl rfl (R_move rfl rfl) ?_
    refine WL_do rfl rfl rfl (D_call (calls_ok hy (fcb (by omega)) _ 9 (by omega) _ 0) rfl rfl rfl rfl (pqD)) ?_
    rintro _ _ ⟨_, ⟨g', hg', rfl, rfl⟩, rfl⟩
    refine WL_set (s := 24) (v := .bool true) rfl (by exact congrArg Value.bool (decide_eq_true (fcc (by omega)))) ?_
    refine WL_val rfl rfl rfl (R_not rfl rfl) ?_
    refine WL_nil ?_
    refine WQ_code ?_
    refine WC_F rfl ?_
    refine WC_skip ?_
    refine WQ_code ?_
    refine WC_region ?_
    refine WL_val rfl rfl rfl (R_move rfl rfl) ?_
    refine WL_val rfl rfl rfl (R_add rfl rfl rfl (by omega)) ?_
    refine WL_val rfl rfl rfl (R_assign rfl rfl) ?_
    refine WL_nil ?_
    refine WQ_nextF (⟨y.n + 1, g'⟩) (⟨by dsimp only; omega, hg'⟩) (by dsimp only; omega) leZ (psZ) rfl (pqD)
  · have hn9 : y.n = 32 := by omega
    have hfcE : CGd y.g b1 fcE := by rw [hn9] at hy; exact hy
    refine WC_exit ?_
    refine WQ_code ?_
    refine WC_seq ?_
    refine WC_seq ?_
    refine WC_region ?_
    refine WL_val rfl rfl rfl (R_move rfl rfl) ?_
    refine WL_do rfl rfl rfl (D_call (calls_ok hfcE fcEb _ 9 (by omega) 0 7) rfl rfl rfl rfl (pqD)) ?_
    rintro _ _ ⟨_, ⟨gfc1, hfc1, rfl, rfl⟩, rfl⟩
    refine WL_set (s := 27) (v := .bool true) rfl (by exact congrArg Value.bool (decide_eq_true ff1)) ?_
    have hfc1 : CGd gfc1 b1 fc1 := hfc1
    refine WL_val rfl rfl rfl (R_not rfl rfl) ?_
    refine WL_val rfl rfl rfl (R_move rfl rfl) ?_
    refine WL_val rfl rfl rfl (R_move rfl rfl) ?_
    refine WL_val rfl rfl rfl (R_move rfl rfl) ?_
    refine WL_do rfl rfl rfl (D_call (up_ok hfc1 fc1b hpv0 pv0b) rfl rfl rfl rfl (pqD)) ?_
    rintro _ _ ⟨_, ⟨gfc2, gfs1, hfc2, hfs1, rfl, rfl⟩, rfl⟩
    refine WL_set (s := 32) (v := .bool true) rfl (by exact congrArg Value.bool (decide_eq_true ff2)) ?_
    have hfc2 : CGd gfc2 b1 fc2 := hfc2
    have hfs1 : SGd gfs1 b2 fs1 := hfs1
    refine WL_val rfl rfl rfl (R_not rfl rfl) ?_
    refine WL_val rfl rfl rfl (R_pickF rfl rfl rfl) ?_
    refine WL_val rfl rfl rfl (R_move rfl rfl) ?_
    refine WL_val rfl rfl rfl (R_move rfl rfl) ?_
    refine WL_do rfl rfl rfl (D_call (s_open hfs1 fs1b) rfl rfl rfl rfl (pqD)) ?_
    rintro _ _ ⟨_, ⟨oq, cq, tq, rfl, ownq, rfl⟩, rfl⟩
    refine WL_val rfl rfl rfl (R_len rfl Try.underlying36 rfl) ?_
    refine WL_val rfl rfl rfl (R_neq rfl rfl rfl) ?_
    refine WL_set (s := 39) (v := .bool false) rfl (by exact congrArg Value.bool (decide_eq_false (fun e => e (by rw [ff3]; rfl)))) ?_
    refine WL_val rfl rfl rfl (R_pickF rfl rfl rfl) ?_
    refine WL_nil ?_
    refine WQ_code ?_
    refine WC_F rfl ?_
    refine WC_skip ?_
    refine WQ_code ?_
    refine WC_seq ?_
    refine WC_region ?_
    refine WL_val rfl rfl rfl (R_move rfl rfl) ?_
    refine WL_val rfl rfl rfl (R_remR (r := ((less % 4 : Nat) : Int)) rfl rfl rfl (by decide) (by rw [Int.tmod_eq_emod_of_nonneg (by omega)]; omega)) ?_
    refine WL_val rfl rfl rfl (R_conv (r := ((less % 4 : Nat) : Int)) rfl Try.underlying5 Try.underlying3 rfl (by rw [wrap64_in (by omega) (by omega)])) ?_
    refine WL_val rfl rfl rfl (R_assign rfl rfl) ?_
    refine WL_nil ?_
    refine WQ_code ?_
    refine WC_seq ?_
    refine WC_seq ?_
    refine WC_region ?_
    refine WL_val rfl rfl rfl (R_assign rfl rfl) ?_
    refine WL_nil ?_
    refine WQ_code ?_
    refine WC_block ?_
    refine WC_loopF (G := FlW) [2, 7, 44, 45, 46, 47, 48, 49, 50, 51, 52, 53, 54, 55, 56, 57, 58] (fun y => y.n ≤ less % 4 ∧ CGd y.g b1 (gcF y.n)) (fun y => [(7, .int .i64 ((y.n + 1 : Nat) : Int))]) (fun y => cH y.g) (fun y => less % 4 - y.n) (⟨0, gfc2⟩) (⟨Nat.zero_le _, hfc2⟩) leZ (pqD) ?_
    rintro y ⟨hn, hy⟩
    refine WC_seq ?_
    refine WC_seq ?_
    refine WC_region ?_
    refine WL_val rfl rfl rfl (R_move rfl rfl) ?_
    refine WL_val rfl rfl rfl (R_move rfl rfl) ?_
    refine WL_val rfl rfl rfl (R_leq rfl rfl rfl) ?_
    refine WL_nil ?_
    refine WQ_code ?_
    refine WC_dec rfl (fun c2 => ?_) (fun c2 => ?_)
    · refine WC_skip ?_
      refine WQ_code ?_
      refine WC_seq ?_
      refine WC_block ?_
      refine WC_seq ?_
      refine WC_region ?_
      refine WL_val rfl rfl rfl (R_move rfl rfl) ?_
      refine WL_val rfl rfl rfl (R_move rfl rfl) ?_
      refine WL_do rfl rfl rfl (D_call (k_cancel hy (gcb (by omega)).1 _) rfl rfl rfl rfl (pqD)) ?_
      rintro _ _ ⟨_, ⟨g', hg', rfl, rfl⟩, rfl⟩
      refine WL_val rfl rfl rfl (R_neq rfl rfl rfl) ?_
      refine WL_set (s := 52) (v := .bool false) rfl (by exact congrArg Value.bool (decide_eq_false (fun e => e (gcc (by omega)).1))) ?_
      refine WL_val rfl rfl rfl (R_move rfl rfl) ?_
      refine WL_val rfl rfl rfl (R_move rfl rfl) ?_
      refine WL_val rfl rfl rfl (R_move rfl rfl) ?_
      refine WL_do rfl rfl rfl (D_call (ends_ok hg' (gcb (by omega)).2.1 _ 14 _ (gcb (by omega)).2.2) rfl rfl rfl rfl (pqD)) ?_
      rintro _ _ ⟨_, ⟨g'', hg'', rfl, rfl⟩, rfl⟩
      refine WL_set (s := 56) (v := .bool true) rfl (by exact congrArg Value.bool (gcc (by omega)).2) ?_
      refine WL_val rfl rfl rfl (R_not rfl rfl) ?_
      refine WL_val rfl rfl rfl (R_pickF rfl rfl rfl) ?_
      refine WL_nil ?_
      refine WQ_code ?_
      refine WC_F rfl ?_
      refine WC_skip ?_
      refine WQ_code ?_
      refine WC_region ?_
      refine WL_val rfl rfl rfl (R_move rfl rfl) ?_
      refine WL_val rfl rfl rfl (R_add rfl rfl rfl (by omega)) ?_
      refine WL_val rfl rfl rfl (R_assign rfl rfl) ?_
      refine WL_nil ?_
      refine WQ_nextF (⟨y.n + 1, g''⟩) (⟨by dsimp only; omega, hg''⟩) (by dsimp only; omega) leZ (psZ) rfl (pqD)
    · have hn9 : y.n = less % 4 := by omega
      have hgk : CGd y.g b1 (hcF (less % 4) 0) := by rw [hn9] at hy; exact hy
      refine WC_exit ?_
      refine WQ_code ?_
      refine WC_seq ?_
      refine WC_seq ?_
      refine WC_region ?_
      refine WL_val rfl rfl rfl (R_assign rfl rfl) ?_
      refine WL_nil ?_
      refine WQ_code ?_
      refine WC_block ?_
      refine WC_loopF (G := FlW) [2, 8, 59, 60, 61, 62, 63, 64, 65, 66, 67, 68] (fun y => y.n ≤ less % 4 ∧ CGd y.g b1 (hcF (less % 4) y.n)) (fun y => [(8, .int .i64 ((y.n + 1 : Nat) : Int))]) (fun y => cH y.g) (fun y => less % 4 - y.n) (⟨0, y.g⟩) (⟨Nat.zero_le _, hgk⟩) leZ (pqD) ?_
      rintro y ⟨hn, hy⟩
      refine WC_seq ?_
      refine WC_seq ?_
      refine WC_region ?_
      refine WL_val rfl rfl rfl (R_move rfl rfl) ?_
      refine WL_val rfl rfl rfl (R_move rfl rfl) ?_
      refine WL_val rfl rfl rfl (R_leq rfl rfl rfl) ?_
      refine WL_nil ?_
      refine WQ_code ?_
      refine WC_dec rfl (fun c3 => ?_) (fun c3 => ?_)
      · refine WC_skip ?_
        refine WQ_code ?_
        refine WC_seq ?_
        refine WC_block ?_
        refine WC_seq ?_
        refine WC_region ?_
        refine WL_val rfl rfl rfl (R_move rfl rfl) ?_
        refine WL_val rfl rfl rfl (R_move rfl rfl) ?_
        refine WL_val rfl rfl rfl (R_addR (r := ((32 + (y.n + 1) : Nat) : Int)) rfl rfl rfl (by rw [wrap64_in (by omega) (by omega)]; omega)) ?_
        refine WL_do rfl rfl rfl (D_call (calls_ok hy ((hcc hk).1 y.n (by omega)) _ 9 (by omega) _ 0) rfl rfl rfl rfl (pqD)) ?_
        rintro _ _ ⟨_, ⟨g', hg', rfl, rfl⟩, rfl⟩
        refine WL_set (s := 67) (v := .bool true) rfl (by exact congrArg Value.bool (decide_eq_true ((hcc hk).2 y.n (by omega)))) ?_
        refine WL_val rfl rfl rfl (R_not rfl rfl) ?_
        refine WL_nil ?_
        refine WQ_code ?_
        refine WC_F rfl ?_
        refine WC_skip ?_
        refine WQ_code ?_
        refine WC_region ?_
        refine WL_val rfl rfl rfl (R_move rfl rfl) ?_
        refine WL_val rfl rfl rfl (R_add rfl rfl rfl (by omega)) ?_
        refine WL_val rfl rfl rfl (R_assign rfl rfl) ?_
        refine WL_nil ?_
        refine WQ_nextF (⟨y.n + 1, g'⟩) (⟨by dsimp only; omega, hg'⟩) (by dsimp only; omega) leZ (psZ) rfl (pqD)
      · have hn9 : y.n = less % 4 := by omega
        rw [hn9] at hy
        obtain ⟨hu1, hu2, hu3, hu4, hu5, hu6, hu7⟩ := upc hk
        refine WC_exit ?_
        refine WQ_code ?_
        refine WC_seq ?_
        refine WC_seq ?_
        refine WC_region ?_
        refine WL_val rfl rfl rfl (R_move rfl rfl) ?_
        refine WL_val rfl rfl rfl (R_move rfl rfl) ?_
        refine WL_do rfl rfl rfl (D_call (up_ok hy ((hcc hk).1 _ hk) hfs1 fs1b) rfl rfl rfl rfl (pqD)) ?_
        rintro _ _ ⟨_, ⟨gu, gv, hgu, hgv, rfl, rfl⟩, rfl⟩
        refine WL_set (s := 71) (v := .bool true) rfl (by exact congrArg Value.bool (decide_eq_true (hu1))) ?_
        refine WL_val rfl rfl rfl (R_not rfl rfl) ?_
        refine WL_val rfl rfl rfl (R_move rfl rfl) ?_
        refine WL_val rfl rfl rfl (R_move rfl rfl) ?_
        refine WL_do rfl rfl rfl (D_call (s_open (v := upS (less % 4)) hgv hu4) rfl rfl rfl rfl (pqD)) ?_
        rintro _ _ ⟨_, ⟨oq, cq, tq, rfl, ownq, rfl⟩, rfl⟩
        refine WL_val rfl rfl rfl (R_len rfl Try.underlying36 rfl) ?_
        refine WL_val rfl rfl rfl (R_neq rfl rfl rfl) ?_
        refine WL_set (s := 77) (v := .bool false) rfl (by exact congrArg Value.bool (decide_eq_false (fun e => e (by rw [hu2]; rfl)))) ?_
        refine WL_val rfl rfl rfl (R_pickF rfl rfl rfl) ?_
        refine WL_val rfl rfl rfl (R_move rfl rfl) ?_
        refine WL_val rfl rfl rfl (R_move rfl rfl) ?_
        refine WL_val rfl rfl rfl (R_move rfl rfl) ?_
        refine WL_do rfl rfl rfl (D_call (down_ok (v := upC (less % 4)) hgu hu5 (u := upS (less % 4)) hgv hu4) rfl rfl rfl rfl (pqD)) ?_
        rintro _ _ ⟨_, ⟨gw, gx, hgx, hgw, rfl, rfl⟩, rfl⟩
        refine WL_set (s := 82) (v := .bool true) rfl (by exact congrArg Value.bool (decide_eq_true (hu3))) ?_
        refine WL_val rfl rfl rfl (R_not rfl rfl) ?_
        refine WL_val rfl rfl rfl (R_pickF rfl rfl rfl) ?_
        refine WL_nil ?_
        refine WQ_code ?_
        refine WC_F rfl ?_
        refine WC_skip ?_
        refine WQ_code ?_
        refine WC_seq ?_
        refine WC_region ?_
        refine WL_val rfl rfl rfl (R_build rfl zv34 pl34 rfl rfl) ?_
        refine WL_do rfl rfl rfl (D_box (cs := [_, _, _, _, _, _, _, _, _]) rfl rfl rfl) ?_
        rintro _ _ ⟨b3, rfl, rfl⟩
        obtain ⟨gpc9, hpc9, hx3⟩ := c_new b3
        refine WL_turn hx3 plD ?_
        refine WL_val rfl rfl rfl (R_assign rfl rfl) ?_
        refine WL_nil ?_
        refine WQ_code ?_
        refine WC_seq ?_
        refine WC_region ?_
        refine WL_val rfl rfl rfl (R_build rfl zv39 pl39 rfl rfl) ?_
        refine WL_do rfl rfl rfl (D_box (cs := [_, _, _, _, _, _, _]) rfl rfl rfl) ?_
        rintro _ _ ⟨b4, rfl, rfl⟩
        obtain ⟨gpv9, hpv9, hx4⟩ := s_new b4
        refine WL_turn hx4 plD ?_
        refine WL_val rfl rfl rfl (R_assign rfl rfl) ?_
        refine WL_nil ?_
        refine WQ_code ?_
        refine WC_seq ?_
        refine WC_seq ?_
        refine WC_region ?_
        refine WL_val rfl rfl rfl (R_assign rfl rfl) ?_
        refine WL_nil ?_
        refine WQ_code ?_
        refine WC_block ?_
        refine WC_loopF (G := FmW) [2, 11, 12, 13, 89, 90, 91, 92, 93, 94, 95, 96, 97, 98, 99, 100, 101, 102, 103, 104, 105, 106, 107, 108, 109, 110, 111, 112, 113, 114, 115, 116, 117, 118] (fun y => y.n ≤ 33 ∧ CGd y.g b3 (ou y.n).1 ∧ SGd y.h b4 (ou y.n).2) (fun y => [(11, .int .i64 ((y.n + 1 : Nat) : Int))]) (fun y => cH y.g ++ sH y.h) (fun y => 33 - y.n) (⟨0, gpc9, gpv9⟩) (⟨Nat.zero_le _, hpc9, hpv9⟩) leZ (pqD) ?_
        rintro y ⟨hn0, hyc, hyh⟩
        refine WC_seq ?_
        refine WC_seq ?_
        refine WC_region ?_
        refine WL_val rfl rfl rfl (R_move rfl rfl) ?_
        refine WL_val rfl rfl rfl (R_leq rfl rfl rfl) ?_
        refine WL_nil ?_
        refine WQ_code ?_
        refine WC_dec rfl (fun c4 => ?_) (fun c4 => ?_)
        · refine WC_skip ?_
          refine WQ_code ?_
          refine WC_seq ?_
          refine WC_block ?_
          refine WC_seq ?_
          refine WC_seq ?_
          refine WC_region ?_
          refine WL_val rfl rfl rfl (R_move rfl rfl) ?_
          refine WL_val rfl rfl rfl (R_eql rfl rfl rfl) ?_
          refine WL_nil ?_
          refine WQ_code ?_
          refine WC_dec rfl (fun c5 => ?_) (fun c5 => ?_)
          · have hn : y.n = 32 := by omega
            have hyc : CGd y.g b3 oc1 := by rw [hn] at hyc; exact hyc
            refine WC_seq ?_
            refine WC_seq ?_
            refine WC_region ?_
            refine WL_val rfl rfl rfl (R_move rfl rfl) ?_
            refine WL_do rfl rfl rfl (D_call (k_cancel (v := oc1) hyc oc1b 1) rfl rfl rfl rfl (pqD)) ?_
            rintro _ _ ⟨_, ⟨g2', hg2', rfl, rfl⟩, rfl⟩
            have hC2 : CGd g2' b3 oc2 := hg2'
            refine WL_val rfl rfl rfl (R_neq rfl rfl rfl) ?_
            refine WL_set (s := 97) (v := .bool false) rfl (by exact congrArg Value.bool (decide_eq_false (fun e => e oc1f))) ?_
            refine WL_nil ?_
            refine WQ_code ?_
            refine WC_F rfl ?_
            refine WC_skip ?_
            refine WQ_code ?_
            refine WC_seq ?_
            refine WC_region ?_
            refine WL_val rfl rfl rfl (R_move rfl rfl) ?_
            refine WL_do rfl rfl rfl (D_call (k_out1 hC2 oc2b 65536 (by omega)) rfl rfl rfl rfl (pqD)) ?_
            rintro _ _ ⟨_, ⟨g3', o9, c9, tl9, hg3', own9, rfl, rfl⟩, rfl⟩
            have hC3 : CGd g3' b3 oc3 := hg3'
            refine WL_val rfl rfl rfl (R_move rfl rfl) ?_
            refine WL_val rfl rfl rfl (R_extract rfl rfl rfl) ?_
            refine WL_val rfl rfl rfl (R_extract rfl rfl rfl) ?_
            refine WL_val rfl rfl rfl (R_assign rfl rfl) ?_
            refine WL_val rfl rfl rfl (R_assign rfl rfl) ?_
            refine WL_nil ?_
            refine WQ_code ?_
            refine WC_seq ?_
            refine WC_region ?_
            refine WL_val rfl rfl rfl (R_move rfl rfl) ?_
            refine WL_val rfl rfl rfl (R_neq rfl rfl rfl) ?_
            refine WL_nil ?_
            refine WQ_code ?_
            refine WC_dF rfl (by decide) ?_
            refine WC_skip ?_
            refine WQ_code ?_
            refine WC_seq ?_
            refine WC_region ?_
            refine WL_val rfl rfl rfl (R_move rfl rfl) ?_
            refine WL_val rfl rfl rfl (R_move rfl rfl) ?_
            refine WL_do rfl rfl rfl (D_call (calls_ok hC3 oc3b _ 9 (by omega) _ 0) rfl rfl rfl rfl (pqD)) ?_
            rintro _ _ ⟨_, ⟨g', hg', rfl, rfl⟩, rfl⟩
            refine WL_set (s := 107) (v := .bool true) rfl (by exact congrArg Value.bool (decide_eq_true (by rw [hn]; exact oc3f))) ?_
            refine WL_val rfl rfl rfl (R_not rfl rfl) ?_
            refine WL_val rfl rfl rfl (R_move rfl rfl) ?_
            refine WL_val rfl rfl rfl (R_move rfl rfl) ?_
            refine WL_val rfl rfl rfl (R_lss rfl rfl rfl) ?_
            refine WL_set (s := 111) (v := .bool false) rfl (by exact congrArg Value.bool (decide_eq_false (by omega))) ?_
            refine WL_val rfl rfl rfl (R_move rfl rfl) ?_
            refine WL_skip rfl rfl rfl ?_
            refine WL_skip rfl rfl rfl ?_
            refine WL_skip rfl rfl rfl ?_
            refine WL_skip rfl rfl rfl ?_
            refine WL_val rfl rfl rfl (R_pickF rfl rfl rfl) ?_
            refine WL_val rfl rfl rfl (R_pickF rfl rfl rfl) ?_
            refine WL_nil ?_
            refine WQ_code ?_
            refine WC_F rfl ?_
            refine WC_skip ?_
            refine WQ_code ?_
            refine WC_region ?_
            refine WL_val rfl rfl rfl (R_move rfl rfl) ?_
            refine WL_val rfl rfl rfl (R_add rfl rfl rfl (by omega)) ?_
            refine WL_val rfl rfl rfl (R_assign rfl rfl) ?_
            refine WL_nil ?_
            refine WQ_nextF (⟨y.n + 1, g', y.h⟩) (⟨by dsimp only; omega, by dsimp only; rw [hn, ou_last]; exact hg', by dsimp only; rw [hn, ou_last, ← hn]; exact hyh⟩) (by dsimp only; omega) leZ (psZ) rfl (pqD)
          · have hn : y.n < 32 := by omega
            refine WC_skip ?_
            refine WQ_code ?_
            refine WC_seq ?_
            refine WC_region ?_
            refine WL_val rfl rfl rfl (R_move rfl rfl) ?_
            refine WL_val rfl rfl rfl (R_move rfl rfl) ?_
            refine WL_do rfl rfl rfl (D_call (calls_ok hyc (oub (by omega)).1 _ 9 (by omega) _ 0) rfl rfl rfl rfl (pqD)) ?_
            rintro _ _ ⟨_, ⟨g', hg', rfl, rfl⟩, rfl⟩
            refine WL_set (s := 107) (v := .bool true) rfl (by exact congrArg Value.bool (decide_eq_true ((ouc hn).1))) ?_
            refine WL_val rfl rfl rfl (R_not rfl rfl) ?_
            refine WL_val rfl rfl rfl (R_move rfl rfl) ?_
            refine WL_val rfl rfl rfl (R_move rfl rfl) ?_
            refine WL_val rfl rfl rfl (R_lss rfl rfl rfl) ?_
            refine WL_set (s := 111) (v := .bool true) rfl (by exact congrArg Value.bool (decide_eq_true (by omega))) ?_
            refine WL_val rfl rfl rfl (R_move rfl rfl) ?_
            refine WL_val rfl rfl rfl (R_move rfl rfl) ?_
            refine WL_val rfl rfl rfl (R_move rfl rfl) ?_
            refine WL_do rfl rfl rfl (D_call (up_ok hg' (ouc hn).2.2 hyh (oub (by omega)).2) rfl rfl rfl rfl (pqD)) ?_
            rintro _ _ ⟨_, ⟨gu, gv, hgu, hgv, rfl, rfl⟩, rfl⟩
            refine WL_set (s := 115) (v := .bool true) rfl (by exact congrArg Value.bool (decide_eq_true ((ouc hn).2.1))) ?_
            refine WL_val rfl rfl rfl (R_not rfl rfl) ?_
            refine WL_val rfl rfl rfl (R_pickT rfl rfl rfl) ?_
            refine WL_val rfl rfl rfl (R_pickF rfl rfl rfl) ?_
            refine WL_nil ?_
            refine WQ_code ?_
            refine WC_F rfl ?_
            refine WC_skip ?_
            refine WQ_code ?_
            refine WC_region ?_
            refine WL_val rfl rfl rfl (R_move rfl rfl) ?_
            refine WL_val rfl rfl rfl (R_add rfl rfl rfl (by omega)) ?_
            refine WL_val rfl rfl rfl (R_assign rfl rfl) ?_
            refine WL_nil ?_
            refine WQ_nextF (⟨y.n + 1, gu, gv⟩) (⟨by dsimp only; omega, by dsimp only; rw [ou_next hn]; exact hgu, by dsimp only; rw [ou_next hn]; exact hgv⟩) (by dsimp only; omega) leZ (psZ) rfl (pqD)
        · have hn9 : y.n = 33 := by omega
          have hocE : CGd y.g b3 ocE := by rw [hn9] at hyc; exact hyc
          have hosE : SGd y.h b4 osE := by rw [hn9] at hyh; exact hyh
          refine WC_exit ?_
          refine WQ_code ?_
          refine WC_seq ?_
          refine WC_seq ?_
          refine WC_region ?_
          refine WL_val rfl rfl rfl (R_move rfl rfl) ?_
          refine WL_val rfl rfl rfl (R_move rfl rfl) ?_
          refine WL_do rfl rfl rfl (D_call (up_ok hocE ocEb hosE osEb) rfl rfl rfl rfl (pqD)) ?_
          rintro _ _ ⟨_, ⟨gzqc1, gzqs1, hzqc1, hzqs1, rfl, rfl⟩, rfl⟩
          refine WL_set (s := 121) (v := .bool true) rfl (by exact congrArg Value.bool (decide_eq_true zqf1)) ?_
          have hzqc1 : CGd gzqc1 b3 zqc1 := hzqc1
          have hzqs1 : SGd gzqs1 b4 zqs1 := hzqs1
          refine WL_val rfl rfl rfl (R_not rfl rfl) ?_
          refine WL_val rfl rfl rfl (R_move rfl rfl) ?_
          refine WL_val rfl rfl rfl (R_move rfl rfl) ?_
          refine WL_do rfl rfl rfl (D_call (s_open hzqs1 zqs1b) rfl rfl rfl rfl (pqD)) ?_
          rintro _ _ ⟨_, ⟨oq, cq, tq, rfl, ownq, rfl⟩, rfl⟩
          refine WL_val rfl rfl rfl (R_len rfl Try.underlying36 rfl) ?_
          refine WL_val rfl rfl rfl (R_neq rfl rfl rfl) ?_
          refine WL_set (s := 127) (v := .bool false) rfl (by exact congrArg Value.bool (decide_eq_false (fun e => e (by rw [zqf2]; rfl)))) ?_
          refine WL_val rfl rfl rfl (R_pickF rfl rfl rfl) ?_
          refine WL_val rfl rfl rfl (R_move rfl rfl) ?_
          refine WL_val rfl rfl rfl (R_move rfl rfl) ?_
          refine WL_val rfl rfl rfl (R_move rfl rfl) ?_
          refine WL_do rfl rfl rfl (D_call (down_ok hzqc1 zqc1b hzqs1 zqs1b) rfl rfl rfl rfl (pqD)) ?_
          rintro _ _ ⟨_, ⟨gzqc2, gzqs2, hzqs2, hzqc2, rfl, rfl⟩, rfl⟩
          refine WL_set (s := 132) (v := .bool true) rfl (by exact congrArg Value.bool (decide_eq_true zqf3)) ?_
          have hzqc2 : CGd gzqc2 b3 zqc2 := hzqc2
          have hzqs2 : SGd gzqs2 b4 zqs2 := hzqs2
          refine WL_val rfl rfl rfl (R_not rfl rfl) ?_
          refine WL_val rfl rfl rfl (R_pickF rfl rfl rfl) ?_
          refine WL_val rfl rfl rfl (R_move rfl rfl) ?_
          refine WL_val rfl rfl rfl (R_move rfl rfl) ?_
          refine WL_do rfl rfl rfl (D_call (ends_ok hzqc2 zqc2b 1 14 _ (fun r hr => of_decide_eq_true (List.all_eq_true.1 zqf5 r hr))) rfl rfl rfl rfl (pqD)) ?_
          rintro _ _ ⟨_, ⟨gzqc3, hzqc3, rfl, rfl⟩, rfl⟩
          refine WL_set (s := 137) (v := .bool true) rfl (by exact congrArg Value.bool zqf4) ?_
          have hzqc3 : CGd gzqc3 b3 zqc3 := hzqc3
          refine WL_val rfl rfl rfl (R_not rfl rfl) ?_
          refine WL_val rfl rfl rfl (R_pickF rfl rfl rfl) ?_
          refine WL_nil ?_
          refine WQ_code ?_
          refine WC_F rfl ?_
          refine WC_skip ?_
          refine WQ_code ?_
          refine WC_seq ?_
          refine WC_region ?_
          refine WL_val rfl rfl rfl (R_move rfl rfl) ?_
          refine WL_do rfl rfl rfl (D_call (ends_ok hzqc3 zqc3b 33 7 _ (fun r hr => of_decide_eq_true (List.all_eq_true.1 zqf7 r hr))) rfl rfl rfl rfl (pqD)) ?_
          rintro _ _ ⟨_, ⟨gzqc4, hzqc4, rfl, rfl⟩, rfl⟩
          refine WL_set (s := 141) (v := .bool true) rfl (by exact congrArg Value.bool zqf6) ?_
          have hzqc4 : CGd gzqc4 b3 zqc4 := hzqc4
          refine WL_val rfl rfl rfl (R_move rfl rfl) ?_
          refine WL_do rfl rfl rfl (D_call (known_ok) rfl rfl rfl rfl (pqD)) ?_
          rintro _ _ ⟨_, ⟨rfl, rfl⟩, rfl⟩
          refine WL_val rfl rfl rfl (R_pickT rfl rfl rfl) ?_
          refine WL_val rfl rfl rfl (R_assign rfl rfl) ?_
          refine WL_nil ?_
          refine WQ_code ?_
          refine WC_ret ?_
          refine WQ_ret rfl rfl (.cons (.tmp rfl) .nil) rfl (by
              exact ⟨rfl, rfl⟩) (pqD)
end Go.Proofs.Ytdelhikejgoffaa
end
