/-
  Chapter 45 (rpc), part LwZ: contracts of functions that the laws call, each for the heap it names.
-/
import Derived.Test.YtdelhikejgoffaaY03
import Derived.Test.YtdelhikejgoffaaRows
section
set_option linter.unusedVariables false
set_option maxRecDepth 20000
set_option maxHeartbeats 2000000
namespace Go.Proofs.Ytdelhikejgoffaa
open Go.Shelf Go.RowKit Go.Lib Go.Sort
def cmpCa (a b : Ca) : Int := orL [cmpI (a.dl : Int) (b.dl : Int), cmpI (a.id : Int) (b.id : Int)]
theorem own_lit2 (o : Nat) (a b : Int) : Own (some o) 2 2 1 (ivs [a, b]) [] := ⟨rfl, rfl, Nat.le_refl _, by decide, fun e => by cases e⟩
theorem ccmp_ok (a b : Ca) : Spec Try.prog 55 [caV a, caV b] [] (fun r H' => r = .int .i64 (cmpCa a b) ∧ H' = []) := by
  refine Spec.of (E := [(0, caV a), (1, caV b)]) Try.func55 rfl (by kernel_rfl) Try.ntmps55 rfl rfl (fun w => ?_)
  refine WC_seq ?_
  refine WC_region ?_
  refine WL_do rfl rfl rfl (D_box (cs := [_, _]) rfl rfl rfl) ?_
  rintro _ _ ⟨b1, rfl, rfl⟩
  refine WL_do rfl rfl rfl (D_box (cs := [_, _]) rfl rfl rfl) ?_
  rintro _ _ ⟨b2, rfl, rfl⟩
  refine WL_val rfl rfl rfl (R_assign rfl rfl) ?_
  refine WL_nil ?_
  refine WQ_code ?_
  refine WC_seq ?_
  refine WC_draw _ [(0, true), (1, true), (2, true), (3, true), (4, true), (5, true), (6, true), (7, true), (8, true), (9, true), (10, false), (11, false), (12, true)] followsMixed rfl rfl (by kernel_rfl) .all ?_
  refine WM_val rfl rfl rfl rfl (R_fieldAddr rfl fa78_1 rfl) ?_
  refine WM_val rfl rfl rfl rfl (R_load rfl sc30 rfl (mmY) rfl) ?_
  refine WM_val rfl rfl rfl rfl (R_fieldAddr rfl fa78_1 rfl) ?_
  refine WM_val rfl rfl rfl rfl (R_load rfl sc30 rfl (mmY) rfl) ?_
  refine WM_call rfl (Spec.quiet (cmpt_ok _ _)) rfl rfl rfl rfl rfl rfl rfl (pqY) ?_
  refine WM_val rfl rfl rfl rfl (R_fieldAddr rfl fa78_0 rfl) ?_
  refine WM_val rfl rfl rfl rfl (R_load rfl sc3 rfl (mmY) rfl) ?_
  refine WM_val rfl rfl rfl rfl (R_fieldAddr rfl fa78_0 rfl) ?_
  refine WM_val rfl rfl rfl rfl (R_load rfl sc3 rfl (mmY) rfl) ?_
  refine WM_call rfl (Spec.quiet (cmpi_ok _ _)) rfl rfl rfl rfl rfl rfl rfl (pqY) ?_
  refine WM_do rfl rfl rfl rfl (D_buildSlice rfl si36 rfl rfl rfl) ?_
  rintro _ _ ⟨b3, rfl, rfl⟩
  refine ⟨⟨_, pqY⟩, ?_⟩
  refine WM_do rfl rfl rfl rfl (D_call (cor_ok [cmpI (a.dl : Int) (b.dl : Int), cmpI (a.id : Int) (b.id : Int)] (Nat.le_of_ble_eq_true rfl) _ _ [] (own_lit2 _ _ _)) rfl rfl rfl rfl (pqY)) ?_
  rintro _ _ ⟨_, ⟨rfl, rfl⟩, rfl⟩
  refine ⟨⟨_, pqY⟩, ?_⟩
  refine WM_val rfl rfl rfl rfl (R_assign rfl rfl) ?_
  refine WM_nil ?_
  refine WQ_code ?_
  refine WC_ret ?_
  refine WQ_ret rfl rfl (.cons (.tmp rfl) .nil) rfl (by
      exact ⟨rfl, rfl⟩) (pqY)
theorem cmpCa_lt (a b : Ca) : cmpCa a b < 0 ↔ caLt a b := by
  unfold cmpCa orL orL orL cmpI caLt
  repeat' split
  all_goals omega
theorem cmpCa_swo : Go.Sort.SWO (ltOf cmpCa) := by
  refine ⟨fun x => ?_, fun x y z h1 h2 => ?_, fun x y z h1 h2 => ?_⟩
  · simp only [ltOf, decide_eq_false_iff_not, cmpCa_lt]; unfold caLt; omega
  · simp only [ltOf, decide_eq_true_eq, cmpCa_lt] at *; exact caLt_tr h1 h2
  · simp only [ltOf, decide_eq_false_iff_not, cmpCa_lt] at *
    unfold caLt at *; omega
theorem csort_ok : CSortOk := by
  intro l hl ob c tl own
  haveI : Inhabited Ca := ⟨⟨0, 0⟩⟩
  cases ob with
  | none =>
    obtain ⟨h0, rfl, h2, rfl⟩ := own.void'
    have hl0 : l = [] := List.eq_nil_of_length_eq_zero h0
    subst hl0
    refine (fr_app (sort_none lysC 54 rfl (Enters.mk Try.func54 rfl rfl) none 0 (.func (.func 55) #[] #[])) [⟨none, cl [] 78⟩]).mono fun r H' ⟨H1, ⟨e1, e2⟩, e3⟩ => ⟨[], e1, .refl _, .nil, ?_⟩
    subst e2; exact e3
  | some b =>
    refine (sortK_ok (enc := encC) (k := 2) lysC 54 rfl (fun w => (ag78 w).1) (fun w => (ag78 w).2) encC2 (fun x v hv => ?_) cmpCa cmpCa_swo 55 [] [] (fun x y => ccmp_ok x y) (Enters.mk Try.func54 rfl rfl) b l.length c 78 l tl rfl (by omega)).mono fun r H' ⟨d', e1, e2, e3, e4⟩ => ⟨d', e1, e2, ?_, e4⟩
    · simp only [encC, List.mem_cons, List.not_mem_nil, or_false] at hv
      rcases hv with rfl | rfl <;> rfl
    · refine e3.imp fun {a b} h => ?_
      simpa only [ltOf, decide_eq_false_iff_not, cmpCa_lt] using h
end Go.Proofs.Ytdelhikejgoffaa
end
section
set_option linter.unusedVariables false
set_option maxRecDepth 20000
set_option maxHeartbeats 2000000
namespace Go.Proofs.Ytdelhikejgoffaa
theorem pp1 (a b c d e : Ent) (F : Heap) : (a :: b :: c :: d :: e :: F : Heap).Perm ([e, c, d, b, a] ++ [] ++ F) := by
  have h1 : (a :: b :: c :: d :: e :: F : Heap) = [a, b, c, d, e] ++ F := rfl
  have h2 : ([e, c, d, b, a] ++ [] ++ F : Heap) = [e, c, d, b, a] ++ F := rfl
  rw [h1, h2]
  refine List.Perm.append_right F ?_
  exact ((List.reverse_perm [a, b, c, d, e]).symm.trans (.cons _ (.swap ..)))
def cH (g : CG) : Heap := clH g.m g.x
def sH (g : SG) : Heap := svH g.m g.x
structure CGd (g : CG) (p : Nat) (v : PC) : Prop where
  is : ClIs g.m g.x
  p : g.m.p = p
  v : g.x.v = v
structure SGd (g : SG) (p : Nat) (v : PV) : Prop where
  is : SvIs g.m g.x
  p : g.m.p = p
  v : g.x.v = v
section
variable {g : CG} {p : Nat} {v : PC} (hg : CGd g p v) (hb : PCB v)
include hg hb
theorem k_call {body : Bs} {oa : Option Addr} {ent : Ent} {c : Nat} (hr : RdB oa ent body) (dl : Nat) (hdl : dl ≤ 18446744073709551615) : Spec Try.prog 15 [ptrC p, .slice oa body.length c, .int .u64 (dl : Int)] (cH g ++ [ent]) (fun r H' => ∃ g', CGd g' p (v.call body dl).1 ∧ r = .tuple #[.int .i64 (v.call body dl).2.1, .int .i64 (v.call body dl).2.2] ∧ H' = cH g' ++ [ent]) := by
  obtain ⟨h, rfl, rfl⟩ := hg
  exact (call_ok h hb.cl hr dl hdl).mono (by rintro r H' ⟨m', x', e1, e2, e3, e4, e5⟩; exact ⟨⟨m', x'⟩, ⟨e2, e1, e3⟩, e4, e5⟩)
theorem k_cancel (id : Int) : Spec Try.prog 9 [ptrC p, .int .i64 id] (cH g) (fun r H' => ∃ g', CGd g' p (v.cancel id).1 ∧ r = .int .i64 (v.cancel id).2 ∧ H' = cH g') := by
  obtain ⟨h, rfl, rfl⟩ := hg
  exact (cancel_ok csort_ok h hb.cl id).mono (by rintro r H' ⟨m', x', e1, e2, e3, e4, e5⟩; exact ⟨⟨m', x'⟩, ⟨e2, e1, e3⟩, e4, e5⟩)
theorem k_adv (now : Nat) : Spec Try.prog 16 [ptrC p, .int .u64 (now : Int)] (cH g) (fun r H' => ∃ g', CGd g' p (v.advance now).1 ∧ r = .int .i64 (v.advance now).2 ∧ H' = cH g') := by
  obtain ⟨h, rfl, rfl⟩ := hg
  exact (advance_ok csort_ok h hb.cl now).mono (by rintro r H' ⟨m', x', e1, e2, e3, e4, e5⟩; exact ⟨⟨m', x'⟩, ⟨e2, e1, e3⟩, e4, e5⟩)
theorem k_recv {l : Bs} {oa : Option Addr} {ent : Ent} {c0 : Nat} (hr : RdB oa ent l) (hl : l.length ≤ 65536) : Spec Try.prog 21 [ptrC p, .slice oa l.length c0] (cH g ++ [ent]) (fun r H' => ∃ g', CGd g' p (v.recv l).1 ∧ r = .int .i64 (v.recv l).2 ∧ H' = cH g' ++ [ent]) := by
  obtain ⟨h, rfl, rfl⟩ := hg
  exact (recv_ok csort_ok h hb.cl hr hl).mono (by rintro r H' ⟨m', x', e1, e2, e3, e4, e5⟩; exact ⟨⟨m', x'⟩, ⟨e2, e1, e3⟩, e4, e5⟩)
theorem k_next0 (he : v.res = []) : Spec Try.prog 22 [ptrC p] (cH g) (fun r H' => ∃ g', CGd g' p v ∧ r = .tuple #[.agg #[.int .i64 0, .int .i64 0, .slice none 0 0], .bool false] ∧ H' = cH g') := by
  obtain ⟨h, rfl, rfl⟩ := hg
  exact (next_empty h hb.cl (by simpa [Cl.v] using he)).mono (by rintro r H' ⟨m', x', e1, e2, e3, e4, e5⟩; exact ⟨⟨m', x'⟩, ⟨e2, e1, e3⟩, e4, e5⟩)
theorem k_next1 {rr : Res} {rest : List Res} (he : v.res = rr :: rest) : Spec Try.prog 22 [ptrC p] (cH g) (fun r H' => ∃ g' o c tl, CGd g' p { v with res := rest } ∧ Own o rr.body.length c 1 (bvs rr.body) tl ∧ r = .tuple #[.agg #[.int .i64 rr.id, .int .i64 rr.code, slV o rr.body.length c], .bool true] ∧ H' = cH g' ++ [⟨o, cl (bvs rr.body ++ tl) 5⟩]) := by
  obtain ⟨h, rfl, rfl⟩ := hg
  have he : g.x.res.map Rs.v = rr :: rest := he
  obtain ⟨r0, rs, e0, e1, e2⟩ := List.map_eq_cons_iff.1 he
  subst e1; subst e2
  exact (next_take h hb.cl r0 rs e0).mono (by rintro r H' ⟨m', x', e1, e2, e3, e4, e5⟩; exact ⟨⟨m', x'⟩, r0.o, r0.c, r0.tl, ⟨e2, e1, e3⟩, h.rO r0 (by rw [e0]; exact List.mem_cons_self ..), e4, e5⟩)
theorem k_out1 (n : Nat) (hn : n ≤ 65536) : Spec Try.prog 12 [ptrC p, .int .i64 (n : Int)] (cH g) (fun r H' => ∃ g' o c tl, CGd g' p { v with out := v.out.drop n } ∧ Own o (v.out.take n).length c 1 (bvs (v.out.take n)) tl ∧ r = .tuple #[slV o (v.out.take n).length c, .int .i64 0] ∧ H' = cH g' ++ [⟨o, cl (bvs (v.out.take n) ++ tl) 5⟩]) := by
  obtain ⟨h, rfl, rfl⟩ := hg
  exact (out_do h hb.cl n hn).mono (by rintro r H' ⟨o, c2, tl2, m', x', e1, e2, e3, e4, e5, e6⟩; exact ⟨⟨m', x'⟩, o, c2, tl2, ⟨e2, e1, e3⟩, e5, e4, e6⟩)
end
section
variable {g : SG} {p : Nat} {v : PV} (hg : SGd g p v) (hb : PVB v)
include hg hb
theorem s_recv {l : Bs} {oa : Option Addr} {ent : Ent} {c0 : Nat} (hr : RdB oa ent l) (hl : l.length ≤ 65536) : Spec Try.prog 19 [ptrC p, .slice oa l.length c0] (sH g ++ [ent]) (fun r H' => ∃ g', SGd g' p (v.recv l).1 ∧ r = .int .i64 (v.recv l).2 ∧ H' = sH g' ++ [ent]) := by
  obtain ⟨h, rfl, rfl⟩ := hg
  exact (srecv_ok h hb.cl hr hl).mono (by rintro r H' ⟨m', x', e1, e2, e3, e4, e5⟩; exact ⟨⟨m', x'⟩, ⟨e2, e1, e3⟩, e4, e5⟩)
theorem s_reply (id code : Int) {body : Bs} {oa : Option Addr} {ent : Ent} {c : Nat} (hr : RdB oa ent body) (hbl : body.length ≤ 1000000) : Spec Try.prog 18 [ptrC p, .int .i64 id, .int .i64 code, .slice oa body.length c] (sH g ++ [ent]) (fun r H' => ∃ g', SGd g' p (v.reply id code body).1 ∧ r = .int .i64 (v.reply id code body).2 ∧ H' = sH g' ++ [ent]) := by
  obtain ⟨h, rfl, rfl⟩ := hg
  exact (reply_ok h hb.cl id code hr hbl).mono (by rintro r H' ⟨m', x', e1, e2, e3, e4, e5⟩; exact ⟨⟨m', x'⟩, ⟨e2, e1, e3⟩, e4, e5⟩)
theorem s_next0 (he : v.qu = []) : Spec Try.prog 17 [ptrC p] (sH g) (fun r H' => ∃ g', SGd g' p v ∧ r = .tuple #[.agg #[.int .i64 0, .int .u64 0, .slice none 0 0], .bool false] ∧ H' = sH g') := by
  obtain ⟨h, rfl, rfl⟩ := hg
  exact (snext_empty h hb.cl (by simpa [Sv.v] using he)).mono (by rintro r H' ⟨m', x', e1, e2, e3, e4, e5⟩; exact ⟨⟨m', x'⟩, ⟨e2, e1, e3⟩, e4, e5⟩)
theorem s_next1 {rr : Rr} {rest : List Rr} (he : v.qu = rr :: rest) : Spec Try.prog 17 [ptrC p] (sH g) (fun r H' => ∃ g' o c tl, SGd g' p { v with qu := rest } ∧ Own o rr.body.length c 1 (bvs rr.body) tl ∧ r = .tuple #[.agg #[.int .i64 rr.id, .int .u64 (rr.dl : Int), slV o rr.body.length c], .bool true] ∧ H' = sH g' ++ [⟨o, cl (bvs rr.body ++ tl) 5⟩]) := by
  obtain ⟨h, rfl, rfl⟩ := hg
  have he : g.x.qu.map Rq.v = rr :: rest := he
  obtain ⟨r0, rs, e0, e1, e2⟩ := List.map_eq_cons_iff.1 he
  subst e1; subst e2
  exact (snext_take h hb.cl r0 rs e0).mono (by rintro r H' ⟨m', x', e1, e2, e3, e4, e5⟩; exact ⟨⟨m', x'⟩, r0.o, r0.c, r0.tl, ⟨e2, e1, e3⟩, h.rO r0 (by rw [e0]; exact List.mem_cons_self ..), e4, e5⟩)
theorem s_out1 (n : Nat) (hn : n ≤ 65536) : Spec Try.prog 20 [ptrC p, .int .i64 (n : Int)] (sH g) (fun r H' => ∃ g' o c tl, SGd g' p { v with out := v.out.drop n } ∧ Own o (v.out.take n).length c 1 (bvs (v.out.take n)) tl ∧ r = .tuple #[slV o (v.out.take n).length c, .int .i64 0] ∧ H' = sH g' ++ [⟨o, cl (bvs (v.out.take n) ++ tl) 5⟩]) := by
  obtain ⟨h, rfl, rfl⟩ := hg
  exact (sout_do h hb.cl n hn).mono (by rintro r H' ⟨o, c2, tl2, m', x', e1, e2, e3, e4, e5, e6⟩; exact ⟨⟨m', x'⟩, o, c2, tl2, ⟨e2, e1, e3⟩, e5, e4, e6⟩)
theorem s_open : Spec Try.prog 8 [ptrC p] (sH g) (fun r H' => ∃ o c tl, r = slV o v.opn.length c ∧ Own o v.opn.length c 1 (ivs v.opn) tl ∧ H' = sH g ++ [⟨o, cl (ivs v.opn ++ tl) 3⟩]) := by
  obtain ⟨h, rfl, rfl⟩ := hg
  exact sopen_ok h hb.cl
end
def pc0 : PC := ⟨[], [], 0, 0, 0, 0, [], [], false⟩
def pv0 : PV := ⟨[], [], 0, 0, 0, [], []⟩
/-- A new client. -/
theorem c_new (p : Nat) : ∃ g, CGd g p pc0 ∧ ∀ F : Heap, ∀ H0 w0 w, HW H0 w0 (⟨some p, cl [.slice none 0 0, .slice none 0 0, .int .i64 0, .int .i64 0, .int .i64 0, .int .u64 0, .slice none 0 0, .slice none 0 0, .bool false] 34⟩ :: F) w → HW H0 w0 (cH g ++ F) w := by
  refine ⟨⟨⟨p, ⟨none, 0, 0, [], [], none, 0, 0, [], []⟩, none, 0, [], none, 0, 0, [], []⟩, ⟨⟨[], [], 0, 0, 0⟩, 0, [], [], false⟩⟩, ⟨⟨⟨OwnS.empty 1, OwnS.empty 1⟩, Own.empty 2, OwnS.empty 3, fun r hr => by cases hr⟩, rfl, rfl⟩, fun F H0 w0 w h => ?_⟩
  have h1 := (((h.addNone 5).addNone 5).addNone 78).addNone 66
  exact h1.perm (pp1 _ _ _ _ _ F)
theorem s_new (p : Nat) : ∃ g, SGd g p pv0 ∧ ∀ F : Heap, ∀ H0 w0 w, HW H0 w0 (⟨some p, cl [.slice none 0 0, .slice none 0 0, .int .i64 0, .int .i64 0, .int .i64 0, .slice none 0 0, .slice none 0 0] 39⟩ :: F) w → HW H0 w0 (sH g ++ F) w := by
  refine ⟨⟨⟨p, ⟨none, 0, 0, [], [], none, 0, 0, [], []⟩, none, 0, [], none, 0, 0, [], []⟩, ⟨⟨[], [], 0, 0, 0⟩, [], []⟩⟩, ⟨⟨⟨OwnS.empty 1, OwnS.empty 1⟩, Own.empty 1, OwnS.empty 3, fun r hr => by cases hr⟩, rfl, rfl⟩, fun F H0 w0 w h => ?_⟩
  have h1 := (((h.addNone 5).addNone 5).addNone 3).addNone 60
  exact h1.perm (pp1 _ _ _ _ _ F)
end Go.Proofs.Ytdelhikejgoffaa
end
section
set_option linter.unusedVariables false
set_option maxRecDepth 20000
set_option maxHeartbeats 2000000
namespace Go.Proofs.Ytdelhikejgoffaa
theorem RdB.fr (b e : Nat) (fr : Nat × Nat) (tl : List Value) (l : Bs) : RdB (some ⟨b, 0, none⟩) ⟨some b, .cells (List.toArray (bvs l ++ tl)) e fr⟩ l := fun _ => ⟨b, 0, _, _, fr, rfl, rfl, fun j v hj => by rw [Nat.zero_add, List.getElem?_append_left (List.getElem?_eq_some_iff.1 hj).1]; exact hj⟩
theorem WL_turn {X : Ctx} {ops : Array Oper} {p : Post} {l : List Oper} {E : Env} {H F B : Heap} {a : Ent} (hx : ∀ F : Heap, ∀ H0 w0 w, HW H0 w0 (a :: F) w → HW H0 w0 (B ++ F) w) (q : Pull a H F) (k : WL X ops p l E (B ++ F)) : WL X ops p l E H :=
  fun a w ha hw => k a w ha (hx _ _ _ _ (hw.perm q.perm))
theorem dec_pair {α β : Type} [DecidableEq α] [DecidableEq β] (q : α × β) (a : α) (b : β) : decide (q = (a, b)) = (decide (q.1 = a) && decide (q.2 = b)) := by
  obtain ⟨x, y⟩ := q
  by_cases h1 : x = a <;> by_cases h2 : y = b <;> simp [h1, h2]
theorem byt_mk (l : Bs) : byt ⟨l.toArray⟩ = l := by simp [byt]
def PC.ends (x : PC) (id code : Int) (b : Bs) : Bool := match x.res with
  | [] => false
  | r :: _ => decide (r.id = id) && (decide (r.code = code) && decide (r.body = b))
def PV.asks (x : PV) (id : Int) (dl : Nat) (b : Bs) : Bool := match x.qu with
  | [] => false
  | r :: _ => decide (r.id = id) && (decide (r.dl = dl) && decide (r.body = b))
theorem calls_ok {g : CG} {p : Nat} {v : PC} (hg : CGd g p v) (hb : PCB v) (s : ByteArray) (dl : Nat) (hdl : dl ≤ 18446744073709551615) (want no : Int) : Spec Try.prog 6 [ptrC p, .string s, .int .u64 (dl : Int), .int .i64 want, .int .i64 no] (cH g) (fun r H' => ∃ g', CGd g' p (v.call (byt s) dl).1 ∧ r = .bool (decide ((v.call (byt s) dl).2 = (want, no))) ∧ H' = cH g') := by
  rw [dec_pair]
  refine Spec.of (E := [(0, ptrC p), (1, .string s), (2, .int .u64 (dl : Int)), (3, .int .i64 want), (4, .int .i64 no)]) Try.func6 rfl (by kernel_rfl) Try.ntmps6 rfl rfl (fun w => ?_)
  refine WC_seq ?_
  refine WC_region ?_
  refine WL_val rfl rfl rfl (R_assign rfl rfl) ?_
  refine WL_nil ?_
  refine WQ_code ?_
  refine WC_seq ?_
  refine WC_region ?_
  refine WL_val rfl rfl rfl (R_move rfl rfl) ?_
  refine WL_val rfl rfl rfl (R_move rfl rfl) ?_
  refine WL_do rfl rfl rfl (D_strByte rfl Try.underlying9 Try.underlying23 Try.underlying5 rfl) ?_
  rintro _ _ ⟨bB, cB, tB, fB, rfl, rfl⟩
  refine WL_val rfl rfl rfl (R_move rfl rfl) ?_
  refine WL_do rfl rfl rfl (D_call (k_call hg hb (RdB.fr bB _ fB tB (byt s)) dl hdl) rfl rfl rfl rfl (pqD)) ?_
  rintro _ _ ⟨_, ⟨g', hg', rfl, rfl⟩, rfl⟩
  refine WL_val rfl rfl rfl (R_move rfl rfl) ?_
  refine WL_val rfl rfl rfl (R_extract rfl rfl rfl) ?_
  refine WL_val rfl rfl rfl (R_extract rfl rfl rfl) ?_
  refine WL_val rfl rfl rfl (R_assign rfl rfl) ?_
  refine WL_val rfl rfl rfl (R_assign rfl rfl) ?_
  refine WL_nil ?_
  refine WQ_code ?_
  refine WC_seq ?_
  refine WC_region ?_
  refine WL_val rfl rfl rfl (R_move rfl rfl) ?_
  refine WL_val rfl rfl rfl (R_move rfl rfl) ?_
  refine WL_val rfl rfl rfl (R_eql rfl rfl rfl) ?_
  refine WL_val rfl rfl rfl (R_move rfl rfl) ?_
  refine WL_splitD (s := 24) rfl (fun c1 => ?_) (fun c1 => ?_)
  · have hc := c1
    refine WL_val rfl rfl rfl (R_move rfl rfl) ?_
    refine WL_val rfl rfl rfl (R_move rfl rfl) ?_
    refine WL_val rfl rfl rfl (R_eql rfl rfl rfl) ?_
    refine WL_val rfl rfl rfl (R_pickT rfl rfl rfl) ?_
    refine WL_val rfl rfl rfl (R_assign rfl rfl) ?_
    refine WL_nil ?_
    refine WQ_code ?_
    refine WC_ret ?_
    refine WQ_ret rfl rfl (.cons (.tmp rfl) .nil) rfl (by
        exact ⟨g', hg', congrArg Value.bool (by simp [hc]), rfl⟩) (pqD)
  · have hc := c1
    refine WL_skip rfl rfl rfl ?_
    refine WL_skip rfl rfl rfl ?_
    refine WL_skip rfl rfl rfl ?_
    refine WL_val rfl rfl rfl (R_pickF rfl rfl rfl) ?_
    refine WL_val rfl rfl rfl (R_assign rfl rfl) ?_
    refine WL_nil ?_
    refine WQ_code ?_
    refine WC_ret ?_
    refine WQ_ret rfl rfl (.cons (.tmp rfl) .nil) rfl (by
        exact ⟨g', hg', congrArg Value.bool (by simp [hc]), rfl⟩) (pqD)
theorem calls_nil (s : ByteArray) (d want no : Int) : Spec Try.prog 6 [.pointer none, .string s, .int .u64 d, .int .i64 want, .int .i64 no] [] (fun r H' => r = .bool (decide (((0 : Int), (1 : Int)) = (want, no))) ∧ H' = []) := by
  rw [dec_pair]
  refine Spec.of (E := [(0, .pointer none), (1, .string s), (2, .int .u64 d), (3, .int .i64 want), (4, .int .i64 no)]) Try.func6 rfl (by kernel_rfl) Try.ntmps6 rfl rfl (fun w => ?_)
  refine WC_seq ?_
  refine WC_region ?_
  refine WL_val rfl rfl rfl (R_assign rfl rfl) ?_
  refine WL_nil ?_
  refine WQ_code ?_
  refine WC_seq ?_
  refine WC_region ?_
  refine WL_val rfl rfl rfl (R_move rfl rfl) ?_
  refine WL_val rfl rfl rfl (R_move rfl rfl) ?_
  refine WL_do rfl rfl rfl (D_strByte rfl Try.underlying9 Try.underlying23 Try.underlying5 rfl) ?_
  rintro _ _ ⟨bB, cB, tB, fB, rfl, rfl⟩
  refine WL_val rfl rfl rfl (R_move rfl rfl) ?_
  refine WL_do rfl rfl rfl (D_call (call_nil _ _) rfl rfl rfl rfl (pqD)) ?_
  rintro _ _ ⟨_, ⟨rfl, rfl⟩, rfl⟩
  refine WL_val rfl rfl rfl (R_move rfl rfl) ?_
  refine WL_val rfl rfl rfl (R_extract rfl rfl rfl) ?_
  refine WL_val rfl rfl rfl (R_extract rfl rfl rfl) ?_
  refine WL_val rfl rfl rfl (R_assign rfl rfl) ?_
  refine WL_val rfl rfl rfl (R_assign rfl rfl) ?_
  refine WL_nil ?_
  refine WQ_code ?_
  refine WC_seq ?_
  refine WC_region ?_
  refine WL_val rfl rfl rfl (R_move rfl rfl) ?_
  refine WL_val rfl rfl rfl (R_move rfl rfl) ?_
  refine WL_val rfl rfl rfl (R_eql rfl rfl rfl) ?_
  refine WL_val rfl rfl rfl (R_move rfl rfl) ?_
  refine WL_splitD (s := 24) rfl (fun c1 => ?_) (fun c1 => ?_)
  · have hc := c1
    refine WL_val rfl rfl rfl (R_move rfl rfl) ?_
    refine WL_val rfl rfl rfl (R_move rfl rfl) ?_
    refine WL_val rfl rfl rfl (R_eql rfl rfl rfl) ?_
    refine WL_val rfl rfl rfl (R_pickT rfl rfl rfl) ?_
    refine WL_val rfl rfl rfl (R_assign rfl rfl) ?_
    refine WL_nil ?_
    refine WQ_code ?_
    refine WC_ret ?_
    refine WQ_ret rfl rfl (.cons (.tmp rfl) .nil) rfl (by
        exact ⟨congrArg Value.bool (by simp [hc]), rfl⟩) (pqD)
  · have hc := c1
    refine WL_skip rfl rfl rfl ?_
    refine WL_skip rfl rfl rfl ?_
    refine WL_skip rfl rfl rfl ?_
    refine WL_val rfl rfl rfl (R_pickF rfl rfl rfl) ?_
    refine WL_val rfl rfl rfl (R_assign rfl rfl) ?_
    refine WL_nil ?_
    refine WQ_code ?_
    refine WC_ret ?_
    refine WQ_ret rfl rfl (.cons (.tmp rfl) .nil) rfl (by
        exact ⟨congrArg Value.bool (by simp [hc]), rfl⟩) (pqD)
theorem up_ok {g : CG} {p : Nat} {v : PC} (hg : CGd g p v) (hb : PCB v) {g2 : SG} {p2 : Nat} {u : PV} (hg2 : SGd g2 p2 u) (hb2 : PVB u) : Spec Try.prog 7 [ptrC p, ptrC p2] (cH g ++ sH g2)
    (fun r H' => ∃ g' g2', CGd g' p { v with out := v.out.drop 65536 } ∧ SGd g2' p2 (u.recv (v.out.take 65536)).1 ∧ r = .bool (decide ((u.recv (v.out.take 65536)).2 = 0)) ∧ H' = cH g' ++ sH g2') := by
  refine Spec.of (E := [(0, ptrC p), (1, ptrC p2)]) Try.func7 rfl (by kernel_rfl) Try.ntmps7 rfl rfl (fun w => ?_)
  refine WC_seq ?_
  refine WC_region ?_
  refine WL_val rfl rfl rfl (R_assign rfl rfl) ?_
  refine WL_nil ?_
  refine WQ_code ?_
  refine WC_seq ?_
  refine WC_region ?_
  refine WL_val rfl rfl rfl (R_move rfl rfl) ?_
  refine WL_do rfl rfl rfl (D_call (k_out1 hg hb 65536 (by omega)) rfl rfl rfl rfl (pqD)) ?_
  rintro _ _ ⟨_, ⟨g', o9, c9, tl9, hg', own9, rfl, rfl⟩, rfl⟩
  refine WL_val rfl rfl rfl (R_move rfl rfl) ?_
  refine WL_val rfl rfl rfl (R_extract rfl rfl rfl) ?_
  refine WL_val rfl rfl rfl (R_extract rfl rfl rfl) ?_
  refine WL_val rfl rfl rfl (R_assign rfl rfl) ?_
  refine WL_val rfl rfl rfl (R_assign rfl rfl) ?_
  refine WL_nil ?_
  refine WQ_code ?_
  refine WC_seq ?_
  refine WC_region ?_
  refine WL_val rfl rfl rfl (R_move rfl rfl) ?_
  refine WL_val rfl rfl rfl (R_eql rfl rfl rfl) ?_
  refine WL_set (s := 13) (v := .bool true) rfl (by rfl) ?_
  refine WL_val rfl rfl rfl (R_move rfl rfl) ?_
  refine WL_val rfl rfl rfl (R_move rfl rfl) ?_
  refine WL_val rfl rfl rfl (R_move rfl rfl) ?_
  refine WL_do rfl rfl rfl (D_call (s_recv hg2 hb2 (RdB.own own9) (by simp; omega)) rfl rfl rfl rfl (pqD)) ?_
  rintro _ _ ⟨_, ⟨g2', hg2', rfl, rfl⟩, rfl⟩
  refine WL_val rfl rfl rfl (R_eql rfl rfl rfl) ?_
  refine WL_val rfl rfl rfl (R_pickT rfl rfl rfl) ?_
  refine WL_val rfl rfl rfl (R_assign rfl rfl) ?_
  refine WL_nil ?_
  refine WQ_code ?_
  refine WC_ret ?_
  refine WQ_ret rfl rfl (.cons (.tmp rfl) .nil) rfl (by
      exact ⟨g', g2', hg', hg2', rfl, rfl⟩) (pqD)
theorem down_ok {g : CG} {p : Nat} {v : PC} (hg : CGd g p v) (hb : PCB v) {g2 : SG} {p2 : Nat} {u : PV} (hg2 : SGd g2 p2 u) (hb2 : PVB u) : Spec Try.prog 11 [ptrC p2, ptrC p] (cH g ++ sH g2)
    (fun r H' => ∃ g' g2', SGd g2' p2 { u with out := u.out.drop 65536 } ∧ CGd g' p (v.recv (u.out.take 65536)).1 ∧ r = .bool (decide ((v.recv (u.out.take 65536)).2 = 0)) ∧ H' = cH g' ++ sH g2') := by
  refine Spec.of (E := [(0, ptrC p2), (1, ptrC p)]) Try.func11 rfl (by kernel_rfl) Try.ntmps11 rfl rfl (fun w => ?_)
  refine WC_seq ?_
  refine WC_region ?_
  refine WL_val rfl rfl rfl (R_assign rfl rfl) ?_
  refine WL_nil ?_
  refine WQ_code ?_
  refine WC_seq ?_
  refine WC_region ?_
  refine WL_val rfl rfl rfl (R_move rfl rfl) ?_
  refine WL_do rfl rfl rfl (D_call (s_out1 hg2 hb2 65536 (by omega)) rfl rfl rfl rfl (pqD)) ?_
  rintro _ _ ⟨_, ⟨g2', o9, c9, tl9, hg2', own9, rfl, rfl⟩, rfl⟩
  refine WL_val rfl rfl rfl (R_move rfl rfl) ?_
  refine WL_val rfl rfl rfl (R_extract rfl rfl rfl) ?_
  refine WL_val rfl rfl rfl (R_extract rfl rfl rfl) ?_
  refine WL_val rfl rfl rfl (R_assign rfl rfl) ?_
  refine WL_val rfl rfl rfl (R_assign rfl rfl) ?_
  refine WL_nil ?_
  refine WQ_code ?_
  refine WC_seq ?_
  refine WC_region ?_
  refine WL_val rfl rfl rfl (R_move rfl rfl) ?_
  refine WL_val rfl rfl rfl (R_eql rfl rfl rfl) ?_
  refine WL_set (s := 13) (v := .bool true) rfl (by rfl) ?_
  refine WL_val rfl rfl rfl (R_move rfl rfl) ?_
  refine WL_val rfl rfl rfl (R_move rfl rfl) ?_
  refine WL_val rfl rfl rfl (R_move rfl rfl) ?_
  refine WL_do rfl rfl rfl (D_call (k_recv hg hb (RdB.own own9) (by simp; omega)) rfl rfl rfl rfl (pqD)) ?_
  rintro _ _ ⟨_, ⟨g', hg', rfl, rfl⟩, rfl⟩
  refine WL_val rfl rfl rfl (R_eql rfl rfl rfl) ?_
  refine WL_val rfl rfl rfl (R_pickT rfl rfl rfl) ?_
  refine WL_val rfl rfl rfl (R_assign rfl rfl) ?_
  refine WL_nil ?_
  refine WQ_code ?_
  refine WC_ret ?_
  refine WQ_ret rfl rfl (.cons (.tmp rfl) .nil) rfl (by
      exact ⟨g', g2', hg2', hg', rfl, rfl⟩) (pqD)
theorem ends_ok {g : CG} {p : Nat} {v : PC} (hg : CGd g p v) (hb : PCB v) (id code : Int) (s : ByteArray) (hbody : ∀ r ∈ v.res, r.body.length ≤ 1000000) : Spec Try.prog 10 [ptrC p, .int .i64 id, .int .i64 code, .string s] (cH g) (fun r H' => ∃ g', CGd g' p v.next.1 ∧ r = .bool (v.ends id code (byt s)) ∧ H' = cH g') := by
  cases he : v.res with
  | nil =>
    rw [show v.next.1 = v from by unfold PC.next; rw [he], show v.ends id code (byt s) = false from by unfold PC.ends; rw [he]]
    refine Spec.of (E := [(0, ptrC p), (1, .int .i64 id), (2, .int .i64 code), (3, .string s)]) Try.func10 rfl (by kernel_rfl) Try.ntmps10 rfl rfl (fun w => ?_)
    refine WC_seq ?_
    refine WC_region ?_
    refine WL_val rfl rfl rfl (R_assign rfl rfl) ?_
    refine WL_nil ?_
    refine WQ_code ?_
    refine WC_seq ?_
    refine WC_region ?_
    refine WL_val rfl rfl rfl (R_move rfl rfl) ?_
    refine WL_do rfl rfl rfl (D_call (k_next0 hg hb he) rfl rfl rfl rfl (pqD)) ?_
    rintro _ _ ⟨_, ⟨g', hg', rfl, rfl⟩, rfl⟩
    refine WL_val rfl rfl rfl (R_move rfl rfl) ?_
    refine WL_val rfl rfl rfl (R_extract rfl rfl rfl) ?_
    refine WL_val rfl rfl rfl (R_extract rfl rfl rfl) ?_
    refine WL_do rfl rfl rfl (D_alloc rfl zv66) ?_
    rintro _ _ ⟨b1, rfl, rfl⟩
    refine WL_do0 rfl rfl (D_store (vs := [_, _, _]) rfl Try.sizeOf66 rfl rfl rfl rfl rfl (plD) (by exact Nat.le_of_ble_eq_true rfl)) ?_
    rintro _ _ rfl
    refine WL_val rfl rfl rfl (R_assign rfl rfl) ?_
    refine WL_nil ?_
    refine WQ_code ?_
    refine WC_seq ?_
    refine WC_region ?_
    refine WL_val rfl rfl rfl (R_move rfl rfl) ?_
    refine WL_val rfl rfl rfl (R_move rfl rfl) ?_
    refine WL_skip rfl rfl rfl ?_
    refine WL_skip rfl rfl rfl ?_
    refine WL_skip rfl rfl rfl ?_
    refine WL_skip rfl rfl rfl ?_
    refine WL_val rfl rfl rfl (R_pickF rfl rfl rfl) ?_
    refine WL_val rfl rfl rfl (R_move rfl rfl) ?_
    refine WL_skip rfl rfl rfl ?_
    refine WL_skip rfl rfl rfl ?_
    refine WL_skip rfl rfl rfl ?_
    refine WL_skip rfl rfl rfl ?_
    refine WL_val rfl rfl rfl (R_pickF rfl rfl rfl) ?_
    refine WL_val rfl rfl rfl (R_move rfl rfl) ?_
    refine WL_skip rfl rfl rfl ?_
    refine WL_skip rfl rfl rfl ?_
    refine WL_skip rfl rfl rfl ?_
    refine WL_skip rfl rfl rfl ?_
    refine WL_skip rfl rfl rfl ?_
    refine WL_val rfl rfl rfl (R_pickF rfl rfl rfl) ?_
    refine WL_val rfl rfl rfl (R_assign rfl rfl) ?_
    refine WL_nil ?_
    refine WQ_code ?_
    refine WC_ret ?_
    refine WQ_ret rfl rfl (.cons (.tmp rfl) .nil) rfl (by
        exact ⟨g', hg', rfl, rfl⟩) (pqD)
  | cons rr rest =>
    rw [show v.next.1 = { v with res := rest } from by unfold PC.next; rw [he], show v.ends id code (byt s) = (decide (rr.id = id) && (decide (rr.code = code) && decide (rr.body = byt s))) from by unfold PC.ends; rw [he]]
    refine Spec.of (E := [(0, ptrC p), (1, .int .i64 id), (2, .int .i64 code), (3, .string s)]) Try.func10 rfl (by kernel_rfl) Try.ntmps10 rfl rfl (fun w => ?_)
    refine WC_seq ?_
    refine WC_region ?_
    refine WL_val rfl rfl rfl (R_assign rfl rfl) ?_
    refine WL_nil ?_
    refine WQ_code ?_
    refine WC_seq ?_
    refine WC_region ?_
    refine WL_val rfl rfl rfl (R_move rfl rfl) ?_
    refine WL_do rfl rfl rfl (D_call (k_next1 hg hb he) rfl rfl rfl rfl (pqD)) ?_
    rintro _ _ ⟨_, ⟨g', o9, c9, tl9, hg', own9, rfl, rfl⟩, rfl⟩
    refine WL_val rfl rfl rfl (R_move rfl rfl) ?_
    refine WL_val rfl rfl rfl (R_extract rfl rfl rfl) ?_
    refine WL_val rfl rfl rfl (R_extract rfl rfl rfl) ?_
    refine WL_do rfl rfl rfl (D_alloc rfl zv66) ?_
    rintro _ _ ⟨b1, rfl, rfl⟩
    refine WL_do0 rfl rfl (D_store (vs := [_, _, _]) rfl Try.sizeOf66 rfl rfl rfl rfl rfl (plD) (by exact Nat.le_of_ble_eq_true rfl)) ?_
    rintro _ _ rfl
    refine WL_val rfl rfl rfl (R_assign rfl rfl) ?_
    refine WL_nil ?_
    refine WQ_code ?_
    refine WC_seq ?_
    refine WC_region ?_
    refine WL_val rfl rfl rfl (R_move rfl rfl) ?_
    refine WL_val rfl rfl rfl (R_move rfl rfl) ?_
    refine WL_val rfl rfl rfl (R_fieldAddr rfl fa66_0 rfl) ?_
    refine WL_val rfl rfl rfl (R_load rfl sc3 rfl (mmD) rfl) ?_
    refine WL_val rfl rfl rfl (R_move rfl rfl) ?_
    refine WL_val rfl rfl rfl (R_eql rfl rfl rfl) ?_
    refine WL_val rfl rfl rfl (R_pickT rfl rfl rfl) ?_
    refine WL_val rfl rfl rfl (R_move rfl rfl) ?_
    refine WL_splitD (s := 23) rfl (fun c1 => ?_) (fun c1 => ?_)
    · have hc1 := c1
      refine WL_val rfl rfl rfl (R_fieldAddr rfl fa66_1 rfl) ?_
      refine WL_val rfl rfl rfl (R_load rfl sc24 rfl (mmD) rfl) ?_
      refine WL_val rfl rfl rfl (R_move rfl rfl) ?_
      refine WL_val rfl rfl rfl (R_eql rfl rfl rfl) ?_
      refine WL_val rfl rfl rfl (R_pickT rfl rfl rfl) ?_
      refine WL_val rfl rfl rfl (R_move rfl rfl) ?_
      refine WL_splitD (s := 29) rfl (fun c2 => ?_) (fun c2 => ?_)
      · have hc2 := c2
        refine WL_val rfl rfl rfl (R_fieldAddr rfl fa66_2 rfl) ?_
        refine WL_val rfl rfl rfl (R_load rfl sc23 rfl (mmD) rfl) ?_
        refine WL_val rfl rfl rfl (R_byteStr rfl Try.underlying23 Try.underlying5 Try.underlying9 rfl (RdB.own own9) mmD) ?_
        refine WL_val rfl rfl rfl (R_move rfl rfl) ?_
        refine WL_val rfl rfl rfl (R_strEq rfl Try.underlying9 rfl rfl) ?_
        refine WL_val rfl rfl rfl (R_pickT rfl rfl rfl) ?_
        refine WL_val rfl rfl rfl (R_assign rfl rfl) ?_
        refine WL_nil ?_
        refine WQ_code ?_
        refine WC_ret ?_
        refine WQ_ret rfl rfl (.cons (.tmp rfl) .nil) rfl (by
            exact ⟨g', hg', congrArg Value.bool (by simp [byt_mk, *]), rfl⟩) (pqD)
      · have hc2 := c2
        refine WL_skip rfl rfl rfl ?_
        refine WL_skip rfl rfl rfl ?_
        refine WL_skip rfl rfl rfl ?_
        refine WL_skip rfl rfl rfl ?_
        refine WL_skip rfl rfl rfl ?_
        refine WL_val rfl rfl rfl (R_pickF rfl rfl rfl) ?_
        refine WL_val rfl rfl rfl (R_assign rfl rfl) ?_
        refine WL_nil ?_
        refine WQ_code ?_
        refine WC_ret ?_
        refine WQ_ret rfl rfl (.cons (.tmp rfl) .nil) rfl (by
            exact ⟨g', hg', congrArg Value.bool (by simp [*]), rfl⟩) (pqD)
    · have hc1 := c1
      refine WL_skip rfl rfl rfl ?_
      refine WL_skip rfl rfl rfl ?_
      refine WL_skip rfl rfl rfl ?_
      refine WL_skip rfl rfl rfl ?_
      refine WL_val rfl rfl rfl (R_pickF rfl rfl rfl) ?_
      refine WL_val rfl rfl rfl (R_move rfl rfl) ?_
      refine WL_skip rfl rfl rfl ?_
      refine WL_skip rfl rfl rfl ?_
      refine WL_skip rfl rfl rfl ?_
      refine WL_skip rfl rfl rfl ?_
      refine WL_skip rfl rfl rfl ?_
      refine WL_val rfl rfl rfl (R_pickF rfl rfl rfl) ?_
      refine WL_val rfl rfl rfl (R_assign rfl rfl) ?_
      refine WL_nil ?_
      refine WQ_code ?_
      refine WC_ret ?_
      refine WQ_ret rfl rfl (.cons (.tmp rfl) .nil) rfl (by
          exact ⟨g', hg', congrArg Value.bool (by simp [*]), rfl⟩) (pqD)
theorem asks_ok {g : SG} {p : Nat} {u : PV} (hg : SGd g p u) (hb : PVB u) (id : Int) (dl : Nat) (s : ByteArray) : Spec Try.prog 33 [ptrC p, .int .i64 id, .int .u64 (dl : Int), .string s] (sH g) (fun r H' => ∃ g', SGd g' p u.next.1 ∧ r = .bool (u.asks id dl (byt s)) ∧ H' = sH g') := by
  cases he : u.qu with
  | nil =>
    rw [show u.next.1 = u from by unfold PV.next; rw [he], show u.asks id dl (byt s) = false from by unfold PV.asks; rw [he]]
    refine Spec.of (E := [(0, ptrC p), (1, .int .i64 id), (2, .int .u64 (dl : Int)), (3, .string s)]) Try.func33 rfl (by kernel_rfl) Try.ntmps33 rfl rfl (fun w => ?_)
    refine WC_seq ?_
    refine WC_region ?_
    refine WL_val rfl rfl rfl (R_assign rfl rfl) ?_
    refine WL_nil ?_
    refine WQ_code ?_
    refine WC_seq ?_
    refine WC_region ?_
    refine WL_val rfl rfl rfl (R_move rfl rfl) ?_
    refine WL_do rfl rfl rfl (D_call (s_next0 hg hb he) rfl rfl rfl rfl (pqD)) ?_
    rintro _ _ ⟨_, ⟨g', hg', rfl, rfl⟩, rfl⟩
    refine WL_val rfl rfl rfl (R_move rfl rfl) ?_
    refine WL_val rfl rfl rfl (R_extract rfl rfl rfl) ?_
    refine WL_val rfl rfl rfl (R_extract rfl rfl rfl) ?_
    refine WL_do rfl rfl rfl (D_alloc rfl zv60) ?_
    rintro _ _ ⟨b1, rfl, rfl⟩
    refine WL_do0 rfl rfl (D_store (vs := [_, _, _]) rfl Try.sizeOf60 rfl rfl rfl rfl rfl (plD) (by exact Nat.le_of_ble_eq_true rfl)) ?_
    rintro _ _ rfl
    refine WL_val rfl rfl rfl (R_assign rfl rfl) ?_
    refine WL_nil ?_
    refine WQ_code ?_
    refine WC_seq ?_
    refine WC_region ?_
    refine WL_val rfl rfl rfl (R_move rfl rfl) ?_
    refine WL_val rfl rfl rfl (R_move rfl rfl) ?_
    refine WL_skip rfl rfl rfl ?_
    refine WL_skip rfl rfl rfl ?_
    refine WL_skip rfl rfl rfl ?_
    refine WL_skip rfl rfl rfl ?_
    refine WL_val rfl rfl rfl (R_pickF rfl rfl rfl) ?_
    refine WL_val rfl rfl rfl (R_move rfl rfl) ?_
    refine WL_skip rfl rfl rfl ?_
    refine WL_skip rfl rfl rfl ?_
    refine WL_skip rfl rfl rfl ?_
    refine WL_skip rfl rfl rfl ?_
    refine WL_val rfl rfl rfl (R_pickF rfl rfl rfl) ?_
    refine WL_val rfl rfl rfl (R_move rfl rfl) ?_
    refine WL_skip rfl rfl rfl ?_
    refine WL_skip rfl rfl rfl ?_
    refine WL_skip rfl rfl rfl ?_
    refine WL_skip rfl rfl rfl ?_
    refine WL_skip rfl rfl rfl ?_
    refine WL_val rfl rfl rfl (R_pickF rfl rfl rfl) ?_
    refine WL_val rfl rfl rfl (R_assign rfl rfl) ?_
    refine WL_nil ?_
    refine WQ_code ?_
    refine WC_ret ?_
    refine WQ_ret rfl rfl (.cons (.tmp rfl) .nil) rfl (by
        exact ⟨g', hg', rfl, rfl⟩) (pqD)
  | cons rr rest =>
    rw [show u.next.1 = { u with qu := rest } from by unfold PV.next; rw [he], show u.asks id dl (byt s) = (decide (rr.id = id) && (decide (rr.dl = dl) && decide (rr.body = byt s))) from by unfold PV.asks; rw [he]]
    refine Spec.of (E := [(0, ptrC p), (1, .int .i64 id), (2, .int .u64 (dl : Int)), (3, .string s)]) Try.func33 rfl (by kernel_rfl) Try.ntmps33 rfl rfl (fun w => ?_)
    refine WC_seq ?_
    refine WC_region ?_
    refine WL_val rfl rfl rfl (R_assign rfl rfl) ?_
    refine WL_nil ?_
    refine WQ_code ?_
    refine WC_seq ?_
    refine WC_region ?_
    refine WL_val rfl rfl rfl (R_move rfl rfl) ?_
    refine WL_do rfl rfl rfl (D_call (s_next1 hg hb he) rfl rfl rfl rfl (pqD)) ?_
    rintro _ _ ⟨_, ⟨g', o9, c9, tl9, hg', own9, rfl, rfl⟩, rfl⟩
    refine WL_val rfl rfl rfl (R_move rfl rfl) ?_
    refine WL_val rfl rfl rfl (R_extract rfl rfl rfl) ?_
    refine WL_val rfl rfl rfl (R_extract rfl rfl rfl) ?_
    refine WL_do rfl rfl rfl (D_alloc rfl zv60) ?_
    rintro _ _ ⟨b1, rfl, rfl⟩
    refine WL_do0 rfl rfl (D_store (vs := [_, _, _]) rfl Try.sizeOf60 rfl rfl rfl rfl rfl (plD) (by exact Nat.le_of_ble_eq_true rfl)) ?_
    rintro _ _ rfl
    refine WL_val rfl rfl rfl (R_assign rfl rfl) ?_
    refine WL_nil ?_
    refine WQ_code ?_
    refine WC_seq ?_
    refine WC_region ?_
    refine WL_val rfl rfl rfl (R_move rfl rfl) ?_
    refine WL_val rfl rfl rfl (R_move rfl rfl) ?_
    refine WL_val rfl rfl rfl (R_fieldAddr rfl fa60_0 rfl) ?_
    refine WL_val rfl rfl rfl (R_load rfl sc3 rfl (mmD) rfl) ?_
    refine WL_val rfl rfl rfl (R_move rfl rfl) ?_
    refine WL_val rfl rfl rfl (R_eql rfl rfl rfl) ?_
    refine WL_val rfl rfl rfl (R_pickT rfl rfl rfl) ?_
    refine WL_val rfl rfl rfl (R_move rfl rfl) ?_
    refine WL_splitD (s := 23) rfl (fun c1 => ?_) (fun c1 => ?_)
    · have hc1 := c1
      refine WL_val rfl rfl rfl (R_fieldAddr rfl fa60_1 rfl) ?_
      refine WL_val rfl rfl rfl (R_load rfl sc30 rfl (mmD) rfl) ?_
      refine WL_val rfl rfl rfl (R_move rfl rfl) ?_
      refine WL_val rfl rfl rfl (R_eql rfl rfl rfl) ?_
      refine WL_val rfl rfl rfl (R_pickT rfl rfl rfl) ?_
      refine WL_val rfl rfl rfl (R_move rfl rfl) ?_
      refine WL_splitD (s := 29) rfl (fun c2 => ?_) (fun c2 => ?_)
      · have hc2 : rr.dl = dl := by have := c2; omega
        refine WL_val rfl rfl rfl (R_fieldAddr rfl fa60_2 rfl) ?_
        refine WL_val rfl rfl rfl (R_load rfl sc23 rfl (mmD) rfl) ?_
        refine WL_val rfl rfl rfl (R_byteStr rfl Try.underlying23 Try.underlying5 Try.underlying9 rfl (RdB.own own9) mmD) ?_
        refine WL_val rfl rfl rfl (R_move rfl rfl) ?_
        refine WL_val rfl rfl rfl (R_strEq rfl Try.underlying9 rfl rfl) ?_
        refine WL_val rfl rfl rfl (R_pickT rfl rfl rfl) ?_
        refine WL_val rfl rfl rfl (R_assign rfl rfl) ?_
        refine WL_nil ?_
        refine WQ_code ?_
        refine WC_ret ?_
        refine WQ_ret rfl rfl (.cons (.tmp rfl) .nil) rfl (by
            exact ⟨g', hg', congrArg Value.bool (by simp [byt_mk, *]), rfl⟩) (pqD)
      · have hc2 : ¬ rr.dl = dl := by have := c2; omega
        refine WL_skip rfl rfl rfl ?_
        refine WL_skip rfl rfl rfl ?_
        refine WL_skip rfl rfl rfl ?_
        refine WL_skip rfl rfl rfl ?_
        refine WL_skip rfl rfl rfl ?_
        refine WL_val rfl rfl rfl (R_pickF rfl rfl rfl) ?_
        refine WL_val rfl rfl rfl (R_assign rfl rfl) ?_
        refine WL_nil ?_
        refine WQ_code ?_
        refine WC_ret ?_
        refine WQ_ret rfl rfl (.cons (.tmp rfl) .nil) rfl (by
            exact ⟨g', hg', congrArg Value.bool (by simp [*]), rfl⟩) (pqD)
    · have hc1 := c1
      refine WL_skip rfl rfl rfl ?_
      refine WL_skip rfl rfl rfl ?_
      refine WL_skip rfl rfl rfl ?_
      refine WL_skip rfl rfl rfl ?_
      refine WL_val rfl rfl rfl (R_pickF rfl rfl rfl) ?_
      refine WL_val rfl rfl rfl (R_move rfl rfl) ?_
      refine WL_skip rfl rfl rfl ?_
      refine WL_skip rfl rfl rfl ?_
      refine WL_skip rfl rfl rfl ?_
      refine WL_skip rfl rfl rfl ?_
      refine WL_skip rfl rfl rfl ?_
      refine WL_val rfl rfl rfl (R_pickF rfl rfl rfl) ?_
      refine WL_val rfl rfl rfl (R_assign rfl rfl) ?_
      refine WL_nil ?_
      refine WQ_code ?_
      refine WC_ret ?_
      refine WQ_ret rfl rfl (.cons (.tmp rfl) .nil) rfl (by
          exact ⟨g', hg', congrArg Value.bool (by simp [*]), rfl⟩) (pqD)
end Go.Proofs.Ytdelhikejgoffaa
end
section
set_option linter.unusedVariables false
set_option maxRecDepth 20000
namespace Go.Proofs.Ytdelhikejgoffaa
open Go.ChangeShapes Go.WideShapes Go.ChangeAt Go.RowKit Go.Joins Go.Deep
theorem decB {H : Type} {enc : TypeId × Value → H} {W : World} {sp : Nat → Bool} {held : Bool} (m : Nat) (cs : List Value) (y : DataW H × List MemPlace) (h : DataW.trod enc Try.prog W 0 sp held m 5 cs = some y) : ∃ x : UInt8, cs = encY x ∧ True := by
  obtain ⟨n, rfl, _, w⟩ := DataW.trod_int Try.underlying5 h
  obtain ⟨k, rfl, hk⟩ := wf_u8 w
  exact ⟨UInt8.ofNat k, by show [Value.int .u8 (k : Int)] = [Value.int .u8 ((UInt8.ofNat k).toNat : Int)]; rw [UInt8.toNat_ofNat', Nat.mod_eq_of_lt hk], trivial⟩
theorem RdB.arg {oa : Option Addr} {x : Ent} {l : Bs} (h : Arg oa x 1 encY l) : RdB oa x l := fun hl => by
  rcases h with ⟨h, _⟩ | ⟨b, k, cs, e, fr, h1, h2, h3⟩
  · rw [h] at hl; exact absurd hl (by simp)
  · refine ⟨b, k, cs, e, fr, h1, h2, fun j v hj => ?_⟩
    have hlt := (List.getElem?_eq_some_iff.1 hj).1
    rw [bvs_len] at hlt
    obtain ⟨y, hy⟩ : ∃ y, l[j]? = some y := ⟨_, List.getElem?_eq_getElem hlt⟩
    rw [bvs_get hy] at hj
    have := h3 j y hy 0 v (by simpa using hj)
    rwa [Nat.mul_one, Nat.add_zero] at this
theorem decA {H : Type} {enc : TypeId × Value → H} {W : World} {sp : Nat → Bool} {held : Bool} (m : Nat) (cs : List Value) (y : DataW H × List MemPlace) (h : DataW.trod enc Try.prog W 0 sp held m 71 cs = some y) :
    ∃ (x0 : Int) (x1 : Int) (x2 : Int) (x3 : Int) (oa4 : Option Addr) (en4 : Ent) (l4 : List UInt8) (c4 : Nat), cs = [.int .i64 x0, .int .i64 x1, .int .i64 x2, .int .u64 x3, .slice oa4 l4.length c4] ∧ (Lit.int .i64 x0).wf = true ∧ (Lit.int .i64 x1).wf = true ∧ (Lit.int .i64 x2).wf = true ∧ (Lit.int .u64 x3).wf = true ∧ Arg oa4 en4 1 encY l4 ∧ en4.ok W ∧ l4.length ≤ maxLen ∧ (∀ y ∈ l4, (fun _ => True) y) ∧ True := by
  have hl : cs.length = 5 := (trod_len Try.underlying71 h).trans (by kernel_rfl)
  have s3 : Try.prog.cellsOf 3 = 1 := by kernel_rfl
  have s23 : Try.prog.cellsOf 23 = 1 := by kernel_rfl
  have s30 : Try.prog.cellsOf 30 = 1 := by kernel_rfl
  obtain ⟨ng0, yg0, g0⟩ := trod_fld Try.underlying71 h (i := 0) rfl
  obtain ⟨x0, e0, _, w0⟩ := DataW.trod_int Try.underlying3 g0
  have e0 : (cs.drop 0).take (Try.prog.cellsOf 3) = [.int .i64 x0] := e0
  simp only [s3] at e0
  have k0 : cs.drop 0 = .int .i64 x0 :: cs.drop 1 := drop_cons e0
  obtain ⟨ng1, yg1, g1⟩ := trod_fld Try.underlying71 h (i := 1) rfl
  obtain ⟨x1, e1, _, w1⟩ := DataW.trod_int Try.underlying3 g1
  have e1 : (cs.drop 1).take (Try.prog.cellsOf 3) = [.int .i64 x1] := e1
  simp only [s3] at e1
  have k1 : cs.drop 1 = .int .i64 x1 :: cs.drop 2 := drop_cons e1
  obtain ⟨ng2, yg2, g2⟩ := trod_fld Try.underlying71 h (i := 2) rfl
  obtain ⟨x2, e2, _, w2⟩ := DataW.trod_int Try.underlying3 g2
  have e2 : (cs.drop 2).take (Try.prog.cellsOf 3) = [.int .i64 x2] := e2
  simp only [s3] at e2
  have k2 : cs.drop 2 = .int .i64 x2 :: cs.drop 3 := drop_cons e2
  obtain ⟨ng3, yg3, g3⟩ := trod_fld Try.underlying71 h (i := 3) rfl
  obtain ⟨x3, e3, _, w3⟩ := DataW.trod_int Try.underlying30 g3
  have e3 : (cs.drop 3).take (Try.prog.cellsOf 30) = [.int .u64 x3] := e3
  simp only [s30] at e3
  have k3 : cs.drop 3 = .int .u64 x3 :: cs.drop 4 := drop_cons e3
  obtain ⟨ng4, yg4, g4⟩ := trod_fld Try.underlying71 h (i := 4) rfl
  obtain ⟨oa4, en4, l4, c4, e4, ha4, ho4, hb4, hg4⟩ := open_argT (enc' := encY) (G := fun _ => True) (sz := 1) Try.underlying23 (by kernel_rfl) (by omega) (fun m cs y h => decB m cs y h) g4
  have e4 : (cs.drop 4).take (Try.prog.cellsOf 23) = [.slice oa4 l4.length c4] := e4
  simp only [s23] at e4
  have k4 : cs.drop 4 = .slice oa4 l4.length c4 :: cs.drop 5 := drop_cons e4
  exact ⟨x0, x1, x2, x3, oa4, en4, l4, c4, (List.drop_zero (l := cs)).symm.trans (k0.trans (congrArg (List.cons _) (k1.trans (congrArg (List.cons _) (k2.trans (congrArg (List.cons _) (k3.trans (congrArg (List.cons _) (k4.trans (congrArg (List.cons _) (List.drop_eq_nil_of_le (by omega)))))))))))), w0, w1, w2, w3, ha4, ho4, hb4, hg4, trivial⟩
end Go.Proofs.Ytdelhikejgoffaa
end
section
set_option linter.unusedVariables false
set_option maxRecDepth 20000
set_option maxHeartbeats 2000000
namespace Go.Proofs.Ytdelhikejgoffaa
def pcbB (x : PC) : Bool := decide (x.out.length ≤ 200000) && (decide (x.bs.length ≤ 65536) && (decide (x.last ≤ 1000000) && (decide (x.calls.length ≤ 32) && (decide (x.calls.length + x.res.length ≤ 100000) && (decide (x.now ≤ 18446744073709551615) && (x.calls.all (fun c => decide (c.dl ≤ 18446744073709551615) && decide (c.id ≤ 1000000)) && (decide (x.br ≠ 0) || decide (x.rb = 0))))))))
theorem PCB.of {x : PC} (h : pcbB x = true) : PCB x := by
  simp only [pcbB, Bool.and_eq_true, decide_eq_true_eq, List.all_eq_true, Bool.or_eq_true] at h
  obtain ⟨h1, h2, h3, h4, h5, h6, h7, h8⟩ := h
  exact ⟨h1, h2, h3, h4, h5, h6, fun c hc => (h7 c hc).1, fun c hc => (h7 c hc).2, fun e => h8.resolve_left (fun n => n e)⟩
def pvbB (x : PV) : Bool := decide (x.out.length ≤ 200000) && (decide (x.bs.length ≤ 65536) && (decide (x.last < 4294967296) && (decide (x.opn.length ≤ 32) && (decide (x.qu.length ≤ 200000) && (x.opn.all (fun i => decide (0 ≤ i) && decide (i < 4294967296)) && (decide (x.br ≠ 0) || decide (x.rb = 0)))))))
theorem PVB.of {x : PV} (h : pvbB x = true) : PVB x := by
  simp only [pvbB, Bool.and_eq_true, decide_eq_true_eq, List.all_eq_true, Bool.or_eq_true] at h
  obtain ⟨h1, h2, h3, h4, h5, h6, h8⟩ := h
  exact ⟨h1, h2, h3, h4, h5, h6, fun e => h8.resolve_left (fun n => n e)⟩
theorem pc0b : PCB pc0 := PCB.of (by kernel_rfl)
theorem pv0b : PVB pv0 := PVB.of (by kernel_rfl)
theorem RdB.cst (b : Nat) (l : Bs) {fr : Nat × Nat} : RdB (some ⟨b, 0, none⟩) ⟨some b, .cells (List.toArray (bvs l)) 5 fr⟩ l := fun _ => ⟨b, 0, _, _, fr, rfl, rfl, fun j v hj => by rw [Nat.zero_add]; exact hj⟩
theorem kf1 : (pc0.call [97, 98] 10).2 = (1, 0) := by kernel_rfl
def kc1 : PC := (pc0.call [97, 98] 10).1
theorem kc1b : PCB kc1 := PCB.of (by kernel_rfl)
theorem kf2 : (kc1.call [] 5).2 = (2, 0) := by kernel_rfl
def kc2 : PC := (kc1.call [] 5).1
theorem kc2b : PCB kc2 := PCB.of (by kernel_rfl)
theorem kf3 : (kc2.call [120] 0).2 = (0, 2) := by kernel_rfl
def kc3 : PC := (kc2.call [120] 0).1
theorem kc3b : PCB kc3 := PCB.of (by kernel_rfl)
theorem kf4 : (pv0.recv (kc3.out.take 65536)).2 = 0 := by kernel_rfl
def ks1 : PV := (pv0.recv (kc3.out.take 65536)).1
theorem ks1b : PVB ks1 := PVB.of (by kernel_rfl)
def kc4 : PC := { kc3 with out := kc3.out.drop 65536 }
theorem kc4b : PCB kc4 := PCB.of (by kernel_rfl)
theorem kf5 : ks1.asks 1 10 [97, 98] = true := by kernel_rfl
def ks2 : PV := ks1.next.1
theorem ks2b : PVB ks2 := PVB.of (by kernel_rfl)
theorem kf6 : ks2.asks 2 5 [] = true := by kernel_rfl
def ks3 : PV := ks2.next.1
theorem ks3b : PVB ks3 := PVB.of (by kernel_rfl)
theorem kf7 : (ks3.reply 1 0 [121, 101, 115]).2 = 0 := by kernel_rfl
def ks4 : PV := (ks3.reply 1 0 [121, 101, 115]).1
theorem ks4b : PVB ks4 := PVB.of (by kernel_rfl)
theorem kf8 : (kc4.recv (ks4.out.take 65536)).2 = 0 := by kernel_rfl
def kc5 : PC := (kc4.recv (ks4.out.take 65536)).1
theorem kc5b : PCB kc5 := PCB.of (by kernel_rfl)
def ks5 : PV := { ks4 with out := ks4.out.drop 65536 }
theorem ks5b : PVB ks5 := PVB.of (by kernel_rfl)
theorem kf9 : kc5.ends 1 0 [121, 101, 115] = true := by kernel_rfl
theorem kf10 : kc5.res.all (fun r => decide (r.body.length ≤ 1000000)) = true := by kernel_rfl
def kc6 : PC := kc5.next.1
theorem kc6b : PCB kc6 := PCB.of (by kernel_rfl)
theorem kf11 : (ks5.reply 1 0 [110, 111]).2 = 9 := by kernel_rfl
def ks6 : PV := (ks5.reply 1 0 [110, 111]).1
theorem ks6b : PVB ks6 := PVB.of (by kernel_rfl)
theorem kf12 : (kc6.advance 5).2 = 0 := by kernel_rfl
def kc7 : PC := (kc6.advance 5).1
theorem kc7b : PCB kc7 := PCB.of (by kernel_rfl)
theorem kf13 : kc7.ends 2 12 [] = true := by kernel_rfl
theorem kf14 : kc7.res.all (fun r => decide (r.body.length ≤ 1000000)) = true := by kernel_rfl
def kc8 : PC := kc7.next.1
theorem kc8b : PCB kc8 := PCB.of (by kernel_rfl)
theorem kf15 : (ks6.recv (kc8.out.take 65536)).2 = 0 := by kernel_rfl
def ks7 : PV := (ks6.recv (kc8.out.take 65536)).1
theorem ks7b : PVB ks7 := PVB.of (by kernel_rfl)
def kc9 : PC := { kc8 with out := kc8.out.drop 65536 }
theorem kc9b : PCB kc9 := PCB.of (by kernel_rfl)
theorem kf16 : ks7.opn = [] := by kernel_rfl
theorem kf17 : (ks7.reply 2 0 []).2 = 9 := by kernel_rfl
def ks8 : PV := (ks7.reply 2 0 []).1
theorem ks8b : PVB ks8 := PVB.of (by kernel_rfl)
theorem kf18 : (kc9.call [122] 9).2 = (3, 0) := by kernel_rfl
def kc10 : PC := (kc9.call [122] 9).1
theorem kc10b : PCB kc10 := PCB.of (by kernel_rfl)
theorem kf19 : (ks8.recv (kc10.out.take 65536)).2 = 0 := by kernel_rfl
def ks9 : PV := (ks8.recv (kc10.out.take 65536)).1
theorem ks9b : PVB ks9 := PVB.of (by kernel_rfl)
def kc11 : PC := { kc10 with out := kc10.out.drop 65536 }
theorem kc11b : PCB kc11 := PCB.of (by kernel_rfl)
theorem kf20 : (kc11.cancel 3).2 = 0 := by kernel_rfl
def kc12 : PC := (kc11.cancel 3).1
theorem kc12b : PCB kc12 := PCB.of (by kernel_rfl)
theorem kf21 : (ks9.recv (kc12.out.take 65536)).2 = 0 := by kernel_rfl
def ks10 : PV := (ks9.recv (kc12.out.take 65536)).1
theorem ks10b : PVB ks10 := PVB.of (by kernel_rfl)
def kc13 : PC := { kc12 with out := kc12.out.drop 65536 }
theorem kc13b : PCB kc13 := PCB.of (by kernel_rfl)
theorem kf22 : (kc13.cancel 3).2 = 9 := by kernel_rfl
def kc14 : PC := (kc13.cancel 3).1
theorem kc14b : PCB kc14 := PCB.of (by kernel_rfl)
theorem kf23 : kc14.ends 3 14 [] = true := by kernel_rfl
theorem kf24 : kc14.res.all (fun r => decide (r.body.length ≤ 1000000)) = true := by kernel_rfl
def kc15 : PC := kc14.next.1
theorem kf25 : ks10.qu = [] := by kernel_rfl
end Go.Proofs.Ytdelhikejgoffaa
end
section
set_option linter.unusedVariables false
set_option maxRecDepth 20000
set_option maxHeartbeats 4000000
namespace Go.Proofs.Ytdelhikejgoffaa
theorem known_ok : Spec Try.prog 13 [] [] (fun r H' => r = .bool true ∧ H' = []) := by
  refine Spec.of (E := []) Try.func13 rfl (by kernel_rfl) Try.ntmps13 rfl rfl (fun w => ?_)
  refine WC_seq ?_
  refine WC_region ?_
  refine WL_val rfl rfl rfl (R_assign rfl rfl) ?_
  refine WL_nil ?_
  refine WQ_code ?_
  refine WC_seq ?_
  refine WC_region ?_
  refine WL_val rfl rfl rfl (R_build rfl zv34 pl34 rfl rfl) ?_
  refine WL_do rfl rfl rfl (D_box (cs := [_, _, _, _, _, _, _, _, _]) rfl rfl rfl) ?_
  rintro _ _ ⟨b1, rfl, rfl⟩
  obtain ⟨gpc0, hpc0, hx1⟩ := c_new b1
  refine WL_turn hx1 plD ?_
  refine WL_val rfl rfl rfl (R_build rfl zv39 pl39 rfl rfl) ?_
  refine WL_do rfl rfl rfl (D_box (cs := [_, _, _, _, _, _, _]) rfl rfl rfl) ?_
  rintro _ _ ⟨b2, rfl, rfl⟩
  obtain ⟨gpv0, hpv0, hx2⟩ := s_new b2
  refine WL_turn hx2 plD ?_
  refine WL_val rfl rfl rfl (R_assign rfl rfl) ?_
  refine WL_val rfl rfl rfl (R_assign rfl rfl) ?_
  refine WL_nil ?_
  refine WQ_code ?_
  refine WC_seq ?_
  refine WC_seq ?_
  refine WC_region ?_
  refine WL_val rfl rfl rfl (R_move rfl rfl) ?_
  refine WL_do rfl rfl rfl (D_call (calls_ok hpc0 pc0b _ 10 (by omega) 1 0) rfl rfl rfl rfl (pqD)) ?_
  rintro _ _ ⟨_, ⟨gkc1, hkc1, rfl, rfl⟩, rfl⟩
  refine WL_set (s := 10) (v := .bool true) rfl (by exact congrArg Value.bool (decide_eq_true kf1)) ?_
  have hkc1 : CGd gkc1 b1 kc1 := hkc1
  refine WL_val rfl rfl rfl (R_not rfl rfl) ?_
  refine WL_val rfl rfl rfl (R_move rfl rfl) ?_
  refine WL_val rfl rfl rfl (R_move rfl rfl) ?_
  refine WL_do rfl rfl rfl (D_call (calls_ok hkc1 kc1b _ 5 (by omega) 2 0) rfl rfl rfl rfl (pqD)) ?_
  rintro _ _ ⟨_, ⟨gkc2, hkc2, rfl, rfl⟩, rfl⟩
  refine WL_set (s := 14) (v := .bool true) rfl (by exact congrArg Value.bool (decide_eq_true kf2)) ?_
  have hkc2 : CGd gkc2 b1 kc2 := hkc2
  refine WL_val rfl rfl rfl (R_not rfl rfl) ?_
  refine WL_val rfl rfl rfl (R_pickF rfl rfl rfl) ?_
  refine WL_val rfl rfl rfl (R_move rfl rfl) ?_
  refine WL_val rfl rfl rfl (R_move rfl rfl) ?_
  refine WL_do rfl rfl rfl (D_call (calls_ok hkc2 kc2b _ 0 (by omega) 0 2) rfl rfl rfl rfl (pqD)) ?_
  rintro _ _ ⟨_, ⟨gkc3, hkc3, rfl, rfl⟩, rfl⟩
  refine WL_set (s := 19) (v := .bool true) rfl (by exact congrArg Value.bool (decide_eq_true kf3)) ?_
  have hkc3 : CGd gkc3 b1 kc3 := hkc3
  refine WL_val rfl rfl rfl (R_not rfl rfl) ?_
  refine WL_val rfl rfl rfl (R_pickF rfl rfl rfl) ?_
  refine WL_val rfl rfl rfl (R_move rfl rfl) ?_
  refine WL_val rfl rfl rfl (R_move rfl rfl) ?_
  refine WL_val rfl rfl rfl (R_move rfl rfl) ?_
  refine WL_do rfl rfl rfl (D_call (up_ok hkc3 kc3b hpv0 pv0b) rfl rfl rfl rfl (pqD)) ?_
  rintro _ _ ⟨_, ⟨gkc4, gks1, hkc4, hks1, rfl, rfl⟩, rfl⟩
  refine WL_set (s := 25) (v := .bool true) rfl (by exact congrArg Value.bool (decide_eq_true kf4)) ?_
  have hkc4 : CGd gkc4 b1 kc4 := hkc4
  have hks1 : SGd gks1 b2 ks1 := hks1
  refine WL_val rfl rfl rfl (R_not rfl rfl) ?_
  refine WL_val rfl rfl rfl (R_pickF rfl rfl rfl) ?_
  refine WL_val rfl rfl rfl (R_move rfl rfl) ?_
  refine WL_val rfl rfl rfl (R_move rfl rfl) ?_
  refine WL_do rfl rfl rfl (D_call (asks_ok hks1 ks1b 1 10 _) rfl rfl rfl rfl (pqD)) ?_
  rintro _ _ ⟨_, ⟨gks2, hks2, rfl, rfl⟩, rfl⟩
  refine WL_set (s := 30) (v := .bool true) rfl (by exact congrArg Value.bool kf5) ?_
  have hks2 : SGd gks2 b2 ks2 := hks2
  refine WL_val rfl rfl rfl (R_not rfl rfl) ?_
  refine WL_val rfl rfl rfl (R_pickF rfl rfl rfl) ?_
  refine WL_val rfl rfl rfl (R_move rfl rfl) ?_
  refine WL_val rfl rfl rfl (R_move rfl rfl) ?_
  refine WL_do rfl rfl rfl (D_call (asks_ok hks2 ks2b 2 5 _) rfl rfl rfl rfl (pqD)) ?_
  rintro _ _ ⟨_, ⟨gks3, hks3, rfl, rfl⟩, rfl⟩
  refine WL_set (s := 35) (v := .bool true) rfl (by exact congrArg Value.bool kf6) ?_
  have hks3 : SGd gks3 b2 ks3 := hks3
  refine WL_val rfl rfl rfl (R_not rfl rfl) ?_
  refine WL_val rfl rfl rfl (R_pickF rfl rfl rfl) ?_
  refine WL_nil ?_
  refine WQ_code ?_
  refine WC_F rfl ?_
  refine WC_skip ?_
  refine WQ_code ?_
  refine WC_seq ?_
  refine WC_seq ?_
  refine WC_region ?_
  refine WL_val rfl rfl rfl (R_move rfl rfl) ?_
  refine WL_do rfl rfl rfl (D_buildSlice rfl si23 rfl rfl rfl) ?_
  rintro _ _ ⟨b3, rfl, rfl⟩
  refine WL_do rfl rfl rfl (D_bytesConst rfl Try.underlying23 Try.underlying5 rfl plD) ?_
  rintro _ _ ⟨frb3, rfl, rfl⟩
  refine WL_do rfl rfl rfl (D_call (s_reply hks3 ks3b 1 0 (body := [121, 101, 115]) (RdB.cst b3 [121, 101, 115]) (by decide)) rfl rfl rfl rfl (pqD)) ?_
  rintro _ _ ⟨_, ⟨gks4, hks4, rfl, rfl⟩, rfl⟩
  have hks4 : SGd gks4 b2 ks4 := hks4
  refine WL_val rfl rfl rfl (R_neq rfl rfl rfl) ?_
  refine WL_set (s := 42) (v := .bool false) rfl (by exact congrArg Value.bool (decide_eq_false (fun e => e kf7))) ?_
  refine WL_val rfl rfl rfl (R_move rfl rfl) ?_
  refine WL_val rfl rfl rfl (R_move rfl rfl) ?_
  refine WL_val rfl rfl rfl (R_move rfl rfl) ?_
  refine WL_do rfl rfl rfl (D_call (down_ok hkc4 kc4b hks4 ks4b) rfl rfl rfl rfl (pqD)) ?_
  rintro _ _ ⟨_, ⟨gkc5, gks5, hks5, hkc5, rfl, rfl⟩, rfl⟩
  refine WL_set (s := 46) (v := .bool true) rfl (by exact congrArg Value.bool (decide_eq_true kf8)) ?_
  have hkc5 : CGd gkc5 b1 kc5 := hkc5
  have hks5 : SGd gks5 b2 ks5 := hks5
  refine WL_val rfl rfl rfl (R_not rfl rfl) ?_
  refine WL_val rfl rfl rfl (R_pickF rfl rfl rfl) ?_
  refine WL_val rfl rfl rfl (R_move rfl rfl) ?_
  refine WL_val rfl rfl rfl (R_move rfl rfl) ?_
  refine WL_do rfl rfl rfl (D_call (ends_ok hkc5 kc5b 1 0 _ (fun r hr => of_decide_eq_true (List.all_eq_true.1 kf10 r hr))) rfl rfl rfl rfl (pqD)) ?_
  rintro _ _ ⟨_, ⟨gkc6, hkc6, rfl, rfl⟩, rfl⟩
  refine WL_set (s := 51) (v := .bool true) rfl (by exact congrArg Value.bool kf9) ?_
  have hkc6 : CGd gkc6 b1 kc6 := hkc6
  refine WL_val rfl rfl rfl (R_not rfl rfl) ?_
  refine WL_val rfl rfl rfl (R_pickF rfl rfl rfl) ?_
  refine WL_val rfl rfl rfl (R_move rfl rfl) ?_
  refine WL_val rfl rfl rfl (R_move rfl rfl) ?_
  refine WL_do rfl rfl rfl (D_buildSlice rfl si23 rfl rfl rfl) ?_
  rintro _ _ ⟨b4, rfl, rfl⟩
  refine WL_do rfl rfl rfl (D_bytesConst rfl Try.underlying23 Try.underlying5 rfl plD) ?_
  rintro _ _ ⟨frb4, rfl, rfl⟩
  refine WL_do rfl rfl rfl (D_call (s_reply hks5 ks5b 1 0 (body := [110, 111]) (RdB.cst b4 [110, 111]) (by decide)) rfl rfl rfl rfl (pqD)) ?_
  rintro _ _ ⟨_, ⟨gks6, hks6, rfl, rfl⟩, rfl⟩
  have hks6 : SGd gks6 b2 ks6 := hks6
  refine WL_val rfl rfl rfl (R_neq rfl rfl rfl) ?_
  refine WL_set (s := 59) (v := .bool false) rfl (by exact congrArg Value.bool (decide_eq_false (fun e => e kf11))) ?_
  refine WL_val rfl rfl rfl (R_pickF rfl rfl rfl) ?_
  refine WL_nil ?_
  refine WQ_code ?_
  refine WC_F rfl ?_
  refine WC_skip ?_
  refine WQ_code ?_
  refine WC_seq ?_
  refine WC_seq ?_
  refine WC_region ?_
  refine WL_val rfl rfl rfl (R_move rfl rfl) ?_
  refine WL_do rfl rfl rfl (D_call (k_adv hkc6 kc6b 5) rfl rfl rfl rfl (pqD)) ?_
  rintro _ _ ⟨_, ⟨gkc7, hkc7, rfl, rfl⟩, rfl⟩
  have hkc7 : CGd gkc7 b1 kc7 := hkc7
  refine WL_val rfl rfl rfl (R_neq rfl rfl rfl) ?_
  refine WL_set (s := 63) (v := .bool false) rfl (by exact congrArg Value.bool (decide_eq_false (fun e => e kf12))) ?_
  refine WL_val rfl rfl rfl (R_move rfl rfl) ?_
  refine WL_val rfl rfl rfl (R_move rfl rfl) ?_
  refine WL_do rfl rfl rfl (D_call (ends_ok hkc7 kc7b 2 12 _ (fun r hr => of_decide_eq_true (List.all_eq_true.1 kf14 r hr))) rfl rfl rfl rfl (pqD)) ?_
  rintro _ _ ⟨_, ⟨gkc8, hkc8, rfl, rfl⟩, rfl⟩
  refine WL_set (s := 66) (v := .bool true) rfl (by exact congrArg Value.bool kf13) ?_
  have hkc8 : CGd gkc8 b1 kc8 := hkc8
  refine WL_val rfl rfl rfl (R_not rfl rfl) ?_
  refine WL_val rfl rfl rfl (R_pickF rfl rfl rfl) ?_
  refine WL_val rfl rfl rfl (R_move rfl rfl) ?_
  refine WL_val rfl rfl rfl (R_move rfl rfl) ?_
  refine WL_val rfl rfl rfl (R_move rfl rfl) ?_
  refine WL_do rfl rfl rfl (D_call (up_ok hkc8 kc8b hks6 ks6b) rfl rfl rfl rfl (pqD)) ?_
  rintro _ _ ⟨_, ⟨gkc9, gks7, hkc9, hks7, rfl, rfl⟩, rfl⟩
  refine WL_set (s := 72) (v := .bool true) rfl (by exact congrArg Value.bool (decide_eq_true kf15)) ?_
  have hkc9 : CGd gkc9 b1 kc9 := hkc9
  have hks7 : SGd gks7 b2 ks7 := hks7
  refine WL_val rfl rfl rfl (R_not rfl rfl) ?_
  refine WL_val rfl rfl rfl (R_pickF rfl rfl rfl) ?_
  refine WL_val rfl rfl rfl (R_move rfl rfl) ?_
  refine WL_val rfl rfl rfl (R_move rfl rfl) ?_
  refine WL_do rfl rfl rfl (D_call (s_open hks7 ks7b) rfl rfl rfl rfl (pqD)) ?_
  rintro _ _ ⟨_, ⟨oq, cq, tq, rfl, ownq, rfl⟩, rfl⟩
  refine WL_val rfl rfl rfl (R_len rfl Try.underlying36 rfl) ?_
  refine WL_val rfl rfl rfl (R_neq rfl rfl rfl) ?_
  refine WL_set (s := 79) (v := .bool false) rfl (by exact congrArg Value.bool (decide_eq_false (fun e => e (by rw [kf16]; rfl)))) ?_
  refine WL_val rfl rfl rfl (R_pickF rfl rfl rfl) ?_
  refine WL_val rfl rfl rfl (R_move rfl rfl) ?_
  refine WL_val rfl rfl rfl (R_move rfl rfl) ?_
  refine WL_none 5 ?_
  refine WL_do rfl rfl rfl (D_call (s_reply hks7 ks7b 2 0 (body := []) (RdB.nil none ⟨none, cl [] 5⟩) (by decide)) rfl rfl rfl rfl (pqD)) ?_
  rintro _ _ ⟨_, ⟨gks8, hks8, rfl, rfl⟩, rfl⟩
  have hks8 : SGd gks8 b2 ks8 := hks8
  refine WL_val rfl rfl rfl (R_neq rfl rfl rfl) ?_
  refine WL_set (s := 84) (v := .bool false) rfl (by exact congrArg Value.bool (decide_eq_false (fun e => e kf17))) ?_
  refine WL_val rfl rfl rfl (R_pickF rfl rfl rfl) ?_
  refine WL_nil ?_
  refine WQ_code ?_
  refine WC_F rfl ?_
  refine WC_skip ?_
  refine WQ_code ?_
  refine WC_seq ?_
  refine WC_seq ?_
  refine WC_region ?_
  refine WL_val rfl rfl rfl (R_move rfl rfl) ?_
  refine WL_do rfl rfl rfl (D_call (calls_ok hkc9 kc9b _ 9 (by omega) 3 0) rfl rfl rfl rfl (pqD)) ?_
  rintro _ _ ⟨_, ⟨gkc10, hkc10, rfl, rfl⟩, rfl⟩
  refine WL_set (s := 87) (v := .bool true) rfl (by exact congrArg Value.bool (decide_eq_true kf18)) ?_
  have hkc10 : CGd gkc10 b1 kc10 := hkc10
  refine WL_val rfl rfl rfl (R_not rfl rfl) ?_
  refine WL_val rfl rfl rfl (R_move rfl rfl) ?_
  refine WL_val rfl rfl rfl (R_move rfl rfl) ?_
  refine WL_val rfl rfl rfl (R_move rfl rfl) ?_
  refine WL_do rfl rfl rfl (D_call (up_ok hkc10 kc10b hks8 ks8b) rfl rfl rfl rfl (pqD)) ?_
  rintro _ _ ⟨_, ⟨gkc11, gks9, hkc11, hks9, rfl, rfl⟩, rfl⟩
  refine WL_set (s := 92) (v := .bool true) rfl (by exact congrArg Value.bool (decide_eq_true kf19)) ?_
  have hkc11 : CGd gkc11 b1 kc11 := hkc11
  have hks9 : SGd gks9 b2 ks9 := hks9
  refine WL_val rfl rfl rfl (R_not rfl rfl) ?_
  refine WL_val rfl rfl rfl (R_pickF rfl rfl rfl) ?_
  refine WL_val rfl rfl rfl (R_move rfl rfl) ?_
  refine WL_val rfl rfl rfl (R_move rfl rfl) ?_
  refine WL_do rfl rfl rfl (D_call (k_cancel hkc11 kc11b 3) rfl rfl rfl rfl (pqD)) ?_
  rintro _ _ ⟨_, ⟨gkc12, hkc12, rfl, rfl⟩, rfl⟩
  have hkc12 : CGd gkc12 b1 kc12 := hkc12
  refine WL_val rfl rfl rfl (R_neq rfl rfl rfl) ?_
  refine WL_set (s := 98) (v := .bool false) rfl (by exact congrArg Value.bool (decide_eq_false (fun e => e kf20))) ?_
  refine WL_val rfl rfl rfl (R_pickF rfl rfl rfl) ?_
  refine WL_val rfl rfl rfl (R_move rfl rfl) ?_
  refine WL_val rfl rfl rfl (R_move rfl rfl) ?_
  refine WL_val rfl rfl rfl (R_move rfl rfl) ?_
  refine WL_do rfl rfl rfl (D_call (up_ok hkc12 kc12b hks9 ks9b) rfl rfl rfl rfl (pqD)) ?_
  rintro _ _ ⟨_, ⟨gkc13, gks10, hkc13, hks10, rfl, rfl⟩, rfl⟩
  refine WL_set (s := 103) (v := .bool true) rfl (by exact congrArg Value.bool (decide_eq_true kf21)) ?_
  have hkc13 : CGd gkc13 b1 kc13 := hkc13
  have hks10 : SGd gks10 b2 ks10 := hks10
  refine WL_val rfl rfl rfl (R_not rfl rfl) ?_
  refine WL_val rfl rfl rfl (R_pickF rfl rfl rfl) ?_
  refine WL_val rfl rfl rfl (R_move rfl rfl) ?_
  refine WL_val rfl rfl rfl (R_move rfl rfl) ?_
  refine WL_do rfl rfl rfl (D_call (k_cancel hkc13 kc13b 3) rfl rfl rfl rfl (pqD)) ?_
  rintro _ _ ⟨_, ⟨gkc14, hkc14, rfl, rfl⟩, rfl⟩
  have hkc14 : CGd gkc14 b1 kc14 := hkc14
  refine WL_val rfl rfl rfl (R_neq rfl rfl rfl) ?_
  refine WL_set (s := 109) (v := .bool false) rfl (by exact congrArg Value.bool (decide_eq_false (fun e => e kf22))) ?_
  refine WL_val rfl rfl rfl (R_pickF rfl rfl rfl) ?_
  refine WL_val rfl rfl rfl (R_move rfl rfl) ?_
  refine WL_val rfl rfl rfl (R_move rfl rfl) ?_
  refine WL_do rfl rfl rfl (D_call (ends_ok hkc14 kc14b 3 14 _ (fun r hr => of_decide_eq_true (List.all_eq_true.1 kf24 r hr))) rfl rfl rfl rfl (pqD)) ?_
  rintro _ _ ⟨_, ⟨gkc15, hkc15, rfl, rfl⟩, rfl⟩
  refine WL_set (s := 113) (v := .bool true) rfl (by exact congrArg Value.bool kf23) ?_
  have hkc15 : CGd gkc15 b1 kc15 := hkc15
  refine WL_val rfl rfl rfl (R_not rfl rfl) ?_
  refine WL_val rfl rfl rfl (R_pickF rfl rfl rfl) ?_
  refine WL_nil ?_
  refine WQ_code ?_
  refine WC_F rfl ?_
  refine WC_skip ?_
  refine WQ_code ?_
  refine WC_seq ?_
  refine WC_region ?_
  refine WL_val rfl rfl rfl (R_move rfl rfl) ?_
  refine WL_do rfl rfl rfl (D_call (s_next0 hks10 ks10b kf25) rfl rfl rfl rfl (pqD)) ?_
  rintro _ _ ⟨_, ⟨gl9, hl9, rfl, rfl⟩, rfl⟩
  refine WL_val rfl rfl rfl (R_move rfl rfl) ?_
  refine WL_val rfl rfl rfl (R_extract rfl rfl rfl) ?_
  refine WL_val rfl rfl rfl (R_extract rfl rfl rfl) ?_
  refine WL_do rfl rfl rfl (D_alloc rfl zv60) ?_
  rintro _ _ ⟨b5, rfl, rfl⟩
  refine WL_do0 rfl rfl (D_store (vs := [_, _, _]) rfl Try.sizeOf60 rfl rfl rfl rfl rfl (plD) (by exact Nat.le_of_ble_eq_true rfl)) ?_
  rintro _ _ rfl
  refine WL_val rfl rfl rfl (R_assign rfl rfl) ?_
  refine WL_nil ?_
  refine WQ_code ?_
  refine WC_seq ?_
  refine WC_region ?_
  refine WL_val rfl rfl rfl (R_move rfl rfl) ?_
  refine WL_val rfl rfl rfl (R_not rfl rfl) ?_
  refine WL_val rfl rfl rfl (R_assign rfl rfl) ?_
  refine WL_nil ?_
  refine WQ_code ?_
  refine WC_ret ?_
  refine WQ_ret rfl rfl (.cons (.tmp rfl) .nil) rfl (by
      exact ⟨rfl, rfl⟩) (pqD)
end Go.Proofs.Ytdelhikejgoffaa
end
section
set_option linter.unusedVariables false
set_option maxRecDepth 20000
set_option maxHeartbeats 2000000
namespace Go.Proofs.Ytdelhikejgoffaa
theorem none_big (what id n t : Int) {l : Bs} {oa : Option Addr} {ent : Ent} {c : Nat} (hr : RdB oa ent l) (hb : 100 < l.length) (hl : l.length ≤ 9223372036854775807) : Spec Try.prog 5 [.agg #[.int .i64 what, .int .i64 id, .int .i64 n, .int .u64 t, .slice oa l.length c]] [ent] (fun r H' => r = .bool true ∧ H' = [ent]) := by
  refine Spec.of (E := [(0, .agg #[.int .i64 what, .int .i64 id, .int .i64 n, .int .u64 t, .slice oa l.length c])]) Try.func5 rfl (by kernel_rfl) Try.ntmps5 rfl rfl (fun w => ?_)
  refine WC_seq ?_
  refine WC_region ?_
  refine WL_do rfl rfl rfl (D_box (cs := [_, _, _, _, _]) rfl rfl rfl) ?_
  rintro _ _ ⟨b1, rfl, rfl⟩
  refine WL_val rfl rfl rfl (R_assign rfl rfl) ?_
  refine WL_nil ?_
  refine WQ_code ?_
  refine WC_seq ?_
  refine WC_seq ?_
  refine WC_region ?_
  refine WL_val rfl rfl rfl (R_fieldAddr rfl fa71_4 rfl) ?_
  refine WL_val rfl rfl rfl (R_load rfl sc23 rfl (mmD) rfl) ?_
  refine WL_val rfl rfl rfl (R_len rfl Try.underlying23 rfl) ?_
  refine WL_val rfl rfl rfl (R_gtr rfl rfl rfl) ?_
  refine WL_nil ?_
  refine WQ_code ?_
  refine WC_dT rfl (by omega) ?_
  refine WC_seq ?_
  refine WC_region ?_
  refine WL_do rfl rfl rfl (D_call (known_ok) rfl rfl rfl rfl (pqD)) ?_
  rintro _ _ ⟨_, ⟨rfl, rfl⟩, rfl⟩
  refine WL_val rfl rfl rfl (R_assign rfl rfl) ?_
  refine WL_nil ?_
  refine WQ_code ?_
  refine WC_ret ?_
  refine WQ_ret rfl rfl (.cons (.tmp rfl) .nil) rfl (by
      exact ⟨rfl, rfl⟩) (pqD)
theorem none_do (what id n t : Int) {l : Bs} {oa : Option Addr} {ent : Ent} {c : Nat} (hr : RdB oa ent l) (hb : ¬ 100 < l.length) : Spec Try.prog 5 [.agg #[.int .i64 what, .int .i64 id, .int .i64 n, .int .u64 t, .slice oa l.length c]] [ent] (fun r H' => r = .bool true ∧ H' = [ent]) := by
  refine Spec.of (E := [(0, .agg #[.int .i64 what, .int .i64 id, .int .i64 n, .int .u64 t, .slice oa l.length c])]) Try.func5 rfl (by kernel_rfl) Try.ntmps5 rfl rfl (fun w => ?_)
  refine WC_seq ?_
  refine WC_region ?_
  refine WL_do rfl rfl rfl (D_box (cs := [_, _, _, _, _]) rfl rfl rfl) ?_
  rintro _ _ ⟨b1, rfl, rfl⟩
  refine WL_val rfl rfl rfl (R_assign rfl rfl) ?_
  refine WL_nil ?_
  refine WQ_code ?_
  refine WC_seq ?_
  refine WC_seq ?_
  refine WC_region ?_
  refine WL_val rfl rfl rfl (R_fieldAddr rfl fa71_4 rfl) ?_
  refine WL_val rfl rfl rfl (R_load rfl sc23 rfl (mmD) rfl) ?_
  refine WL_val rfl rfl rfl (R_len rfl Try.underlying23 rfl) ?_
  refine WL_val rfl rfl rfl (R_gtr rfl rfl rfl) ?_
  refine WL_nil ?_
  refine WQ_code ?_
  refine WC_dF rfl (by omega) ?_
  refine WC_skip ?_
  refine WQ_code ?_
  refine WC_seq ?_
  refine WC_region ?_
  refine WL_val rfl rfl rfl (R_assign rfl rfl) ?_
  refine WL_nil ?_
  refine WQ_code ?_
  refine WC_seq ?_
  refine WC_region ?_
  refine WL_val rfl rfl rfl (R_assign rfl rfl) ?_
  refine WL_nil ?_
  refine WQ_code ?_
  refine WC_seq ?_
  refine WC_region ?_
  refine WL_val rfl rfl rfl (R_move rfl rfl) ?_
  refine WL_do rfl rfl rfl (D_call (next_nil) rfl rfl rfl rfl (pqD)) ?_
  rintro _ _ ⟨_, ⟨rfl, rfl⟩, rfl⟩
  refine WL_val rfl rfl rfl (R_move rfl rfl) ?_
  refine WL_val rfl rfl rfl (R_extract rfl rfl rfl) ?_
  refine WL_val rfl rfl rfl (R_extract rfl rfl rfl) ?_
  refine WL_do rfl rfl rfl (D_alloc rfl zv66) ?_
  rintro _ _ ⟨b2, rfl, rfl⟩
  refine WL_do0 rfl rfl (D_store (vs := [_, _, _]) rfl Try.sizeOf66 rfl rfl rfl rfl rfl (plD) (by exact Nat.le_of_ble_eq_true rfl)) ?_
  rintro _ _ rfl
  refine WL_val rfl rfl rfl (R_assign rfl rfl) ?_
  refine WL_nil ?_
  refine WQ_code ?_
  refine WC_seq ?_
  refine WC_region ?_
  refine WL_val rfl rfl rfl (R_move rfl rfl) ?_
  refine WL_do rfl rfl rfl (D_call (snext_nil) rfl rfl rfl rfl (pqD)) ?_
  rintro _ _ ⟨_, ⟨rfl, rfl⟩, rfl⟩
  refine WL_val rfl rfl rfl (R_move rfl rfl) ?_
  refine WL_val rfl rfl rfl (R_extract rfl rfl rfl) ?_
  refine WL_val rfl rfl rfl (R_extract rfl rfl rfl) ?_
  refine WL_do rfl rfl rfl (D_alloc rfl zv60) ?_
  rintro _ _ ⟨b3, rfl, rfl⟩
  refine WL_do0 rfl rfl (D_store (vs := [_, _, _]) rfl Try.sizeOf60 rfl rfl rfl rfl rfl (plD) (by exact Nat.le_of_ble_eq_true rfl)) ?_
  rintro _ _ rfl
  refine WL_val rfl rfl rfl (R_assign rfl rfl) ?_
  refine WL_nil ?_
  refine WQ_code ?_
  refine WC_seq ?_
  refine WC_region ?_
  refine WL_val rfl rfl rfl (R_move rfl rfl) ?_
  refine WL_val rfl rfl rfl (R_fieldAddr rfl fa71_2 rfl) ?_
  refine WL_val rfl rfl rfl (R_load rfl sc3 rfl (mmD) rfl) ?_
  refine WL_do rfl rfl rfl (D_call (out_nil _) rfl rfl rfl rfl (pqD)) ?_
  rintro _ _ ⟨_, ⟨rfl, rfl⟩, rfl⟩
  refine WL_val rfl rfl rfl (R_move rfl rfl) ?_
  refine WL_val rfl rfl rfl (R_extract rfl rfl rfl) ?_
  refine WL_val rfl rfl rfl (R_extract rfl rfl rfl) ?_
  refine WL_val rfl rfl rfl (R_assign rfl rfl) ?_
  refine WL_val rfl rfl rfl (R_assign rfl rfl) ?_
  refine WL_nil ?_
  refine WQ_code ?_
  refine WC_seq ?_
  refine WC_region ?_
  refine WL_val rfl rfl rfl (R_move rfl rfl) ?_
  refine WL_val rfl rfl rfl (R_fieldAddr rfl fa71_2 rfl) ?_
  refine WL_val rfl rfl rfl (R_load rfl sc3 rfl (mmD) rfl) ?_
  refine WL_do rfl rfl rfl (D_call (sout_nil _) rfl rfl rfl rfl (pqD)) ?_
  rintro _ _ ⟨_, ⟨rfl, rfl⟩, rfl⟩
  refine WL_val rfl rfl rfl (R_move rfl rfl) ?_
  refine WL_val rfl rfl rfl (R_extract rfl rfl rfl) ?_
  refine WL_val rfl rfl rfl (R_extract rfl rfl rfl) ?_
  refine WL_val rfl rfl rfl (R_assign rfl rfl) ?_
  refine WL_val rfl rfl rfl (R_assign rfl rfl) ?_
  refine WL_nil ?_
  refine WQ_code ?_
  refine WC_seq ?_
  refine WC_seq ?_
  refine WC_region ?_
  refine WL_val rfl rfl rfl (R_move rfl rfl) ?_
  refine WL_val rfl rfl rfl (R_fieldAddr rfl fa71_4 rfl) ?_
  refine WL_val rfl rfl rfl (R_load rfl sc23 rfl (mmD) rfl) ?_
  refine WL_val rfl rfl rfl (R_byteStr rfl Try.underlying23 Try.underlying5 Try.underlying9 rfl hr mmD) ?_
  refine WL_val rfl rfl rfl (R_fieldAddr rfl fa71_3 rfl) ?_
  refine WL_val rfl rfl rfl (R_load rfl sc30 rfl (mmD) rfl) ?_
  refine WL_do rfl rfl rfl (D_call (calls_nil _ _ 0 1) rfl rfl rfl rfl (pqD)) ?_
  rintro _ _ ⟨_, ⟨rfl, rfl⟩, rfl⟩
  refine WL_set (s := 48) (v := .bool true) rfl (by rfl) ?_
  refine WL_val rfl rfl rfl (R_not rfl rfl) ?_
  refine WL_val rfl rfl rfl (R_move rfl rfl) ?_
  refine WL_val rfl rfl rfl (R_move rfl rfl) ?_
  refine WL_val rfl rfl rfl (R_fieldAddr rfl fa71_1 rfl) ?_
  refine WL_val rfl rfl rfl (R_load rfl sc3 rfl (mmD) rfl) ?_
  refine WL_do rfl rfl rfl (D_call (cancel_nil _) rfl rfl rfl rfl (pqD)) ?_
  rintro _ _ ⟨_, ⟨rfl, rfl⟩, rfl⟩
  refine WL_val rfl rfl rfl (R_neq rfl rfl rfl) ?_
  refine WL_set (s := 55) (v := .bool false) rfl (by rfl) ?_
  refine WL_val rfl rfl rfl (R_pickF rfl rfl rfl) ?_
  refine WL_val rfl rfl rfl (R_move rfl rfl) ?_
  refine WL_val rfl rfl rfl (R_move rfl rfl) ?_
  refine WL_val rfl rfl rfl (R_fieldAddr rfl fa71_3 rfl) ?_
  refine WL_val rfl rfl rfl (R_load rfl sc30 rfl (mmD) rfl) ?_
  refine WL_do rfl rfl rfl (D_call (advance_nil _) rfl rfl rfl rfl (pqD)) ?_
  rintro _ _ ⟨_, ⟨rfl, rfl⟩, rfl⟩
  refine WL_val rfl rfl rfl (R_neq rfl rfl rfl) ?_
  refine WL_set (s := 62) (v := .bool false) rfl (by rfl) ?_
  refine WL_val rfl rfl rfl (R_pickF rfl rfl rfl) ?_
  refine WL_val rfl rfl rfl (R_move rfl rfl) ?_
  refine WL_val rfl rfl rfl (R_move rfl rfl) ?_
  refine WL_val rfl rfl rfl (R_fieldAddr rfl fa71_4 rfl) ?_
  refine WL_val rfl rfl rfl (R_load rfl sc23 rfl (mmD) rfl) ?_
  refine WL_do rfl rfl rfl (D_call (recv_nil _) rfl rfl rfl rfl (pqD)) ?_
  rintro _ _ ⟨_, ⟨rfl, rfl⟩, rfl⟩
  refine WL_val rfl rfl rfl (R_neq rfl rfl rfl) ?_
  refine WL_set (s := 69) (v := .bool false) rfl (by rfl) ?_
  refine WL_val rfl rfl rfl (R_pickF rfl rfl rfl) ?_
  refine WL_val rfl rfl rfl (R_move rfl rfl) ?_
  refine WL_val rfl rfl rfl (R_move rfl rfl) ?_
  refine WL_do rfl rfl rfl (D_call (close_nil) rfl rfl rfl rfl (pqD)) ?_
  rintro _ _ ⟨_, ⟨rfl, rfl⟩, rfl⟩
  refine WL_val rfl rfl rfl (R_neq rfl rfl rfl) ?_
  refine WL_set (s := 74) (v := .bool false) rfl (by rfl) ?_
  refine WL_val rfl rfl rfl (R_pickF rfl rfl rfl) ?_
  refine WL_val rfl rfl rfl (R_move rfl rfl) ?_
  refine WL_val rfl rfl rfl (R_move rfl rfl) ?_
  refine WL_val rfl rfl rfl (R_pickF rfl rfl rfl) ?_
  refine WL_val rfl rfl rfl (R_move rfl rfl) ?_
  refine WL_val rfl rfl rfl (R_fieldAddr rfl fa66_0 rfl) ?_
  refine WL_val rfl rfl rfl (R_load rfl sc3 rfl (mmD) rfl) ?_
  refine WL_val rfl rfl rfl (R_neq rfl rfl rfl) ?_
  refine WL_set (s := 82) (v := .bool false) rfl (by rfl) ?_
  refine WL_val rfl rfl rfl (R_pickF rfl rfl rfl) ?_
  refine WL_val rfl rfl rfl (R_move rfl rfl) ?_
  refine WL_val rfl rfl rfl (R_move rfl rfl) ?_
  refine WL_val rfl rfl rfl (R_len rfl Try.underlying23 rfl) ?_
  refine WL_val rfl rfl rfl (R_neq rfl rfl rfl) ?_
  refine WL_set (s := 87) (v := .bool false) rfl (by rfl) ?_
  refine WL_val rfl rfl rfl (R_pickF rfl rfl rfl) ?_
  refine WL_val rfl rfl rfl (R_move rfl rfl) ?_
  refine WL_val rfl rfl rfl (R_move rfl rfl) ?_
  refine WL_val rfl rfl rfl (R_neq rfl rfl rfl) ?_
  refine WL_set (s := 91) (v := .bool false) rfl (by rfl) ?_
  refine WL_val rfl rfl rfl (R_pickF rfl rfl rfl) ?_
  refine WL_val rfl rfl rfl (R_move rfl rfl) ?_
  refine WL_val rfl rfl rfl (R_move rfl rfl) ?_
  refine WL_do rfl rfl rfl (D_call (open_nil) rfl rfl rfl rfl (pqD)) ?_
  rintro _ _ ⟨_, ⟨rfl, rfl⟩, rfl⟩
  refine WL_val rfl rfl rfl (R_len rfl Try.underlying36 rfl) ?_
  refine WL_val rfl rfl rfl (R_neq rfl rfl rfl) ?_
  refine WL_set (s := 97) (v := .bool false) rfl (by rfl) ?_
  refine WL_val rfl rfl rfl (R_pickF rfl rfl rfl) ?_
  refine WL_val rfl rfl rfl (R_move rfl rfl) ?_
  refine WL_val rfl rfl rfl (R_move rfl rfl) ?_
  refine WL_do rfl rfl rfl (D_call (copy_nil) rfl rfl rfl rfl (pqD)) ?_
  rintro _ _ ⟨_, ⟨rfl, rfl⟩, rfl⟩
  refine WL_val rfl rfl rfl (R_ptrNeNil rfl Try.underlying22 rfl) ?_
  refine WL_val rfl rfl rfl (R_pickF rfl rfl rfl) ?_
  refine WL_nil ?_
  refine WQ_code ?_
  refine WC_F rfl ?_
  refine WC_skip ?_
  refine WQ_code ?_
  refine WC_seq ?_
  refine WC_region ?_
  refine WL_val rfl rfl rfl (R_move rfl rfl) ?_
  refine WL_val rfl rfl rfl (R_fieldAddr rfl fa71_4 rfl) ?_
  refine WL_val rfl rfl rfl (R_load rfl sc23 rfl (mmD) rfl) ?_
  refine WL_do rfl rfl rfl (D_call (srecv_nil _) rfl rfl rfl rfl (pqD)) ?_
  rintro _ _ ⟨_, ⟨rfl, rfl⟩, rfl⟩
  refine WL_val rfl rfl rfl (R_eql rfl rfl rfl) ?_
  refine WL_set (s := 108) (v := .bool true) rfl (by rfl) ?_
  refine WL_val rfl rfl rfl (R_move rfl rfl) ?_
  refine WL_val rfl rfl rfl (R_move rfl rfl) ?_
  refine WL_val rfl rfl rfl (R_fieldAddr rfl fa71_1 rfl) ?_
  refine WL_val rfl rfl rfl (R_load rfl sc3 rfl (mmD) rfl) ?_
  refine WL_val rfl rfl rfl (R_fieldAddr rfl fa71_4 rfl) ?_
  refine WL_val rfl rfl rfl (R_load rfl sc23 rfl (mmD) rfl) ?_
  refine WL_do rfl rfl rfl (D_call (reply_nil _ _ _) rfl rfl rfl rfl (pqD)) ?_
  rintro _ _ ⟨_, ⟨rfl, rfl⟩, rfl⟩
  refine WL_val rfl rfl rfl (R_eql rfl rfl rfl) ?_
  refine WL_set (s := 116) (v := .bool true) rfl (by rfl) ?_
  refine WL_val rfl rfl rfl (R_pickT rfl rfl rfl) ?_
  refine WL_val rfl rfl rfl (R_move rfl rfl) ?_
  refine WL_val rfl rfl rfl (R_move rfl rfl) ?_
  refine WL_val rfl rfl rfl (R_not rfl rfl) ?_
  refine WL_val rfl rfl rfl (R_pickT rfl rfl rfl) ?_
  refine WL_val rfl rfl rfl (R_move rfl rfl) ?_
  refine WL_val rfl rfl rfl (R_fieldAddr rfl fa60_0 rfl) ?_
  refine WL_val rfl rfl rfl (R_load rfl sc3 rfl (mmD) rfl) ?_
  refine WL_val rfl rfl rfl (R_eql rfl rfl rfl) ?_
  refine WL_set (s := 125) (v := .bool true) rfl (by rfl) ?_
  refine WL_val rfl rfl rfl (R_pickT rfl rfl rfl) ?_
  refine WL_val rfl rfl rfl (R_move rfl rfl) ?_
  refine WL_val rfl rfl rfl (R_move rfl rfl) ?_
  refine WL_val rfl rfl rfl (R_len rfl Try.underlying23 rfl) ?_
  refine WL_val rfl rfl rfl (R_eql rfl rfl rfl) ?_
  refine WL_set (s := 130) (v := .bool true) rfl (by rfl) ?_
  refine WL_val rfl rfl rfl (R_pickT rfl rfl rfl) ?_
  refine WL_val rfl rfl rfl (R_move rfl rfl) ?_
  refine WL_val rfl rfl rfl (R_move rfl rfl) ?_
  refine WL_val rfl rfl rfl (R_eql rfl rfl rfl) ?_
  refine WL_set (s := 134) (v := .bool true) rfl (by rfl) ?_
  refine WL_val rfl rfl rfl (R_pickT rfl rfl rfl) ?_
  refine WL_val rfl rfl rfl (R_move rfl rfl) ?_
  refine WL_val rfl rfl rfl (R_move rfl rfl) ?_
  refine WL_do rfl rfl rfl (D_call (sopen_nil) rfl rfl rfl rfl (pqD)) ?_
  rintro _ _ ⟨_, ⟨rfl, rfl⟩, rfl⟩
  refine WL_val rfl rfl rfl (R_len rfl Try.underlying36 rfl) ?_
  refine WL_val rfl rfl rfl (R_eql rfl rfl rfl) ?_
  refine WL_set (s := 140) (v := .bool true) rfl (by rfl) ?_
  refine WL_val rfl rfl rfl (R_pickT rfl rfl rfl) ?_
  refine WL_val rfl rfl rfl (R_move rfl rfl) ?_
  refine WL_val rfl rfl rfl (R_move rfl rfl) ?_
  refine WL_do rfl rfl rfl (D_call (scopy_nil) rfl rfl rfl rfl (pqD)) ?_
  rintro _ _ ⟨_, ⟨rfl, rfl⟩, rfl⟩
  refine WL_val rfl rfl rfl (R_ptrEqNil rfl Try.underlying35 rfl) ?_
  refine WL_val rfl rfl rfl (R_pickT rfl rfl rfl) ?_
  refine WL_val rfl rfl rfl (R_move rfl rfl) ?_
  refine WL_do rfl rfl rfl (D_call (known_ok) rfl rfl rfl rfl (pqD)) ?_
  rintro _ _ ⟨_, ⟨rfl, rfl⟩, rfl⟩
  refine WL_val rfl rfl rfl (R_pickT rfl rfl rfl) ?_
  refine WL_val rfl rfl rfl (R_assign rfl rfl) ?_
  refine WL_nil ?_
  refine WQ_code ?_
  refine WC_ret ?_
  refine WQ_ret rfl rfl (.cons (.tmp rfl) .nil) rfl (by
      exact ⟨rfl, rfl⟩) (pqD)
theorem none_ok (what id n t : Int) {l : Bs} {oa : Option Addr} {ent : Ent} {c : Nat} (hr : RdB oa ent l) (hl : l.length ≤ 9223372036854775807) : Spec Try.prog 5 [.agg #[.int .i64 what, .int .i64 id, .int .i64 n, .int .u64 t, .slice oa l.length c]] [ent] (fun r H' => r = .bool true ∧ H' = [ent]) := by
  by_cases h : 100 < l.length
  · exact none_big what id n t hr h hl
  · exact none_do what id n t hr h
end Go.Proofs.Ytdelhikejgoffaa
end
