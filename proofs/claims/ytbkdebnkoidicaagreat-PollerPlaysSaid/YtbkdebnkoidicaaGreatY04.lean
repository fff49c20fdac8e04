/-
  Slices whose block is told by an equation: an element's place, and loads from it.
-/
import Derived.Test.YtbkdebnkoidicaaGreatY03
import Derived.Test.YtbkdebnkoidicaaGreatRows
import Derived.Shelf.SlSortCmp.Whole1
import Derived.Shelf.SlSortCmp.NoneTotal
import Derived.Laws.CopyRow
import Derived.ChangeKeysEq
import Derived.Laws.StructEq
section
set_option linter.unusedVariables false
set_option maxRecDepth 20000
set_option maxHeartbeats 2000000
namespace Go.Proofs.YtbkdebnkoidicaaGreat
structure TmM where
 pt : Nat
 g : HM
 og : Option Nat
 ng : Nat
 cg : Nat
 tg : List Value
 gv : List Nat
abbrev tmH (m : TmM) : Heap := ⟨some m.pt, cl [ptrH m.g.p, slV m.og m.ng m.cg] 245⟩ :: ⟨m.og, cl (ivn m.gv ++ m.tg) 3⟩ :: gH m.g
structure TIs (L : List Tm) (m : TmM) : Prop where
 h : HIs (wl L) m.g
 r : TRel L m.gv m.g.n
 ng : m.gv.length = m.ng
 own : Own m.og m.ng m.cg 1 (ivn m.gv) m.tg
 gl : m.ng ≤ 1024
theorem IsFree.le {W : List WE} {f : Nat} (h : IsFree W f) : f ≤ W.length := by
 have : (List.range f).length ≤ (hds W).length := List.Nodup.length_le_of_subset List.nodup_range fun j hj => by
  obtain ⟨w, hw, e⟩ := h.below j (List.mem_range.1 hj)
  exact List.mem_map.2 ⟨w, hw, e⟩
 rw [List.length_range, List.length_map] at this; exact this
theorem TIs.nb {L : List Tm} {m : TmM} (h : TIs L m) : m.g.n < 9000000000000000000 := h.h.hp.nb
theorem mzero_ok (pt p : Nat) (x : Value) : Spec Tryz.prog 149 [ptrH pt] [⟨some pt, cl [ptrH p, x] 245⟩] (fun r H' => r = .bool false ∧ H' = [⟨some pt, cl [ptrH p, x] 245⟩]) := by
 refine Spec.of (E := [(0, ptrH pt)]) Tryz.func149 rfl (by kernel_rfl) Tryz.ntmps149 rfl rfl (fun w => ?_)
 refine WC_seq (WC_region (WLa rfl (WL_nil (WQ_code (WC_seq (WC_region (WLa rfl ?_)))))))
 refine WL_val rfl rfl rfl (R_ptrEqNil rfl Tryz.underlying158 rfl) ?_
 refine WLa rfl (WLa rfl (WLa rfl ?_))
 refine WL_val rfl rfl rfl (R_fieldAddr rfl fa245_0 rfl) ?_
 refine WL_val rfl rfl rfl (R_load rfl sc242 rfl (mmY) rfl) ?_
 refine WL_val rfl rfl rfl (R_ptrEqNil rfl Tryz.underlying242 rfl) ?_
 refine WLa rfl (WLa rfl (WL_nil (WQ_code (WC_ret ?_))))
 refine WQ_ret rfl rfl (.cons (.tmp rfl) .nil) rfl (by
   exact ⟨rfl, rfl⟩) (pqY)
theorem mnew_ok : Spec Tryz.prog 86 [] [] (fun r H' => ∃ m : TmM, r = ptrH m.pt ∧ H' = tmH m ∧ TIs [] m ∧ m.g.n = 0) := by
 refine Spec.of (E := []) Tryz.func86 rfl (by kernel_rfl) Tryz.ntmps86 rfl rfl (fun w => ?_)
 refine WC_seq (WC_region (WLa rfl (WL_nil (WQ_code (WC_seq (WC_region ?_))))))
 refine WL_do rfl rfl rfl (D_call (hnew_ok) rfl rfl rfl rfl (pqY)) ?_
 rintro _ _ ⟨_, ⟨g, rfl, rfl, hg, hgn⟩, rfl⟩
 refine WL_val rfl rfl rfl (R_build rfl zv245 pl245 rfl rfl) ?_
 refine WL_do rfl rfl rfl (D_box (cs := [_, _]) rfl rfl rfl) ?_
 rintro _ _ ⟨b1, rfl, rfl⟩
 refine WLa rfl (WL_nil (WQ_code (WC_ret ?_)))
 refine WQ_none 3 ?_
 refine WQ_ret rfl rfl (.cons (.tmp rfl) .nil) rfl (by
   exact ⟨⟨_, g, none, 0, 0, [], []⟩, rfl, rfl, ⟨hg, by (show TRel [] [] g.n); rw [hgn]; exact trel_new, rfl, Own.empty 1, Nat.zero_le _⟩, hgn⟩) (pqY)
theorem mhas_no (L : List Tm) (m : TmM) (ht : TIs L m) (N G : Int) (h : ∀ t ∈ L, t.gone = false → (t.n : Int) ≠ N) : Spec Tryz.prog 150 [ptrH m.pt, .agg #[.int .i64 N, .int .i64 G]] (tmH m) (fun r H' => r = .bool false ∧ H' = tmH m) := by
 have hno : ∀ w ∈ wl L, (w.h : Int) ≠ N := fun w hw => by
  obtain ⟨t, h1, h2, rfl⟩ := mem_wl.1 hw
  exact h t h1 h2
 refine Spec.of (E := [(0, ptrH m.pt), (1, .agg #[.int .i64 N, .int .i64 G])]) Tryz.func150 rfl (by kernel_rfl) Tryz.ntmps150 rfl rfl (fun w => ?_)
 refine WC_seq (WC_region ?_)
 refine WL_do rfl rfl rfl (D_box (cs := [_, _]) rfl rfl rfl) ?_
 rintro _ _ ⟨b1, rfl, rfl⟩
 refine WLa rfl (WL_nil (WQ_code (WC_seq ?_)))
 refine WC_draw _ [(0, true), (1, true), (2, true), (3, true), (4, true), (5, true), (6, false), (7, true), (8, true), (9, true), (10, true), (11, true), (12, true), (13, true)] followsMixed rfl rfl (by kernel_rfl) .all ?_
 refine WMa rfl (WMa rfl ?_)
 refine WM_val rfl rfl rfl rfl (R_fieldAddr rfl fa245_0 rfl) ?_
 refine WM_val rfl rfl rfl rfl (R_load rfl sc242 rfl (mmY) rfl) ?_
 refine WM_val rfl rfl rfl rfl (R_fieldAddr rfl fa160_0 rfl) ?_
 refine WM_val rfl rfl rfl rfl (R_load rfl sc3 rfl (mmY) rfl) ?_
 refine WM_do rfl rfl rfl rfl (D_call (hget_no m.g (wl L) ht.h N hno) rfl rfl rfl rfl (pqY)) ?_
 rintro _ _ ⟨_, ⟨rfl, rfl⟩, rfl⟩
 refine ⟨⟨_, pqY⟩, ?_⟩
 refine WMa rfl (WMa rfl (WMa rfl (WMa rfl (WMa rfl (WMa rfl (WMa rfl (WM_nil (WQ_code (WC_seq ?_)))))))))
 refine WC_draw _ [(0, true), (1, true), (2, true), (3, true), (4, true), (5, true), (6, true), (7, true), (8, true), (9, true), (10, true), (11, true), (12, true), (13, true), (14, true), (15, true), (16, true)] followsMixed rfl rfl (by kernel_rfl) .all ?_
 refine WMa rfl ?_
 refine WM_val rfl rfl rfl rfl (R_eql rfl rfl rfl) ?_
 refine WM_set (s := 20) (v := .bool false) rfl (by simp) ?_
 refine WMa rfl ?_
 refine WM_skip rfl rfl rfl rfl ?_
 refine WM_skip rfl rfl rfl rfl ?_
 refine WM_skip rfl rfl rfl rfl ?_
 refine WM_skip rfl rfl rfl rfl ?_
 refine WM_skip rfl rfl rfl rfl ?_
 refine WM_skip rfl rfl rfl rfl ?_
 refine WM_skip rfl rfl rfl rfl ?_
 refine WM_skip rfl rfl rfl rfl ?_
 refine WM_skip rfl rfl rfl rfl ?_
 refine WM_skip rfl rfl rfl rfl ?_
 refine WM_skip rfl rfl rfl rfl ?_
 refine WM_skip rfl rfl rfl rfl ?_
 refine WMa rfl (WMa rfl (WM_nil (WQ_code (WC_ret ?_))))
 refine WQ_ret rfl rfl (.cons (.tmp rfl) .nil) rfl (by
   exact ⟨rfl, rfl⟩) (pqY)
theorem mhas_yes (L : List Tm) (m : TmM) (ht : TIs L m) (t : Tm) (hm : t ∈ L) (hg : t.gone = false) (G : Int) (hG : -9223372036854775808 ≤ G ∧ G ≤ 9223372036854775807) : Spec Tryz.prog 150 [ptrH m.pt, .agg #[.int .i64 (t.n : Int), .int .i64 G]] (tmH m) (fun r H' => r = .bool (decide (G = (t.gen : Int))) ∧ H' = tmH m) := by
 have hw : toW t ∈ wl L := mem_wl.2 ⟨t, hm, hg, rfl⟩
 have htl := ht.r.len hm
 have hgn := ht.r.get htl
 have hla := ht.r.last t hm hg
 have hcl := cnt_le L t.n
 have hln := ht.r.ln
 have hnb := ht.nb
 have hng := ht.ng
 obtain ⟨bg, hbg⟩ := ht.own.some_of (by omega)
 refine Spec.of (E := [(0, ptrH m.pt), (1, .agg #[.int .i64 (t.n : Int), .int .i64 G])]) Tryz.func150 rfl (by kernel_rfl) Tryz.ntmps150 rfl rfl (fun w => ?_)
 refine WC_seq (WC_region ?_)
 refine WL_do rfl rfl rfl (D_box (cs := [_, _]) rfl rfl rfl) ?_
 rintro _ _ ⟨b1, rfl, rfl⟩
 refine WLa rfl (WL_nil (WQ_code (WC_seq ?_)))
 refine WC_draw _ [(0, true), (1, true), (2, true), (3, true), (4, true), (5, true), (6, false), (7, true), (8, true), (9, true), (10, true), (11, true), (12, true), (13, true)] followsMixed rfl rfl (by kernel_rfl) .all ?_
 refine WMa rfl (WMa rfl ?_)
 refine WM_val rfl rfl rfl rfl (R_fieldAddr rfl fa245_0 rfl) ?_
 refine WM_val rfl rfl rfl rfl (R_load rfl sc242 rfl (mmY) rfl) ?_
 refine WM_val rfl rfl rfl rfl (R_fieldAddr rfl fa160_0 rfl) ?_
 refine WM_val rfl rfl rfl rfl (R_load rfl sc3 rfl (mmY) rfl) ?_
 refine WM_do rfl rfl rfl rfl (D_call (hget_w m.g (wl L) ht.h (toW t) hw) rfl rfl rfl rfl (pqY)) ?_
 rintro _ _ ⟨_, ⟨rfl, rfl⟩, rfl⟩
 refine ⟨⟨_, pqY⟩, ?_⟩
 refine WMa rfl (WMa rfl (WMa rfl (WMa rfl (WMa rfl (WMa rfl (WMa rfl (WM_nil (WQ_code (WC_seq ?_)))))))))
 refine WC_draw _ [(0, true), (1, true), (2, true), (3, true), (4, true), (5, true), (6, true), (7, true), (8, true), (9, true), (10, true), (11, true), (12, true), (13, true), (14, true), (15, true), (16, true)] followsMixed rfl rfl (by kernel_rfl) .all ?_
 refine WMa rfl ?_
 refine WM_val rfl rfl rfl rfl (R_eql rfl rfl rfl) ?_
 refine WM_set (s := 20) (v := .bool true) rfl (by simp) ?_
 refine WMa rfl ?_
 rw [hbg]
 refine WMa rfl (WMa rfl ?_)
 refine WM_val rfl rfl rfl rfl (R_fieldAddr rfl fa245_1 rfl) ?_
 refine WM_val rfl rfl rfl rfl (R_load rfl sc34 rfl (mmY) rfl) ?_
 refine WM_val rfl rfl rfl rfl (R_fieldAddr rfl fa160_0 rfl) ?_
 refine WM_val rfl rfl rfl rfl (R_load rfl sc3 rfl (mmY) rfl) ?_
 refine WM_val rfl rfl rfl rfl (R_indexAddrN rfl Tryz.underlying34 Tryz.sizeOf3 rfl rfl (by omega)) ?_
 refine WM_val rfl rfl rfl rfl (R_load (v := .int .i64 ((cnt L t.n : Nat) : Int)) rfl sc3 rfl (mmY) (fm_get0 encN1 hgn (j := 0) (by omega))) ?_
 refine WM_val rfl rfl rfl rfl (R_fieldAddr rfl fa160_1 rfl) ?_
 refine WM_val rfl rfl rfl rfl (R_load rfl sc3 rfl (mmY) rfl) ?_
 refine WM_val rfl rfl rfl rfl (R_addW rfl rfl rfl) ?_
 refine WM_val rfl rfl rfl rfl (R_eql rfl rfl rfl) ?_
 refine WMa rfl (WMa rfl (WM_nil (WQ_code (WC_ret ?_))))
 rw [← hbg]
 refine WQ_ret rfl rfl (.cons (.tmp rfl) .nil) rfl (by
   exact ⟨congrArg Value.bool (by rw [decide_eq_decide, IntKind.wrap_i64]; omega), rfl⟩) (pqY)
theorem mhas_ok (L : List Tm) (m : TmM) (ht : TIs L m) (N G : Int) (hG : -9223372036854775808 ≤ G ∧ G ≤ 9223372036854775807) (d : Bool) (hd : d = true ↔ ∃ t ∈ L, t.gone = false ∧ (t.n : Int) = N ∧ (t.gen : Int) = G) : Spec Tryz.prog 150 [ptrH m.pt, .agg #[.int .i64 N, .int .i64 G]] (tmH m) (fun r H' => r = .bool d ∧ H' = tmH m) := by
 by_cases h : ∃ t ∈ L, t.gone = false ∧ (t.n : Int) = N
 ·obtain ⟨t, h1, h2, rfl⟩ := h
  refine (mhas_yes L m ht t h1 h2 G hG).mono fun r H' ⟨e1, e2⟩ => ⟨?_, e2⟩
  rw [e1, Value.bool.injEq, Bool.eq_iff_iff, decide_eq_true_iff, hd]
  constructor
  ·intro e; exact ⟨t, h1, h2, rfl, e.symm⟩
  ·rintro ⟨u, h3, h4, h5, h6⟩
   obtain ⟨i, hi⟩ := List.getElem?_of_mem h1
   obtain ⟨j, hj⟩ := List.getElem?_of_mem h3
   have e := ht.r.liveN hi hj h2 h4 (by omega)
   subst e
   rw [hi] at hj
   have := Option.some.inj hj
   subst this
   exact h6.symm
 ·refine (mhas_no L m ht N G fun t h1 h2 h3 => h ⟨t, h1, h2, h3⟩).mono fun r H' ⟨e1, e2⟩ => ⟨?_, e2⟩
  rw [e1]
  cases d with
  | false => rfl
  | true =>
   obtain ⟨t, h1, h2, h3, _⟩ := hd.1 rfl
   exact absurd ⟨t, h1, h2, h3⟩ h
theorem mstop_ok (L : List Tm) (m : TmM) (ht : TIs L m) (t : Tm) (hm : t ∈ L) (hg : t.gone = false) : Spec Tryz.prog 98 [ptrH m.pt, .agg #[.int .i64 (t.n : Int), .int .i64 (t.gen : Int)]] (tmH m) (fun r H' => ∃ m' : TmM, r = .int .i64 0 ∧ H' = tmH m' ∧ m'.pt = m.pt ∧ m'.g.n = m.g.n ∧ TIs (rmL L t.n) m') := by
 have hw : toW t ∈ wl L := mem_wl.2 ⟨t, hm, hg, rfl⟩
 have hla := ht.r.last t hm hg
 have hcl := cnt_le L t.n
 have hln := ht.r.ln
 have hnb := ht.nb
 refine Spec.of (E := [(0, ptrH m.pt), (1, .agg #[.int .i64 (t.n : Int), .int .i64 (t.gen : Int)])]) Tryz.func98 rfl (by kernel_rfl) Tryz.ntmps98 rfl rfl (fun w => ?_)
 refine WC_seq (WC_region ?_)
 refine WL_do rfl rfl rfl (D_box (cs := [_, _]) rfl rfl rfl) ?_
 rintro _ _ ⟨b1, rfl, rfl⟩
 refine WLa rfl (WL_nil (WQ_code (WC_seq (WC_block (WC_seq (WC_region (WLa rfl ?_)))))))
 refine WL_do rfl rfl rfl (D_call (mzero_ok m.pt m.g.p _) rfl rfl rfl rfl (pqY)) ?_
 rintro _ _ ⟨_, ⟨rfl, rfl⟩, rfl⟩
 refine WLa rfl (WL_nil (WQ_code ?_))
 refine WC_F rfl ?_
 refine WC_seq (WC_region (WLa rfl ?_))
 refine WL_val rfl rfl rfl (R_loadA (vs := [_, _]) rfl ag160 rfl (mmY) rfl (atZ)) ?_
 refine WL_do rfl rfl rfl (D_call (mhas_ok L m ht (t.n : Int) (t.gen : Int) (by omega) true ⟨fun _ => ⟨t, hm, hg, rfl, rfl⟩, fun _ => rfl⟩) rfl rfl rfl rfl (pqY)) ?_
 rintro _ _ ⟨_, ⟨rfl, rfl⟩, rfl⟩
 refine WL_val rfl rfl rfl (R_not rfl rfl) ?_
 refine WLa rfl (WL_nil (WQ_code ?_))
 refine WC_F rfl ?_
 refine WC_skip (WQ_code (WC_seq ?_))
 refine WC_drawR (gH m.g) [(0, true), (1, true), (2, true), (3, true), (4, true), (5, true), (6, false), (7, true)] followsMixed rfl rfl (by kernel_rfl) (pqY) ?_
 refine WMa rfl (WMa rfl ?_)
 refine WM_val rfl rfl rfl rfl (R_fieldAddr rfl fa245_0 rfl) ?_
 refine WM_val rfl rfl rfl rfl (R_load rfl sc242 rfl (mmY) rfl) ?_
 refine WM_val rfl rfl rfl rfl (R_fieldAddr rfl fa160_0 rfl) ?_
 refine WM_val rfl rfl rfl rfl (R_load rfl sc3 rfl (mmY) rfl) ?_
 refine WM_do rfl rfl rfl rfl (D_call (hrem_w m.g (wl L) ht.h (toW t) hw) rfl rfl rfl rfl (pqY)) ?_
 rintro _ _ ⟨_, ⟨g', rfl, rfl, hgp, hgn, hg'⟩, rfl⟩
 refine ⟨⟨_, pqY⟩, ?_⟩
 refine WMa rfl (WM_nil (WQ_code (WC_ret ?_)))
 rw [← hgp]
 refine WQ_ret rfl rfl (.cons (.tmp rfl) .nil) rfl (by
   exact ⟨⟨m.pt, g', m.og, m.ng, m.cg, m.tg, m.gv⟩, rfl, rfl, rfl, hgn, ⟨by rw [wl_rm]; exact hg', by dsimp only; rw [hgn]; exact ht.r.rm _, ht.ng, ht.own, ht.gl⟩⟩) (pqY)
def nxtL (L : List Tm) : Nat := match fstP L with
 | none => 18446744073709551615
 | some (_, t) => t.tm
theorem mnext_none (L : List Tm) (m : TmM) (ht : TIs L m) (h : fstP L = none) : Spec Tryz.prog 139 [ptrH m.pt] (tmH m) (fun r H' => r = .int .u64 18446744073709551615 ∧ H' = tmH m) := by
 have hg0 : HIs [] m.g := by have := ht.h; rw [wl_nil.2 h] at this; exact this
 refine Spec.of (E := [(0, ptrH m.pt)]) Tryz.func139 rfl (by kernel_rfl) Tryz.ntmps139 rfl rfl (fun w => ?_)
 refine WC_seq (WC_region (WLa rfl (WL_nil (WQ_code (WC_seq (WC_seq (WC_region (WLa rfl ?_))))))))
 refine WL_do rfl rfl rfl (D_call (mzero_ok m.pt m.g.p _) rfl rfl rfl rfl (pqY)) ?_
 rintro _ _ ⟨_, ⟨rfl, rfl⟩, rfl⟩
 refine WL_nil (WQ_code ?_)
 refine WC_F rfl ?_
 refine WC_skip (WQ_code (WC_seq (WC_region (WLa rfl (WLa rfl ?_)))))
 refine WL_val rfl rfl rfl (R_fieldAddr rfl fa245_0 rfl) ?_
 refine WL_val rfl rfl rfl (R_load rfl sc242 rfl (mmY) rfl) ?_
 refine WL_do rfl rfl rfl (D_call (htop_nil m.g hg0) rfl rfl rfl rfl (pqY)) ?_
 rintro _ _ ⟨_, ⟨rfl, rfl⟩, rfl⟩
 refine WLa rfl (WLa rfl (WLa rfl (WLa rfl (WLa rfl (WL_nil (WQ_code (WC_seq (WC_seq (WC_region (WLa rfl ?_))))))))))
 refine WL_val rfl rfl rfl (R_neq rfl rfl rfl) ?_
 refine WL_nil (WQ_code ?_)
 refine WC_dT rfl (by simp) ?_
 refine WC_seq (WC_region (WLa rfl (WL_nil (WQ_code (WC_ret ?_)))))
 refine WQ_ret rfl rfl (.cons (.tmp rfl) .nil) rfl (by
   exact ⟨rfl, rfl⟩) (pqY)
theorem mnext_some (L : List Tm) (m : TmM) (ht : TIs L m) (i : Nat) (t : Tm) (h : IsFst L i t) : Spec Tryz.prog 139 [ptrH m.pt] (tmH m) (fun r H' => r = .int .u64 (t.tm : Int) ∧ H' = tmH m) := by
 have hw := h.isMin ht.r
 refine Spec.of (E := [(0, ptrH m.pt)]) Tryz.func139 rfl (by kernel_rfl) Tryz.ntmps139 rfl rfl (fun w => ?_)
 refine WC_seq (WC_region (WLa rfl (WL_nil (WQ_code (WC_seq (WC_seq (WC_region (WLa rfl ?_))))))))
 refine WL_do rfl rfl rfl (D_call (mzero_ok m.pt m.g.p _) rfl rfl rfl rfl (pqY)) ?_
 rintro _ _ ⟨_, ⟨rfl, rfl⟩, rfl⟩
 refine WL_nil (WQ_code ?_)
 refine WC_F rfl ?_
 refine WC_skip (WQ_code (WC_seq (WC_region (WLa rfl (WLa rfl ?_)))))
 refine WL_val rfl rfl rfl (R_fieldAddr rfl fa245_0 rfl) ?_
 refine WL_val rfl rfl rfl (R_load rfl sc242 rfl (mmY) rfl) ?_
 refine WL_do rfl rfl rfl (D_call (htop_w m.g (wl L) ht.h (toW t) hw) rfl rfl rfl rfl (pqY)) ?_
 rintro _ _ ⟨_, ⟨rfl, rfl⟩, rfl⟩
 refine WLa rfl (WLa rfl (WLa rfl (WLa rfl (WLa rfl (WL_nil (WQ_code (WC_seq (WC_seq (WC_region (WLa rfl ?_))))))))))
 refine WL_val rfl rfl rfl (R_neq rfl rfl rfl) ?_
 refine WL_nil (WQ_code ?_)
 refine WC_dF rfl (by simp) ?_
 refine WC_skip (WQ_code (WC_seq (WC_region (WLa rfl (WLa rfl ?_)))))
 refine WL_val rfl rfl rfl (R_fieldAddr rfl fa245_0 rfl) ?_
 refine WL_val rfl rfl rfl (R_load rfl sc242 rfl (mmY) rfl) ?_
 refine WLa rfl ?_
 refine WL_do rfl rfl rfl (D_call (hget_w m.g (wl L) ht.h (toW t) hw.mem) rfl rfl rfl rfl (pqY)) ?_
 rintro _ _ ⟨_, ⟨rfl, rfl⟩, rfl⟩
 refine WLa rfl (WLa rfl (WLa rfl (WLa rfl (WLa rfl (WLa rfl (WLa rfl (WL_nil (WQ_code (WC_seq (WC_region (WLa rfl (WLa rfl (WL_nil (WQ_code (WC_ret ?_)))))))))))))))
 refine WQ_ret rfl rfl (.cons (.tmp rfl) .nil) rfl (by
   exact ⟨rfl, rfl⟩) (pqY)
theorem mnext_ok (L : List Tm) (m : TmM) (ht : TIs L m) : Spec Tryz.prog 139 [ptrH m.pt] (tmH m) (fun r H' => r = .int .u64 (nxtL L : Int) ∧ H' = tmH m) := by
 unfold nxtL
 cases h : fstP L with
 | none => exact mnext_none L m ht h
 | some x => obtain ⟨i, t⟩ := x; exact mnext_some L m ht i t (fstP_some h)
end Go.Proofs.YtbkdebnkoidicaaGreat
end
section
set_option linter.unusedVariables false
set_option maxRecDepth 20000
set_option maxHeartbeats 2000000
namespace Go.Proofs.YtbkdebnkoidicaaGreat
theorem gv_add {gv gv1 : List Nat} {f c : Nat} (hx : gv1[f]? = some c) (h1 : ∀ k, gv1.getD k 0 = gv.getD k 0) (k : Nat) : (gv1.set f (c + 1)).getD k 0 = gv.getD k 0 + (if f = k then 1 else 0) := by
 have hl := (List.getElem?_eq_some_iff.1 hx).1
 rw [← h1, List.getD_eq_getElem?_getD, List.getD_eq_getElem?_getD, List.getElem?_set]
 by_cases e : f = k
 ·subst e; rw [if_pos rfl, if_pos rfl, if_pos hl, hx]; rfl
 ·simp [e]
theorem gv_zero (gv : List Nat) (k : Nat) : (gv ++ [0]).getD k 0 = gv.getD k 0 := by
 rw [List.getD_eq_getElem?_getD, List.getD_eq_getElem?_getD]
 rcases Nat.lt_trichotomy k gv.length with h | h | h
 ·rw [List.getElem?_append_left h]
 ·subst h; simp
 ·rw [List.getElem?_eq_none_iff.2 (by simp; omega), List.getElem?_eq_none_iff.2 (by omega)]
theorem mset_ok (L : List Tm) (m : TmM) (ht : TIs L m) (hroom : (live L).length < 1024) (hb : m.g.n + 1 < 9000000000000000000) (f : Nat) (hf : IsFree (wl L) f) (k : Nat) (hk : k < 18446744073709551615) (own : Int) : Spec Tryz.prog 100 [ptrH m.pt, .int .u64 (k : Int), .int .i64 own] (tmH m)
  (fun r H' => ∃ m' : TmM, r = .tuple #[.agg #[.int .i64 (f : Int), .int .i64 (cnt L f : Int)], .int .i64 0] ∧ H' = tmH m' ∧ m'.pt = m.pt ∧ m'.g.n = m.g.n + 1 ∧ TIs (L ++ [⟨f, cnt L f, own, k, false, m.g.n + 1⟩]) m') := by
 have hll : (wl L).length = (live L).length := List.length_map ..
 have hfl := ht.r.free hf
 have hfw := hf.le
 have hgl := ht.gl
 have hng := ht.ng
 have hcl := cnt_le L f
 have hln := ht.r.ln
 refine Spec.of (E := [(0, ptrH m.pt), (1, .int .u64 (k : Int)), (2, .int .i64 own)]) Tryz.func100 rfl (by kernel_rfl) Tryz.ntmps100 rfl rfl (fun w => ?_)
 refine WC_seq (WC_region ?_)
 refine WL_do rfl rfl rfl (D_alloc rfl zv160) ?_
 rintro _ _ ⟨b1, rfl, rfl⟩
 refine WLa rfl (WL_nil (WQ_code (WC_seq (WC_block (WC_seq (WC_region (WLa rfl ?_)))))))
 refine WL_do rfl rfl rfl (D_call (mzero_ok m.pt m.g.p _) rfl rfl rfl rfl (pqY)) ?_
 rintro _ _ ⟨_, ⟨rfl, rfl⟩, rfl⟩
 refine WLa rfl (WL_nil (WQ_code ?_))
 refine WC_F rfl ?_
 refine WC_seq (WC_region (WLa rfl ?_))
 refine WL_val rfl rfl rfl (R_eql rfl rfl rfl) ?_
 refine WLa rfl (WL_nil (WQ_code ?_))
 refine WC_dF rfl (by omega) ?_
 refine WC_skip (WQ_code (WC_seq (WC_region (WLa rfl (WLa rfl ?_)))))
 refine WL_val rfl rfl rfl (R_fieldAddr rfl fa245_0 rfl) ?_
 refine WL_val rfl rfl rfl (R_load rfl sc242 rfl (mmY) rfl) ?_
 refine WLa rfl (WLa rfl ?_)
 refine WL_do rfl rfl rfl (D_call (hpush_ok m.g (wl L) ht.h (by omega) hb f hf k own) rfl rfl rfl rfl (pqY)) ?_
 rintro _ _ ⟨_, ⟨g', rfl, rfl, hgp, hgn, hg'⟩, rfl⟩
 refine WLa rfl (WLa rfl (WLa rfl (WLa rfl (WLa rfl (WL_nil (WQ_code (WC_seq (WC_seq (WC_region (WLa rfl ?_))))))))))
 refine WL_val rfl rfl rfl (R_neq rfl rfl rfl) ?_
 refine WL_nil (WQ_code ?_)
 refine WC_dF rfl (by simp) ?_
 refine WC_skip (WQ_code (WC_seq (WC_seq (WC_region (WLa rfl (WLa rfl (WLa rfl ?_)))))))
 refine WL_val rfl rfl rfl (R_fieldAddr rfl fa245_1 rfl) ?_
 refine WL_val rfl rfl rfl (R_load rfl sc34 rfl (mmY) rfl) ?_
 refine WL_val rfl rfl rfl (R_len rfl Tryz.underlying34 rfl) ?_
 refine WL_val rfl rfl rfl (R_eql rfl rfl rfl) ?_
 refine WL_nil (WQ_code ?_)
 refine WC_dec rfl (fun c1 => ?_) (fun c1 => ?_)
 ·have hfe : f = m.ng := by omega
  have hx : (m.gv ++ [0])[f]? = some (cnt L f) := by rw [ht.r.gv, List.getD_eq_getElem?_getD, List.getElem?_eq_none_iff.2 (show m.gv.length ≤ f by omega), List.getElem?_append_right (by omega)]; simp [show f - m.gv.length = 0 by omega]
  refine WC_region (WLa rfl (WLa rfl (WLa rfl ?_)))
  refine WL_val rfl rfl rfl (R_fieldAddr rfl fa245_1 rfl) ?_
  refine WL_val rfl rfl rfl (R_load rfl sc34 rfl (mmY) rfl) ?_
  refine WL_do rfl rfl rfl (D_buildSlice rfl si34 rfl rfl rfl) ?_
  rintro _ _ ⟨b2, rfl, rfl⟩
  refine WL_do rfl rfl rfl (D_append rfl si34 rfl (ht.own) (plY) rfl (mmY) ((atZ : At _ 0 [_])) (rfl) (rfl) (by omega) (by omega)) ?_
  rintro _ _ ⟨ob3, cap3, tl3, rfl, own3, rfl⟩
  obtain ⟨bg, rfl⟩ := own3.some_of (by omega)
  rw [show ivn m.gv ++ [Value.int .i64 0] = ivn (m.gv ++ [0]) from by rw [ivn_snoc]; rfl] at own3 ⊢
  refine WLa rfl ?_
  refine WL_val rfl rfl rfl (R_fieldAddr rfl fa245_1 rfl) ?_
  refine WL_do0 rfl rfl (D_store (vs := [_]) rfl Tryz.sizeOf34 rfl rfl rfl rfl rfl (plY) (Nat.le_of_ble_eq_true rfl)) ?_
  rintro _ _ rfl
  refine WL_nil (WQ_code (WC_seq (WC_region (WLa rfl (WLa rfl ?_)))))
  refine WL_val rfl rfl rfl (R_fieldAddr rfl fa245_1 rfl) ?_
  refine WL_val rfl rfl rfl (R_load rfl sc34 rfl (mmY) rfl) ?_
  refine WLa rfl ?_
  refine WL_val rfl rfl rfl (R_indexAddrN rfl Tryz.underlying34 Tryz.sizeOf3 rfl rfl (by omega)) ?_
  refine WL_val rfl rfl rfl (R_load (v := .int .i64 ((cnt L f : Nat) : Int)) rfl sc3 rfl (mmY) (fm_get0 encN1 hx (j := 0) (by omega))) ?_
  refine WL_val rfl rfl rfl (R_addR (r := ((cnt L f + 1 : Nat) : Int)) rfl rfl rfl (by rw [IntWalk.i64_in _ (by omega)]; omega)) ?_
  refine WL_val rfl rfl rfl (R_indexAddrN rfl Tryz.underlying34 Tryz.sizeOf3 rfl rfl (by omega)) ?_
  refine WL_do0 rfl rfl (D_store (vs := [_]) rfl Tryz.sizeOf3 rfl rfl rfl rfl rfl (plY) (by exact fm_room0 encN1 (List.getElem?_eq_some_iff.1 hx).1 (j := 0) (by omega))) ?_
  rintro _ _ rfl
  have hput := fm_put0 encN1 (cnt L f + 1) hx (j := 0) (vs := [.int .i64 ((cnt L f + 1 : Nat) : Int)]) (by simp) rfl (tl := tl3)
  rw [Nat.add_zero] at hput
  rw [hput]
  refine WL_nil (WQ_code (WC_seq (WC_region (WLa rfl (WLa rfl (WLa rfl ?_))))))
  refine WL_val rfl rfl rfl (R_fieldAddr rfl fa245_1 rfl) ?_
  refine WL_val rfl rfl rfl (R_load rfl sc34 rfl (mmY) rfl) ?_
  refine WLa rfl ?_
  refine WL_val rfl rfl rfl (R_indexAddrN rfl Tryz.underlying34 Tryz.sizeOf3 rfl rfl (by omega)) ?_
  refine WL_val rfl rfl rfl (R_load (v := .int .i64 ((cnt L f + 1 : Nat) : Int)) rfl sc3 rfl (mmY) (fm_get0 encN1 (show ((m.gv ++ [0]).set f (cnt L f + 1))[f]? = some (cnt L f + 1) by rw [List.getElem?_set, if_pos rfl, if_pos (List.getElem?_eq_some_iff.1 hx).1]) (j := 0) (by omega))) ?_
  refine WL_val rfl rfl rfl (R_subR (r := ((cnt L f : Nat) : Int)) rfl rfl rfl (by rw [IntWalk.i64_in _ (by omega)]; omega)) ?_
  refine WL_val rfl rfl rfl (R_build rfl zv160 pl160 rfl rfl) ?_
  refine WL_do0 rfl rfl (D_store (vs := [_, _]) rfl Tryz.sizeOf160 rfl rfl rfl rfl rfl (plY) (Nat.le_of_ble_eq_true rfl)) ?_
  rintro _ _ rfl
  refine WLa rfl (WL_nil (WQ_code (WC_ret ?_)))
  rw [← hgp]
  refine WQ_ret rfl rfl (.cons (.cell (vs := [_, _]) rfl ag160 (mmY) rfl (atZ)) (.cons (.tmp rfl) .nil)) rfl (by
    exact ⟨⟨m.pt, g', some bg, m.ng + 1, cap3, tl3, (m.gv ++ [0]).set f (cnt L f + 1)⟩, rfl, rfl, rfl, hgn, ⟨by rw [wl_add _ _ rfl]; exact hg', by dsimp only; rw [hgn]; exact ht.r.add f own k hf (gv_add hx (gv_zero m.gv)), by dsimp only; rw [List.length_set]; simp [hng], own3.like (by simp only [fm_length encN1, List.length_set]), by dsimp only; omega⟩⟩) (pqY)
 ·have hfe : f < m.ng := by omega
  obtain ⟨bg, hbg⟩ := ht.own.some_of (by omega)
  have hx := ht.r.get (show f < m.gv.length by omega)
  rw [hbg]
  refine WC_skip (WQ_code (WC_seq (WC_region (WLa rfl (WLa rfl ?_)))))
  refine WL_val rfl rfl rfl (R_fieldAddr rfl fa245_1 rfl) ?_
  refine WL_val rfl rfl rfl (R_load rfl sc34 rfl (mmY) rfl) ?_
  refine WLa rfl ?_
  refine WL_val rfl rfl rfl (R_indexAddrN rfl Tryz.underlying34 Tryz.sizeOf3 rfl rfl (by omega)) ?_
  refine WL_val rfl rfl rfl (R_load (v := .int .i64 ((cnt L f : Nat) : Int)) rfl sc3 rfl (mmY) (fm_get0 encN1 hx (j := 0) (by omega))) ?_
  refine WL_val rfl rfl rfl (R_addR (r := ((cnt L f + 1 : Nat) : Int)) rfl rfl rfl (by rw [IntWalk.i64_in _ (by omega)]; omega)) ?_
  refine WL_val rfl rfl rfl (R_indexAddrN rfl Tryz.underlying34 Tryz.sizeOf3 rfl rfl (by omega)) ?_
  refine WL_do0 rfl rfl (D_store (vs := [_]) rfl Tryz.sizeOf3 rfl rfl rfl rfl rfl (plY) (by exact fm_room0 encN1 (List.getElem?_eq_some_iff.1 hx).1 (j := 0) (by omega))) ?_
  rintro _ _ rfl
  have hput := fm_put0 encN1 (cnt L f + 1) hx (j := 0) (vs := [.int .i64 ((cnt L f + 1 : Nat) : Int)]) (by simp) rfl (tl := m.tg)
  rw [Nat.add_zero] at hput
  rw [hput]
  refine WL_nil (WQ_code (WC_seq (WC_region (WLa rfl (WLa rfl (WLa rfl ?_))))))
  refine WL_val rfl rfl rfl (R_fieldAddr rfl fa245_1 rfl) ?_
  refine WL_val rfl rfl rfl (R_load rfl sc34 rfl (mmY) rfl) ?_
  refine WLa rfl ?_
  refine WL_val rfl rfl rfl (R_indexAddrN rfl Tryz.underlying34 Tryz.sizeOf3 rfl rfl (by omega)) ?_
  refine WL_val rfl rfl rfl (R_load (v := .int .i64 ((cnt L f + 1 : Nat) : Int)) rfl sc3 rfl (mmY) (fm_get0 encN1 (show (m.gv.set f (cnt L f + 1))[f]? = some (cnt L f + 1) by rw [List.getElem?_set, if_pos rfl, if_pos (List.getElem?_eq_some_iff.1 hx).1]) (j := 0) (by omega))) ?_
  refine WL_val rfl rfl rfl (R_subR (r := ((cnt L f : Nat) : Int)) rfl rfl rfl (by rw [IntWalk.i64_in _ (by omega)]; omega)) ?_
  refine WL_val rfl rfl rfl (R_build rfl zv160 pl160 rfl rfl) ?_
  refine WL_do0 rfl rfl (D_store (vs := [_, _]) rfl Tryz.sizeOf160 rfl rfl rfl rfl rfl (plY) (Nat.le_of_ble_eq_true rfl)) ?_
  rintro _ _ rfl
  refine WLa rfl (WL_nil (WQ_code (WC_ret ?_)))
  rw [← hgp]
  refine WQ_ret rfl rfl (.cons (.cell (vs := [_, _]) rfl ag160 (mmY) rfl (atZ)) (.cons (.tmp rfl) .nil)) rfl (by
    exact ⟨⟨m.pt, g', some bg, m.ng, m.cg, m.tg, m.gv.set f (cnt L f + 1)⟩, rfl, rfl, rfl, hgn, ⟨by rw [wl_add _ _ rfl]; exact hg', by dsimp only; rw [hgn]; exact ht.r.add f own k hf (gv_add hx (fun _ => rfl)), by dsimp only; rw [List.length_set]; simp [hng], (hbg ▸ ht.own).like (by simp only [fm_length encN1, List.length_set]), by dsimp only; omega⟩⟩) (pqY)
theorem passed_ok (a b : Nat) : Spec Tryz.prog 101 [.int .u64 (a : Int), .int .u64 (b : Int)] [] (fun r H' => r = .bool (decide (b ≠ 18446744073709551615 ∧ a ≤ b)) ∧ H' = []) := by
 refine Spec.of (E := [(0, .int .u64 (a : Int)), (1, .int .u64 (b : Int))]) Tryz.func101 rfl (by kernel_rfl) Tryz.ntmps101 rfl rfl (fun w => ?_)
 refine WC_seq (WC_region (WLa rfl (WL_nil (WQ_code (WC_seq (WC_region (WLa rfl ?_)))))))
 refine WL_val rfl rfl rfl (R_neq rfl rfl rfl) ?_
 refine WLa rfl ?_
 refine WL_splitD (s := 7) rfl (fun c1 => ?_) (fun c1 => ?_)
 ·have h7 : (b : Int) ≠ 18446744073709551615 := c1
  refine WLa rfl (WLa rfl ?_)
  refine WL_val rfl rfl rfl (R_leq rfl rfl rfl) ?_
  refine WLa rfl (WLa rfl (WL_nil (WQ_code (WC_ret ?_))))
  refine WQ_ret rfl rfl (.cons (.tmp rfl) .nil) rfl (by
    exact ⟨congrArg Value.bool (by rw [decide_eq_decide]; omega), rfl⟩) (pqY)
 ·have h7 : ¬ (b : Int) ≠ 18446744073709551615 := c1
  refine WL_skip rfl rfl rfl ?_
  refine WL_skip rfl rfl rfl ?_
  refine WL_skip rfl rfl rfl ?_
  refine WLa rfl (WLa rfl (WL_nil (WQ_code (WC_ret ?_))))
  refine WQ_ret rfl rfl (.cons (.tmp rfl) .nil) rfl (by
    exact ⟨congrArg Value.bool (by symm; rw [decide_eq_false_iff_not]; omega), rfl⟩) (pqY)
abbrev encDu (t : Tm) : List Value := [.int .i64 (t.n : Int), .int .i64 (t.gen : Int), .int .i64 t.own, .int .u64 (t.tm : Int)]
theorem encDu4 (t : Tm) : (encDu t).length = 4 := rfl
structure XpW where
 L : List Tm
 m : TmM
 d : List Tm
 ob : Option Nat
 c : Nat
 tl : List Value
theorem nxt_le {L : List Tm} {now : Nat} (h : nxtL L ≤ now) (hn : now < 18446744073709551615) : ∃ i t, IsFst L i t ∧ t.tm ≤ now := by
 unfold nxtL at h
 cases hf : fstP L with
 | none => rw [hf] at h; dsimp only at h; omega
 | some x => obtain ⟨i, t⟩ := x; rw [hf] at h; exact ⟨i, t, fstP_some hf, h⟩
theorem exp_fin (L : List Tm) (now n : Nat) (h : ¬ nxtL L ≤ now) : expL now n L = (L, []) := by
 cases n with
 | zero => rfl
 | succ n =>
  unfold nxtL at h
  rw [expL]
  cases hf : fstP L with
  | none => rfl
  | some x => obtain ⟨i, t⟩ := x; rw [hf] at h; dsimp only at h ⊢; rw [if_neg h]
theorem mexp_ok (L : List Tm) (m : TmM) (ht : TIs L m) (now : Nat) (hnow : now < 18446744073709551615) : Spec Tryz.prog 104 [ptrH m.pt, .int .u64 (now : Int)] (tmH m)
  (fun r H' => ∃ ob c tl, ∃ m' : TmM, r = slV ob (expL now (live L).length L).2.length c ∧ Own ob (expL now (live L).length L).2.length c 4 ((expL now (live L).length L).2.flatMap encDu) tl ∧
   H' = ⟨ob, cl ((expL now (live L).length L).2.flatMap encDu ++ tl) 193⟩ :: tmH m' ∧ m'.pt = m.pt ∧ m'.g.n = m.g.n ∧ TIs (expL now (live L).length L).1 m') := by
 refine Spec.of (E := [(0, ptrH m.pt), (1, .int .u64 (now : Int))]) Tryz.func104 rfl (by kernel_rfl) Tryz.ntmps104 rfl rfl (fun w => ?_)
 refine WC_seq (WC_region (WLa rfl (WL_nil (WQ_code (WC_seq (WC_region (WLa rfl (WL_nil (WQ_code (WC_seq (WC_block ?_)))))))))))
 refine WC_none 193 ?_
 refine WC_loopF (G := XpW) [5, 6, 7, 8, 9, 10, 11, 12, 13, 14, 15, 16, 17, 18, 19, 20, 21, 22, 23, 24, 25, 26, 27, 28, 29, 30, 31, 32, 33, 34, 35, 36, 37, 38, 39, 40, 41, 42, 43, 44, 45, 46, 47, 48, 49, 50, 51, 52, 53, 54] (fun y => TIs y.L y.m ∧ y.m.pt = m.pt ∧ y.m.g.n = m.g.n ∧ Own y.ob y.d.length y.c 4 (y.d.flatMap encDu) y.tl ∧ y.d.length + (live y.L).length ≤ 1024 ∧ expL now (live L).length L = ((expL now (live y.L).length y.L).1, y.d ++ (expL now (live y.L).length y.L).2)) (fun y => [(5, slV y.ob y.d.length y.c)]) (fun y => ⟨y.ob, cl (y.d.flatMap encDu ++ y.tl) 193⟩ :: tmH y.m) (fun y => (live y.L).length) (⟨L, m, [], none, 0, []⟩) (⟨ht, rfl, rfl, Own.empty 4, by have h1 := ht.h.hp.cap; rw [ht.h.hp.len, List.length_map] at h1; simpa using h1, rfl⟩) leZ (pqY) ?_
 rintro y ⟨hy, hyp, hyn, hyo, hyc, hye⟩
 rw [← hyp]
 refine WC_seq (WC_seq (WC_region (WLa rfl ?_)))
 refine WL_do rfl rfl rfl (D_call (mnext_ok y.L y.m hy) rfl rfl rfl rfl (pqY)) ?_
 rintro _ _ ⟨_, ⟨rfl, rfl⟩, rfl⟩
 refine WLa rfl ?_
 refine WL_do rfl rfl rfl (D_call (passed_ok (nxtL y.L) now) rfl rfl rfl rfl (pqY)) ?_
 rintro _ _ ⟨_, ⟨rfl, rfl⟩, rfl⟩
 refine WL_nil (WQ_code ?_)
 refine WC_dec rfl (fun c1 => ?_) (fun c1 => ?_)
 ·have hpass : now ≠ 18446744073709551615 ∧ nxtL y.L ≤ now := c1
  obtain ⟨i, t, hft, htn⟩ := nxt_le hpass.2 hnow
  have hw := hft.isMin hy.r
  have htm := List.mem_of_getElem? hft.at_
  have htl := hy.r.len htm
  have hgn0 := hy.r.get htl
  have hla := hy.r.last t htm hft.g
  have hcl := cnt_le y.L t.n
  have hln := hy.r.ln
  have hnb := hy.nb
  have hng := hy.ng
  obtain ⟨bg, hbg⟩ := hy.own.some_of (by omega)
  refine WC_skip (WQ_code (WC_block (WC_seq (WC_region (WLa rfl (WLa rfl ?_))))))
  refine WL_val rfl rfl rfl (R_fieldAddr rfl fa245_0 rfl) ?_
  refine WL_val rfl rfl rfl (R_load rfl sc242 rfl (mmY) rfl) ?_
  refine WL_do rfl rfl rfl (D_call (htop_w y.m.g (wl y.L) hy.h (toW t) hw) rfl rfl rfl rfl (pqY)) ?_
  rintro _ _ ⟨_, ⟨rfl, rfl⟩, rfl⟩
  refine WLa rfl (WLa rfl (WLa rfl (WLa rfl (WLa rfl (WL_nil (WQ_code (WC_seq (WC_region (WLa rfl (WLa rfl ?_))))))))))
  refine WL_val rfl rfl rfl (R_fieldAddr rfl fa245_0 rfl) ?_
  refine WL_val rfl rfl rfl (R_load rfl sc242 rfl (mmY) rfl) ?_
  refine WLa rfl ?_
  refine WL_do rfl rfl rfl (D_call (hget_w y.m.g (wl y.L) hy.h (toW t) hw.mem) rfl rfl rfl rfl (pqY)) ?_
  rintro _ _ ⟨_, ⟨rfl, rfl⟩, rfl⟩
  refine WLa rfl (WLa rfl (WLa rfl (WLa rfl (WLa rfl (WLa rfl (WLa rfl (WL_nil (WQ_code (WC_seq (WC_region ?_))))))))))
  rw [hbg]
  refine WLa rfl (WLa rfl (WLa rfl (WLa rfl ?_)))
  refine WL_val rfl rfl rfl (R_fieldAddr rfl fa245_1 rfl) ?_
  refine WL_val rfl rfl rfl (R_load rfl sc34 rfl (mmY) rfl) ?_
  refine WLa rfl ?_
  refine WL_val rfl rfl rfl (R_indexAddrN rfl Tryz.underlying34 Tryz.sizeOf3 rfl rfl (by (show t.n < y.m.ng); omega)) ?_
  refine WL_val rfl rfl rfl (R_load (v := .int .i64 ((cnt y.L t.n : Nat) : Int)) rfl sc3 rfl (mmY) (fm_get0 encN1 hgn0 (j := 0) (by omega))) ?_
  refine WL_val rfl rfl rfl (R_subR (r := ((t.gen : Nat) : Int)) rfl rfl rfl (by rw [IntWalk.i64_in _ (by omega)]; omega)) ?_
  refine WL_val rfl rfl rfl (R_build rfl zv160 pl160 rfl rfl) ?_
  refine WLa rfl (WLa rfl ?_)
  refine WL_val rfl rfl rfl (R_build rfl zv193 pl193 rfl rfl) ?_
  refine WL_do rfl rfl rfl (D_buildSlice rfl si190 rfl rfl rfl) ?_
  rintro _ _ ⟨b1, rfl, rfl⟩
  refine WL_do rfl rfl rfl (D_append rfl si190 rfl (hyo) (plY) rfl (mmY) ((atZ : At _ 0 [_, _, _, _])) (rfl) (rfl) (by omega) (by omega)) ?_
  rintro _ _ ⟨ob2, cap2, tl2, rfl, own2, rfl⟩
  rw [← hbg]
  rw [show y.d.flatMap encDu ++ [Value.int .i64 ((toW t).h : Int), Value.int .i64 (t.gen : Int), Value.int .i64 (toW t).v, Value.int .u64 ((toW t).k : Int)] = (y.d ++ [t]).flatMap encDu from by rw [List.flatMap_append]; rfl, show y.d.length + 1 = (y.d ++ [t]).length from by rw [List.length_append]; rfl] at *
  refine WLa rfl (WL_nil (WQ_code (WC_region (WLa rfl (WLa rfl ?_)))))
  refine WL_val rfl rfl rfl (R_fieldAddr rfl fa245_0 rfl) ?_
  refine WL_val rfl rfl rfl (R_load rfl sc242 rfl (mmY) rfl) ?_
  refine WLa rfl ?_
  refine WL_do rfl rfl rfl (D_call (hrem_w y.m.g (wl y.L) hy.h (toW t) hw.mem) rfl rfl rfl rfl (pqY)) ?_
  rintro _ _ ⟨_, ⟨g', rfl, rfl, hgp, hgn, hg'⟩, rfl⟩
  refine WL_nil ?_
  rw [← hgp]
  have hll := live_rm hy.r hft.at_ hft.g
  have hexp : expL now (live y.L).length y.L = ((expL now (live (rmL y.L t.n)).length (rmL y.L t.n)).1, t :: (expL now (live (rmL y.L t.n)).length (rmL y.L t.n)).2) := by rw [← hll, expL, hft.eq]; simp only [if_pos htn]
  rw [hexp] at hye
  refine WQ_nextF (⟨rmL y.L t.n, ⟨y.m.pt, g', y.m.og, y.m.ng, y.m.cg, y.m.tg, y.m.gv⟩, y.d ++ [t], ob2, cap2, tl2⟩) (⟨⟨by rw [wl_rm]; exact hg', by dsimp only; rw [hgn]; exact hy.r.rm _, hy.ng, hy.own, hy.gl⟩, rfl, by dsimp only; rw [hgn]; exact hyn, own2, by dsimp only; rw [List.length_append, List.length_singleton]; omega, by dsimp only; rw [hye, List.append_assoc]; rfl⟩) (by dsimp only; omega) leZ (psZ) rfl (pqY)
 ·have hpass : ¬ (now ≠ 18446744073709551615 ∧ nxtL y.L ≤ now) := c1
  have hfin := exp_fin y.L now (live y.L).length (by omega)
  rw [hfin, List.append_nil] at hye
  rw [hye]
  refine WC_exit (WQ_code (WC_seq (WC_region (WLa rfl (WLa rfl (WL_nil (WQ_code (WC_ret ?_))))))))
  refine WQ_ret rfl rfl (.cons (.tmp rfl) .nil) rfl (by
    exact ⟨y.ob, y.c, y.tl, y.m, rfl, hyo, rfl, rfl, hyn, hy⟩) (pqY)
theorem mcopy_ok (L : List Tm) (m : TmM) (ht : TIs L m) : Spec Tryz.prog 142 [ptrH m.pt] (tmH m) (fun r H' => ∃ m' : TmM, r = ptrH m'.pt ∧ H' = tmH m' ++ tmH m ∧ m'.g.n = m.g.n ∧ TIs L m') := by
 have hgl := ht.gl
 refine Spec.of (E := [(0, ptrH m.pt)]) Tryz.func142 rfl (by kernel_rfl) Tryz.ntmps142 rfl rfl (fun w => ?_)
 refine WC_seq (WC_region (WLa rfl (WL_nil (WQ_code (WC_seq (WC_seq (WC_region (WLa rfl ?_))))))))
 refine WL_do rfl rfl rfl (D_call (mzero_ok m.pt m.g.p _) rfl rfl rfl rfl (pqY)) ?_
 rintro _ _ ⟨_, ⟨rfl, rfl⟩, rfl⟩
 refine WL_nil (WQ_code ?_)
 refine WC_F rfl ?_
 refine WC_skip (WQ_code (WC_seq ?_))
 refine WC_draw _ [(0, true), (1, true), (2, true), (3, true), (5, true), (6, true), (7, true), (8, true), (4, false), (9, false), (10, true), (11, false), (12, true)] followsMixed rfl rfl (by kernel_rfl) .all ?_
 refine WMa rfl (WMa rfl ?_)
 refine WM_val rfl rfl rfl rfl (R_fieldAddr rfl fa245_0 rfl) ?_
 refine WM_val rfl rfl rfl rfl (R_load rfl sc242 rfl (mmY) rfl) ?_
 refine WMa rfl (WMa rfl ?_)
 refine WM_val rfl rfl rfl rfl (R_fieldAddr rfl fa245_1 rfl) ?_
 refine WM_val rfl rfl rfl rfl (R_load rfl sc34 rfl (mmY) rfl) ?_
 refine WM_do rfl rfl rfl rfl (D_call (hcopy_ok m.g (wl L) ht.h) rfl rfl rfl rfl (pqY)) ?_
 rintro _ _ ⟨_, ⟨g', rfl, rfl, hgn, hg'⟩, rfl⟩
 refine ⟨⟨_, pqY⟩, ?_⟩
 refine WM_do rfl rfl rfl rfl (D_call (hci_ok m.og m.ng m.cg (ivn m.gv) m.tg ht.own (oneN m.gv) (by omega)) rfl rfl rfl rfl (pqY)) ?_
 rintro _ _ ⟨_, ⟨o2, c2, t2, rfl, own2, rfl⟩, rfl⟩
 refine ⟨⟨_, pqY⟩, ?_⟩
 refine WM_val rfl rfl rfl rfl (R_build rfl zv245 pl245 rfl rfl) ?_
 refine WM_do rfl rfl rfl rfl (D_box (cs := [_, _]) rfl rfl rfl) ?_
 rintro _ _ ⟨b1, rfl, rfl⟩
 refine ⟨⟨_, pqY⟩, ?_⟩
 refine WMa rfl (WM_nil (WQ_code (WC_ret ?_)))
 refine WQ_ret rfl rfl (.cons (.tmp rfl) .nil) rfl (by
   exact ⟨⟨_, g', o2, m.ng, c2, t2, m.gv⟩, rfl, rfl, hgn, ⟨hg', by dsimp only; rw [hgn]; exact ht.r, ht.ng, own2, ht.gl⟩⟩) (pqY)
end Go.Proofs.YtbkdebnkoidicaaGreat
end
section
set_option linter.unusedVariables false
set_option maxRecDepth 20000
namespace Go.Proofs.YtbkdebnkoidicaaGreat
theorem live_none {L : List Tm} (h : fstP L = none) : live L = [] := by
 have := wl_nil.2 h
 exact List.map_eq_nil_iff.1 this
def eL (now : Nat) (L : List Tm) : List Tm × List Tm := expL now (live L).length L
theorem eL_none {now : Nat} {L : List Tm} (h : fstP L = none) : eL now L = (L, []) := by rw [eL, live_none h]; rfl
theorem eL_gt {now : Nat} {L : List Tm} {i : Nat} {t : Tm} (h : fstP L = some (i, t)) (hn : ¬ t.tm ≤ now) : eL now L = (L, []) := by
 rw [eL]
 cases (live L).length with
 | zero => rfl
 | succ n => rw [expL, h]; dsimp only; rw [if_neg hn]
theorem eL_le {L : List Tm} {gv : List Nat} {n now : Nat} (r : TRel L gv n) {i : Nat} {t : Tm} (h : fstP L = some (i, t)) (hn : t.tm ≤ now) : eL now L = ((eL now (rmL L t.n)).1, t :: (eL now (rmL L t.n)).2) := by
 have hf := fstP_some h
 have := live_rm r hf.at_ hf.g
 rw [eL, ← this, expL, h]; dsimp only; rw [if_pos hn]; rfl
theorem eL_ind {now : Nat} (motive : List Tm → List Tm × List Tm → Prop) (h0 : ∀ L, fstP L = none → motive L (L, [])) (h1 : ∀ L i t, fstP L = some (i, t) → now < t.tm → motive L (L, []))
  (h2 : ∀ L gv n i t z, TRel L gv n → fstP L = some (i, t) → t.tm ≤ now → motive (rmL L t.n) z → motive L (z.1, t :: z.2)) : ∀ (k : Nat) (L : List Tm) (gv : List Nat) (n : Nat), TRel L gv n → (live L).length = k → motive L (eL now L) := by
 intro k
 induction k with
 | zero =>
  intro L gv n r hk
  have : fstP L = none := by
   cases h : fstP L with
   | none => rfl
   | some x =>
    obtain ⟨i, t⟩ := x
    have hf := fstP_some h
    have := live_rm r hf.at_ hf.g
    omega
  rw [eL_none this]; exact h0 L this
 | succ k ih =>
  intro L gv n r hk
  cases h : fstP L with
  | none => rw [eL_none h]; exact h0 L h
  | some x =>
   obtain ⟨i, t⟩ := x
   have hf := fstP_some h
   by_cases hn : t.tm ≤ now
   ·have := live_rm r hf.at_ hf.g
    rw [eL_le r h hn]
    exact h2 L gv n i t _ r h hn (ih _ gv n (r.rm _) (by omega))
   ·rw [eL_gt h hn]; exact h1 L i t h (by omega)
theorem rm_mem {L : List Tm} {k : Nat} {t : Tm} (h : t ∈ rmL L k) (hg : t.gone = false) : t ∈ L ∧ t.n ≠ k := by
 obtain ⟨u, hu, rfl⟩ := List.mem_map.1 h
 rw [rm1_gone, Bool.or_eq_false_iff] at hg
 have h2 : ¬ u.n = k := of_decide_eq_false hg.2
 rw [show rm1 k u = u from by unfold rm1; rw [if_neg (fun e => h2 e.2)]]
 exact ⟨hu, h2⟩
theorem eL_mem {L : List Tm} {gv : List Nat} {n now : Nat} (r : TRel L gv n) : ∀ t ∈ (eL now L).2, t ∈ L ∧ t.gone = false ∧ t.tm ≤ now := by
 refine eL_ind (fun L z => ∀ t ∈ z.2, t ∈ L ∧ t.gone = false ∧ t.tm ≤ now) (fun L _ t ht => by cases ht) (fun L i t _ _ u hu => by cases hu) (fun L gv n i t z r h hn ih u hu => ?_) _ L gv n r rfl
 have hf := fstP_some h
 rcases List.mem_cons.1 hu with rfl | hu
 ·exact ⟨List.mem_of_getElem? hf.at_, hf.g, hn⟩
 ·obtain ⟨a, b, c⟩ := ih u hu
  exact ⟨(rm_mem a b).1, b, c⟩
theorem HIs.free {W : List WE} {g : HM} (h : HIs W g) : ∃ f, IsFree W f := ⟨fr g.E, ⟨fun w hw e => h.hp.fr_out (e ▸ h.hp.inn hw), fun _ hj => (h.hp.mem _).1 (h.hp.below hj)⟩⟩
theorem TIs.live_len {L : List Tm} {m : TmM} (h : TIs L m) : (live L).length ≤ 1024 := by
 have h1 := h.h.hp.cap; rw [h.h.hp.len, List.length_map] at h1; exact h1
theorem mexp_e (L : List Tm) (m : TmM) (ht : TIs L m) (now : Nat) (hnow : now < 18446744073709551615) : Spec Tryz.prog 104 [ptrH m.pt, .int .u64 (now : Int)] (tmH m)
  (fun r H' => ∃ ob c tl, ∃ m' : TmM, r = slV ob (eL now L).2.length c ∧ Own ob (eL now L).2.length c 4 ((eL now L).2.flatMap encDu) tl ∧
   H' = ⟨ob, cl ((eL now L).2.flatMap encDu ++ tl) 193⟩ :: tmH m' ∧ m'.pt = m.pt ∧ m'.g.n = m.g.n ∧ TIs (eL now L).1 m') := mexp_ok L m ht now hnow
end Go.Proofs.YtbkdebnkoidicaaGreat
end
section
set_option linter.unusedVariables false
set_option maxRecDepth 20000
namespace Go.Proofs.YtbkdebnkoidicaaGreat
structure Sl where
 at_ : Nat
 set : Bool
 n : Nat
 gen : Nat
abbrev encSl (s : Sl) : List Value := [.int .u64 (s.at_ : Int), .bool s.set, .int .i64 (s.n : Int), .int .i64 (s.gen : Int)]
theorem encSl4 (s : Sl) : (encSl s).length = 4 := rfl
def updF (f : Nat → Nat) (i k : Nat) : Nat → Nat := fun j => if j = i then k else f j
theorem updF_self (f : Nat → Nat) (i k : Nat) : updF f i k i = k := by simp [updF]
theorem updF_ne (f : Nat → Nat) {i j : Nat} (k : Nat) (h : j ≠ i) : updF f i k j = f j := by simp [updF, h]
structure DRel (f : Nat → Nat) (now : Nat) (L : List Tm) (S : List Sl) : Prop where
 nv : now < 18446744073709551615
 len : S.length = 256
 at_ : ∀ (i : Nat) (s : Sl), S[i]? = some s → s.at_ = f i ∧ f i ≤ 18446744073709551615
 set_ : ∀ (i : Nat) (s : Sl), S[i]? = some s → (s.set = true ↔ (now < f i ∧ f i < 18446744073709551615))
 fwd : ∀ (i : Nat) (s : Sl), S[i]? = some s → s.set = true → ∃ t ∈ L, t.gone = false ∧ t.n = s.n ∧ t.gen = s.gen ∧ t.own = (i : Int) ∧ t.tm = s.at_
 bck : ∀ t ∈ L, t.gone = false → ∃ (i : Nat) (s : Sl), t.own = (i : Int) ∧ S[i]? = some s ∧ s.set = true ∧ s.n = t.n ∧ s.gen = t.gen ∧ s.at_ = t.tm
 small : ∀ (i : Nat) (s : Sl), S[i]? = some s → s.n ≤ 1000000000 ∧ s.gen ≤ 9000000000000000000
theorem rmL_mem {L : List Tm} {k : Nat} {t : Tm} (h : t ∈ rmL L k) (hg : t.gone = false) : t ∈ L ∧ t.n ≠ k := by
 obtain ⟨u, hu, rfl⟩ := List.mem_map.1 h
 rw [rm1_gone, Bool.or_eq_false_iff] at hg
 have hne : u.n ≠ k := of_decide_eq_false hg.2
 have e : rm1 k u = u := by unfold rm1; rw [if_neg (fun q => hne q.2)]
 rw [e]; exact ⟨hu, hne⟩
theorem mem_rm {L : List Tm} {k : Nat} {t : Tm} (h : t ∈ L) (hn : t.n ≠ k) : t ∈ rmL L k :=
 List.mem_map.2 ⟨t, h, by unfold rm1; rw [if_neg (fun q => hn q.2)]⟩
theorem TRel.same {L : List Tm} {gv : List Nat} {n : Nat} (r : TRel L gv n) {a b : Tm} (ha : a ∈ L) (hb : b ∈ L) (h1 : a.gone = false) (h2 : b.gone = false) (h : a.n = b.n) : a = b := by
 obtain ⟨i, hi⟩ := List.getElem?_of_mem ha
 obtain ⟨j, hj⟩ := List.getElem?_of_mem hb
 obtain rfl := r.liveN hi hj h1 h2 h
 rw [hi] at hj
 exact Option.some.inj hj
structure Cut (L L1 : List Tm) (i : Nat) : Prop where
 a : ∀ t ∈ L1, t.gone = false → t ∈ L ∧ t.own ≠ (i : Int)
 b : ∀ t ∈ L, t.gone = false → t.own ≠ (i : Int) → t ∈ L1
section
variable {f : Nat → Nat} {now : Nat} {L : List Tm} {S : List Sl} {gv : List Nat} {n : Nat}
theorem DRel.cut (h : DRel f now L S) (r : TRel L gv n) {i : Nat} {s : Sl} (hs : S[i]? = some s) {t : Tm} (ht : t ∈ L) (hg : t.gone = false) (hn : t.n = s.n) (ho : t.own = (i : Int)) : Cut L (rmL L t.n) i := by
 refine ⟨fun u hu hug => ?_, fun u hu hug hne => ?_⟩
 ·obtain ⟨h1, h2⟩ := rmL_mem hu hug
  refine ⟨h1, fun e => h2 ?_⟩
  obtain ⟨j, s2, q1, q2, _, q4, _⟩ := h.bck u h1 hug
  obtain rfl : i = j := by omega
  rw [hs] at q2
  obtain rfl := Option.some.inj q2
  rw [← q4, hn]
 ·refine mem_rm hu fun e => hne ?_
  rw [r.same hu ht hug hg e]; exact ho
theorem DRel.cut0 (h : DRel f now L S) {i : Nat} {s : Sl} (hs : S[i]? = some s) (h0 : s.set = false) : Cut L L i := by
 refine ⟨fun u hu hug => ⟨hu, fun e => ?_⟩, fun u hu _ _ => hu⟩
 obtain ⟨j, s2, q1, q2, q3, _⟩ := h.bck u hu hug
 obtain rfl : i = j := by omega
 rw [hs] at q2
 obtain rfl := Option.some.inj q2
 rw [h0] at q3; cases q3
theorem set_get {S : List Sl} {i j : Nat} {x s : Sl} (h : (S.set i x)[j]? = some s) : (i = j ∧ s = x ∧ i < S.length) ∨ (i ≠ j ∧ S[j]? = some s) := by
 rw [List.getElem?_set] at h
 by_cases e : i = j
 ·rw [if_pos e] at h
  by_cases hl : i < S.length
  ·rw [if_pos hl] at h; exact .inl ⟨e, (Option.some.inj h).symm, hl⟩
  ·rw [if_neg hl] at h; cases h
 ·rw [if_neg e] at h; exact .inr ⟨e, h⟩
theorem set_ne {S : List Sl} {i j : Nat} {x s : Sl} (e : i ≠ j) (h : S[j]? = some s) : (S.set i x)[j]? = some s := by rw [List.getElem?_set, if_neg e]; exact h
theorem set_eq {S : List Sl} {i : Nat} {x s : Sl} (h : S[i]? = some s) : (S.set i x)[i]? = some x := by rw [List.getElem?_set, if_pos rfl, if_pos (List.getElem?_eq_some_iff.1 h).1]
theorem DRel.off (h : DRel f now L S) {i : Nat} {s : Sl} (hs : S[i]? = some s) {L1 : List Tm} (hc : Cut L L1 i) {k : Nat} (hk : k ≤ 18446744073709551615) (hn : ¬ (now < k ∧ k < 18446744073709551615)) : DRel (updF f i k) now L1 (S.set i ⟨k, false, 0, 0⟩) := by
 refine ⟨h.nv, by rw [List.length_set]; exact h.len, fun j x hx => ?_, fun j x hx => ?_, fun j x hx hxs => ?_, fun t ht hg => ?_, fun j x hx => ?_⟩
 ·rcases set_get hx with ⟨rfl, rfl, _⟩ | ⟨e, hx⟩
  ·rw [updF_self]; exact ⟨rfl, hk⟩
  ·rw [updF_ne f k (Ne.symm e)]; exact h.at_ j x hx
 ·rcases set_get hx with ⟨rfl, rfl, _⟩ | ⟨e, hx⟩
  ·rw [updF_self]; exact ⟨fun q => (by cases q), fun q => absurd q hn⟩
  ·rw [updF_ne f k (Ne.symm e)]; exact h.set_ j x hx
 ·rcases set_get hx with ⟨rfl, rfl, _⟩ | ⟨e, hx⟩
  ·cases hxs
  ·obtain ⟨t, q1, q2, q3, q4, q5, q6⟩ := h.fwd j x hx hxs
   exact ⟨t, hc.b t q1 q2 (by rw [q5]; omega), q2, q3, q4, q5, q6⟩
 ·obtain ⟨q1, q2⟩ := hc.a t ht hg
  obtain ⟨j, x, q3, q4, q5⟩ := h.bck t q1 hg
  exact ⟨j, x, q3, set_ne (fun e => q2 (by rw [q3, e])) q4, q5⟩
 ·rcases set_get hx with ⟨rfl, rfl, _⟩ | ⟨e, hx⟩
  ·exact ⟨Nat.zero_le _, Nat.zero_le _⟩
  ·exact h.small j x hx
theorem DRel.on (h : DRel f now L S) {i : Nat} {s : Sl} (hs : S[i]? = some s) {L1 : List Tm} (hc : Cut L L1 i) {k : Nat} (h1 : now < k) (h2 : k < 18446744073709551615) (a g q : Nat) (ha : a ≤ 1000000000) (hg9 : g ≤ 9000000000000000000) : DRel (updF f i k) now (L1 ++ [⟨a, g, (i : Int), k, false, q⟩]) (S.set i ⟨k, true, a, g⟩) := by
 refine ⟨h.nv, by rw [List.length_set]; exact h.len, fun j x hx => ?_, fun j x hx => ?_, fun j x hx hxs => ?_, fun t ht hg => ?_, fun j x hx => ?_⟩
 ·rcases set_get hx with ⟨rfl, rfl, _⟩ | ⟨e, hx⟩
  ·rw [updF_self]; exact ⟨rfl, by omega⟩
  ·rw [updF_ne f k (Ne.symm e)]; exact h.at_ j x hx
 ·rcases set_get hx with ⟨rfl, rfl, _⟩ | ⟨e, hx⟩
  ·rw [updF_self]; exact ⟨fun _ => ⟨h1, h2⟩, fun _ => rfl⟩
  ·rw [updF_ne f k (Ne.symm e)]; exact h.set_ j x hx
 ·rcases set_get hx with ⟨rfl, rfl, _⟩ | ⟨e, hx⟩
  ·exact ⟨_, List.mem_append_right _ (List.mem_singleton.2 rfl), rfl, rfl, rfl, rfl, rfl⟩
  ·obtain ⟨t, q1, q2, q3, q4, q5, q6⟩ := h.fwd j x hx hxs
   exact ⟨t, List.mem_append_left _ (hc.b t q1 q2 (by rw [q5]; omega)), q2, q3, q4, q5, q6⟩
 ·rcases List.mem_append.1 ht with ht | ht
  ·obtain ⟨q1, q2⟩ := hc.a t ht hg
   obtain ⟨j, x, q3, q4, q5⟩ := h.bck t q1 hg
   exact ⟨j, x, q3, set_ne (fun e => q2 (by rw [q3, e])) q4, q5⟩
  ·rw [List.mem_singleton] at ht
   subst ht
   exact ⟨i, _, rfl, set_eq hs, rfl, rfl, rfl, rfl⟩
 ·rcases set_get hx with ⟨rfl, rfl, _⟩ | ⟨e, hx⟩
  ·exact ⟨ha, hg9⟩
  ·exact h.small j x hx
theorem live_nodup (r : TRel L gv n) : (live L).Pairwise (fun a b => a.n ≠ b.n) := by
 rw [List.pairwise_iff_getElem]
 intro i j hi hj hij e
 obtain ⟨m1, g1⟩ := mem_live.1 (List.getElem_mem hi)
 obtain ⟨m2, g2⟩ := mem_live.1 (List.getElem_mem hj)
 have e1 := r.same m1 m2 g1 g2 e
 have hs : (live L).Pairwise (fun a b => a.sq < b.sq) := (r.inc.imp fun {a b} q => q.1).filter _
 have := List.pairwise_iff_getElem.1 hs i j hi hj hij
 rw [e1] at this; omega
theorem DRel.few (h : DRel f now L S) (r : TRel L gv n) : (live L).length ≤ 256 := by
 have hnd : ((live L).map (fun t => t.own.toNat)).Nodup := by
  rw [List.Nodup, List.pairwise_map]
  refine (List.Pairwise.and_mem.1 (live_nodup r)).imp fun {a b} ⟨ha, hb, hne⟩ e => hne ?_
  obtain ⟨m1, g1⟩ := mem_live.1 ha
  obtain ⟨m2, g2⟩ := mem_live.1 hb
  obtain ⟨i, s1, q1, q2, _, q4, _⟩ := h.bck a m1 g1
  obtain ⟨j, s2, p1, p2, _, p4, _⟩ := h.bck b m2 g2
  obtain rfl : i = j := by omega
  rw [q2] at p2
  obtain rfl := Option.some.inj p2
  rw [← q4, p4]
 have := List.Nodup.length_le_of_subset hnd (l₂ := List.range 256) fun x hx => by
  obtain ⟨t, ht, rfl⟩ := List.mem_map.1 hx
  obtain ⟨m1, g1⟩ := mem_live.1 ht
  obtain ⟨i, s1, q1, q2, _⟩ := h.bck t m1 g1
  have := (List.getElem?_eq_some_iff.1 q2).1
  rw [h.len] at this
  rw [List.mem_range]; omega
 rw [List.length_map, List.length_range] at this; exact this
structure Exps (to : Nat) (L : List Tm) (z : List Tm × List Tm) : Prop where
 keep : ∀ t, (t ∈ z.1 ∧ t.gone = false) ↔ (t ∈ L ∧ t.gone = false ∧ to < t.tm)
 out : ∀ t, t ∈ z.2 ↔ (t ∈ L ∧ t.gone = false ∧ t.tm ≤ to)
 nd : z.2.Pairwise (fun a b => a.n ≠ b.n)
theorem eL_exps (r : TRel L gv n) (to : Nat) : Exps to L (eL to L) := by
 refine eL_ind (now := to) (motive := fun L z => Exps to L z) (fun L h => ?_) (fun L i t h hlt => ?_) (fun L gv n i t z r h hle ih => ?_) (live L).length L gv n r rfl
 ·have hn := fstP_none.1 h
  exact ⟨fun t => ⟨fun q => (by have := hn t q.1; rw [q.2] at this; cases this), fun q => ⟨q.1, q.2.1⟩⟩, fun t => ⟨fun q => (by cases q), fun q => (by have := hn t q.1; rw [q.2.1] at this; cases this)⟩, .nil⟩
 ·have hf := fstP_some h
  have hall : ∀ u ∈ L, u.gone = false → to < u.tm := fun u hu hg => by
   obtain ⟨j, hj⟩ := List.getElem?_of_mem hu
   have := hf.min j u hj hg; omega
  exact ⟨fun u => ⟨fun q => ⟨q.1, q.2, hall u q.1 q.2⟩, fun q => ⟨q.1, q.2.1⟩⟩, fun u => ⟨fun q => (by cases q), fun q => (by have := hall u q.1 q.2.1; omega)⟩, .nil⟩
 ·have hf := fstP_some h
  have hm := List.mem_of_getElem? hf.at_
  refine ⟨fun u => ?_, fun u => ?_, ?_⟩
  ·rw [show ((z.1, t :: z.2) : List Tm × List Tm).1 = z.1 from rfl, ih.keep u]
   constructor
   ·rintro ⟨q1, q2, q3⟩
    exact ⟨(rmL_mem q1 q2).1, q2, q3⟩
   ·rintro ⟨q1, q2, q3⟩
    refine ⟨mem_rm q1 fun e => ?_, q2, q3⟩
    have := r.same q1 hm q2 hf.g e
    subst this; omega
  ·rw [show ((z.1, t :: z.2) : List Tm × List Tm).2 = t :: z.2 from rfl, List.mem_cons, ih.out u]
   constructor
   ·rintro (rfl | ⟨q1, q2, q3⟩)
    ·exact ⟨hm, hf.g, hle⟩
    ·exact ⟨(rmL_mem q1 q2).1, q2, q3⟩
   ·rintro ⟨q1, q2, q3⟩
    by_cases e : u.n = t.n
    ·exact .inl (r.same q1 hm q2 hf.g e)
    ·exact .inr ⟨mem_rm q1 e, q2, q3⟩
  ·refine List.pairwise_cons.2 ⟨fun u hu e => ?_, ih.nd⟩
   obtain ⟨q1, q2, _⟩ := (ih.out u).1 hu
   exact (rmL_mem q1 q2).2 e.symm
structure Clr (S S' : List Sl) (pre : List Tm) : Prop where
 len : S'.length = S.length
 get : ∀ (i : Nat) (s : Sl), S[i]? = some s → S'[i]? = some (if pre.any (fun t => decide (t.own = (i : Int))) = true then { s with set := false } else s)
theorem Clr.nil (S : List Sl) : Clr S S [] := ⟨rfl, fun i s h => by simpa using h⟩
theorem Clr.snoc {S S' : List Sl} {pre : List Tm} (h : Clr S S' pre) {t : Tm} {j : Nat} (hj : t.own = (j : Int)) {s' : Sl} (hs : S'[j]? = some s') : Clr S (S'.set j { s' with set := false }) (pre ++ [t]) := by
 refine ⟨by rw [List.length_set]; exact h.len, fun i s hi => ?_⟩
 have := h.get i s hi
 rw [List.getElem?_set, List.any_append]
 by_cases e : j = i
 ·subst e
  rw [if_pos rfl, if_pos (List.getElem?_eq_some_iff.1 hs).1]
  rw [hs] at this
  have e2 := Option.some.inj this
  rw [e2]
  simp only [List.any_cons, List.any_nil, hj, decide_true, Bool.or_false, Bool.or_true, if_true]
  split <;> rfl
 ·rw [if_neg e, this]
  have e2 : ¬ t.own = (i : Int) := by rw [hj]; omega
  simp [e2]
theorem any_own {pre : List Tm} {i : Nat} : pre.any (fun t => decide (t.own = (i : Int))) = true ↔ ∃ t ∈ pre, t.own = (i : Int) := by simp [List.any_eq_true]
theorem DRel.adv (h : DRel f now L S) (r : TRel L gv n) {to : Nat} (h1 : now ≤ to) (h2 : to < 18446744073709551615) {S' : List Sl} (hc : Clr S S' (eL to L).2) : DRel f to (eL to L).1 S' := by
 have hx := eL_exps r to
 have hget : ∀ (i : Nat) (s' : Sl), S'[i]? = some s' → ∃ s, S[i]? = some s ∧ s' = (if (eL to L).2.any (fun t => decide (t.own = (i : Int))) = true then { s with set := false } else s) := fun i s' hi => by
  have hl := (List.getElem?_eq_some_iff.1 hi).1
  rw [hc.len] at hl
  have hs := List.getElem?_eq_getElem hl
  have := hc.get i _ hs
  rw [hi] at this
  exact ⟨_, hs, Option.some.inj this⟩
 have hexp : ∀ (i : Nat) (s : Sl) (t : Tm), S[i]? = some s → t ∈ L → t.gone = false → t.own = (i : Int) → s.set = true ∧ s.n = t.n ∧ s.gen = t.gen ∧ s.at_ = t.tm := fun i s t hs ht hg ho => by
  obtain ⟨j, s2, q1, q2, q3⟩ := h.bck t ht hg
  obtain rfl : i = j := by omega
  rw [hs] at q2
  obtain rfl := Option.some.inj q2
  exact q3
 refine ⟨h2, by rw [hc.len]; exact h.len, fun i s' hs' => ?_, fun i s' hs' => ?_, fun i s' hs' hset => ?_, fun t ht hg => ?_, fun i s' hs' => ?_⟩
 ·obtain ⟨s, hs, rfl⟩ := hget i s' hs'
  have := h.at_ i s hs
  split <;> exact this
 ·obtain ⟨s, hs, rfl⟩ := hget i s' hs'
  have ha := h.at_ i s hs
  have hb := h.set_ i s hs
  by_cases e : (eL to L).2.any (fun t => decide (t.own = (i : Int))) = true
  ·rw [if_pos e]
   obtain ⟨t, ht, ho⟩ := any_own.1 e
   obtain ⟨q1, q2, q3⟩ := (hx.out t).1 ht
   have := hexp i s t hs q1 q2 ho
   exact ⟨fun q => (by cases q), fun q => by omega⟩
  ·rw [if_neg e, hb]
   refine ⟨fun q => ⟨?_, q.2⟩, fun q => ⟨by omega, q.2⟩⟩
   obtain ⟨t, q1, q2, q3, q4, q5, q6⟩ := h.fwd i s hs (hb.2 q)
   rcases Nat.lt_or_ge to t.tm with h9 | h9
   ·omega
   ·exact absurd (any_own.2 ⟨t, (hx.out t).2 ⟨q1, q2, h9⟩, q5⟩) e
 ·obtain ⟨s, hs, rfl⟩ := hget i s' hs'
  by_cases e : (eL to L).2.any (fun t => decide (t.own = (i : Int))) = true
  ·rw [if_pos e] at hset; cases hset
  ·rw [if_neg e] at hset ⊢
   obtain ⟨t, q1, q2, q3, q4, q5, q6⟩ := h.fwd i s hs hset
   refine ⟨t, ?_, q2, q3, q4, q5, q6⟩
   rcases Nat.lt_or_ge to t.tm with h9 | h9
   ·exact ((hx.keep t).2 ⟨q1, q2, h9⟩).1
   ·exact absurd (any_own.2 ⟨t, (hx.out t).2 ⟨q1, q2, h9⟩, q5⟩) e
 ·obtain ⟨q1, _, q3⟩ := (hx.keep t).1 ⟨ht, hg⟩
  obtain ⟨i, s, p1, p2, p3, p4, p5, p6⟩ := h.bck t q1 hg
  refine ⟨i, s, p1, ?_, p3, p4, p5, p6⟩
  rw [hc.get i s p2]
  congr 1
  split
  ·rename_i e
   obtain ⟨u, hu, ho⟩ := any_own.1 e
   obtain ⟨u1, u2, u3⟩ := (hx.out u).1 hu
   have := hexp i s u p2 u1 u2 ho
   have := r.same u1 q1 u2 hg (by omega)
   subst this; omega
  ·rfl
 ·obtain ⟨s, hs, rfl⟩ := hget i s' hs'
  have := h.small i s hs
  split <;> exact this
structure Lp where
 fd : Int
 dir : Int
 at_ : Nat
abbrev encLp (x : Lp) : List Value := [.int .i64 x.fd, .int .i64 x.dir, .int .u64 (x.at_ : Int)]
theorem encLp3 (x : Lp) : (encLp x).length = 3 := rfl
def lpI (f : Nat → Nat) (i : Nat) : Lp := ⟨((i / 2 : Nat) : Int), ((i % 2 : Nat) : Int), f i⟩
def lpT (t : Tm) : Lp := ⟨((t.own.toNat / 2 : Nat) : Int), ((t.own.toNat % 2 : Nat) : Int), t.tm⟩
def lpLt (a b : Lp) : Prop := a.at_ < b.at_ ∨ (a.at_ = b.at_ ∧ (a.fd < b.fd ∨ (a.fd = b.fd ∧ a.dir < b.dir)))
instance (a b : Lp) : Decidable (lpLt a b) := inferInstanceAs (Decidable (_ ∨ _))
theorem lp_irrefl (a : Lp) : ¬ lpLt a a := by unfold lpLt; omega
theorem lp_asymm {a b : Lp} (h1 : lpLt a b) (h2 : lpLt b a) : False := by unfold lpLt at *; omega
theorem lp_trans {a b c : Lp} (h1 : lpLt a b) (h2 : lpLt b c) : lpLt a c := by unfold lpLt at *; omega
theorem lp_tot {a b : Lp} (h1 : ¬ lpLt a b) (h2 : ¬ lpLt b a) : a = b := by
 obtain ⟨a1, a2, a3⟩ := a
 obtain ⟨b1, b2, b3⟩ := b
 unfold lpLt at h1 h2
 dsimp only at h1 h2
 obtain rfl : a1 = b1 := by omega
 obtain rfl : a2 = b2 := by omega
 obtain rfl : a3 = b3 := by omega
 rfl
theorem sorted_one : ∀ {A B : List Lp}, A.Pairwise lpLt → B.Pairwise lpLt → (∀ x, x ∈ A ↔ x ∈ B) → A = B
 | [], [], _, _, _ => rfl
 | [], b :: B, _, _, h => by have := (h b).2 (List.mem_cons_self ..); cases this
 | a :: A, [], _, _, h => by have := (h a).1 (List.mem_cons_self ..); cases this
 | a :: A, b :: B, ha, hb, h => by
  obtain ⟨a1, a2⟩ := List.pairwise_cons.1 ha
  obtain ⟨b1, b2⟩ := List.pairwise_cons.1 hb
  have e : a = b := by
   rcases List.mem_cons.1 ((h a).1 (List.mem_cons_self ..)) with e | m1
   ·exact e
   ·rcases List.mem_cons.1 ((h b).2 (List.mem_cons_self ..)) with e | m2
    ·exact e.symm
    ·exact (lp_asymm (a1 b m2) (b1 a m1)).elim
  subst e
  rw [sorted_one a2 b2 fun x => ?_]
  constructor
  ·intro hx
   rcases List.mem_cons.1 ((h x).1 (List.mem_cons_of_mem _ hx)) with e | m
   ·subst e; exact absurd (a1 x hx) (lp_irrefl x)
   ·exact m
  ·intro hx
   rcases List.mem_cons.1 ((h x).2 (List.mem_cons_of_mem _ hx)) with e | m
   ·subst e; exact absurd (b1 x hx) (lp_irrefl x)
   ·exact m
structure IsLap (f : Nat → Nat) (now to : Nat) (l : List Lp) : Prop where
 ord : l.Pairwise lpLt
 mem : ∀ x, x ∈ l ↔ ∃ i : Nat, i < 256 ∧ now < f i ∧ f i ≤ to ∧ x = lpI f i
theorem IsLap.one {to : Nat} {A B : List Lp} (ha : IsLap f now to A) (hb : IsLap f now to B) : A = B := sorted_one ha.ord hb.ord fun x => (ha.mem x).trans (hb.mem x).symm
theorem DRel.lpT (h : DRel f now L S) {t : Tm} (ht : t ∈ L) (hg : t.gone = false) : ∃ i : Nat, i < 256 ∧ t.own = (i : Int) ∧ t.tm = f i ∧ now < f i ∧ f i < 18446744073709551615 ∧ Go.Proofs.YtbkdebnkoidicaaGreat.lpT t = lpI f i := by
 obtain ⟨i, s, q1, q2, q3, q4, q5, q6⟩ := h.bck t ht hg
 have hl := (List.getElem?_eq_some_iff.1 q2).1
 rw [h.len] at hl
 have ha := h.at_ i s q2
 have hb := (h.set_ i s q2).1 q3
 refine ⟨i, hl, q1, by omega, hb.1, hb.2, ?_⟩
 unfold Go.Proofs.YtbkdebnkoidicaaGreat.lpT lpI
 rw [q1, Int.toNat_natCast, show t.tm = f i from by omega]
theorem DRel.laps (h : DRel f now L S) (r : TRel L gv n) {to : Nat} (h2 : to < 18446744073709551615) {l : List Lp} (hp : l.Perm ((eL to L).2.map Go.Proofs.YtbkdebnkoidicaaGreat.lpT)) (hs : l.Pairwise (fun a b => ¬ lpLt b a)) : IsLap f now to l := by
 have hx := eL_exps r to
 have hnd : ((eL to L).2.map Go.Proofs.YtbkdebnkoidicaaGreat.lpT).Nodup := by
  rw [List.Nodup, List.pairwise_map]
  refine (List.Pairwise.and_mem.1 hx.nd).imp fun {a b} ⟨ha, hb, hne⟩ e => hne ?_
  obtain ⟨a1, a2, _⟩ := (hx.out a).1 ha
  obtain ⟨b1, b2, _⟩ := (hx.out b).1 hb
  obtain ⟨i, s1, q1, q2, _, q4, _⟩ := h.bck a a1 a2
  obtain ⟨j, s2, p1, p2, _, p4, _⟩ := h.bck b b1 b2
  have : i = j := by
   have e1 := congrArg Lp.fd e
   have e2 := congrArg Lp.dir e
   unfold Go.Proofs.YtbkdebnkoidicaaGreat.lpT at e1 e2
   dsimp only at e1 e2
   rw [q1, p1, Int.toNat_natCast, Int.toNat_natCast] at e1 e2
   omega
  subst this
  rw [q2] at p2
  obtain rfl := Option.some.inj p2
  rw [← q4, p4]
 refine ⟨?_, fun x => ?_⟩
 ·have hn2 : l.Pairwise (fun a b => a ≠ b) := hp.nodup_iff.2 hnd
  refine (List.pairwise_and_iff.2 ⟨hs, hn2⟩).imp fun {a b} ⟨h3, h4⟩ => ?_
  by_cases e : lpLt a b
  ·exact e
  ·exact absurd (lp_tot e h3) h4
 ·rw [hp.mem_iff, List.mem_map]
  constructor
  ·rintro ⟨t, ht, rfl⟩
   obtain ⟨q1, q2, q3⟩ := (hx.out t).1 ht
   obtain ⟨i, hi, p1, p2, p3, p4, p5⟩ := h.lpT q1 q2
   exact ⟨i, hi, p3, by omega, p5⟩
  ·rintro ⟨i, hi, q1, q2, rfl⟩
   have hs2 := List.getElem?_eq_getElem (show i < S.length by rw [h.len]; exact hi)
   obtain ⟨t, p1, p2, p3, p4, p5, p6⟩ := h.fwd i _ hs2 ((h.set_ i _ hs2).2 ⟨q1, by omega⟩)
   have ha := h.at_ i _ hs2
   refine ⟨t, (hx.out t).2 ⟨p1, p2, by omega⟩, ?_⟩
   unfold Go.Proofs.YtbkdebnkoidicaaGreat.lpT lpI
   rw [p5, Int.toNat_natCast, p6, ha.1]
structure IsNx (f : Nat → Nat) (now k : Nat) : Prop where
 le : k ≤ 18446744073709551615 ∧ ∀ i, i < 256 → now < f i → k ≤ f i ∨ 18446744073709551615 ≤ f i
 is_ : k = 18446744073709551615 ∨ ∃ i : Nat, i < 256 ∧ now < f i ∧ f i = k ∧ k < 18446744073709551615
theorem IsNx.one {a b : Nat} (ha : IsNx f now a) (hb : IsNx f now b) : a = b := by
 have h1 := ha.le.1
 have h2 := hb.le.1
 rcases ha.is_ with e | ⟨i, i1, i2, i3, i4⟩ <;> rcases hb.is_ with q | ⟨j, j1, j2, j3, j4⟩
 ·omega
 ·have := ha.le.2 j j1 j2; omega
 ·have := hb.le.2 i i1 i2; omega
 ·have := ha.le.2 j j1 j2
  have := hb.le.2 i i1 i2
  omega
theorem DRel.next (h : DRel f now L S) : IsNx f now (nxtL L) := by
 have hall : ∀ i, i < 256 → now < f i → f i < 18446744073709551615 → ∃ t ∈ L, t.gone = false ∧ t.tm = f i := fun i hi h1 h2 => by
  have hs2 := List.getElem?_eq_getElem (show i < S.length by rw [h.len]; exact hi)
  obtain ⟨t, p1, p2, p3, p4, p5, p6⟩ := h.fwd i _ hs2 ((h.set_ i _ hs2).2 ⟨h1, h2⟩)
  have ha := h.at_ i _ hs2
  exact ⟨t, p1, p2, by rw [p6, ha.1]⟩
 unfold nxtL
 cases hf : fstP L with
 | none =>
  have hn := fstP_none.1 hf
  refine ⟨⟨Nat.le_refl _, fun i hi h1 => .inr ?_⟩, .inl rfl⟩
  rcases Nat.lt_or_ge (f i) 18446744073709551615 with h2 | h2
  ·obtain ⟨t, p1, p2, _⟩ := hall i hi h1 h2
   have := hn t p1
   rw [p2] at this; cases this
  ·exact h2
 | some z =>
  obtain ⟨j, t⟩ := z
  have hs := fstP_some hf
  obtain ⟨i, hi, q1, q2, q3, q4, _⟩ := h.lpT (List.mem_of_getElem? hs.at_) hs.g
  refine ⟨⟨by dsimp only; omega, fun i2 hi2 h1 => ?_⟩, .inr ⟨i, hi, q3, q2.symm, by dsimp only; omega⟩⟩
  rcases Nat.lt_or_ge (f i2) 18446744073709551615 with h2 | h2
  ·obtain ⟨u, p1, p2, p3⟩ := hall i2 hi2 h1 h2
   obtain ⟨k, hk⟩ := List.getElem?_of_mem p1
   have := hs.min k u hk p2
   dsimp only; omega
  ·exact .inr h2
theorem DRel.new {now : Nat} (h : now < 18446744073709551615) : DRel (fun _ => 18446744073709551615) now [] (List.replicate 256 ⟨18446744073709551615, false, 0, 0⟩) := by
 have hg : ∀ (i : Nat) (s : Sl), (List.replicate 256 (⟨18446744073709551615, false, 0, 0⟩ : Sl))[i]? = some s → s = ⟨18446744073709551615, false, 0, 0⟩ := fun i s hs => List.eq_of_mem_replicate (List.mem_of_getElem? hs)
 refine ⟨h, List.length_replicate, fun i s hs => by rw [hg i s hs]; exact ⟨rfl, Nat.le_refl _⟩, fun i s hs => ?_, fun i s hs hset => ?_, fun t ht => (by cases ht), fun i s hs => ?_⟩
 ·rw [hg i s hs]
  exact ⟨fun q => (by cases q), fun q => by omega⟩
 ·rw [hg i s hs] at hset; cases hset
 ·rw [hg i s hs]; exact ⟨Nat.zero_le _, Nat.zero_le _⟩
end
end Go.Proofs.YtbkdebnkoidicaaGreat
end
section
set_option linter.unusedVariables false
set_option maxRecDepth 20000
namespace Go.Proofs.YtbkdebnkoidicaaGreat
def cmpI (a b : Int) : Int := if a < b then -1 else if b < a then 1 else 0
def orL (l : List Int) : Int := (l.find? (fun x => decide (x ≠ 0))).getD 0
theorem orL_at : ∀ {l : List Int} {j : Nat} {x : Int}, l[j]? = some x → x ≠ 0 → (∀ (i : Nat) (y : Int), i < j → l[i]? = some y → y = 0) → orL l = x
 | [], j, x, h, _, _ => by cases h
 | a :: l, 0, x, h, hx, _ => by
  obtain rfl : a = x := by simpa using h
  simp [orL, hx]
 | a :: l, j + 1, x, h, hx, hz => by
  have ha : a = 0 := hz 0 a (Nat.succ_pos _) rfl
  have ih := orL_at (l := l) (j := j) (x := x) (by simpa using h) hx (fun i y hi hy => hz (i + 1) y (by omega) (by simpa using hy))
  rw [← ih, ha]; simp [orL]
theorem orL_none : ∀ {l : List Int}, (∀ (i : Nat) (y : Int), l[i]? = some y → y = 0) → orL l = 0
 | [], _ => rfl
 | a :: l, h => by
  have ha : a = 0 := h 0 a rfl
  have ih := orL_none (l := l) (fun i y hy => h (i + 1) y (by simpa using hy))
  rw [← ih, ha]; simp [orL]
theorem nani_ok (a : Int) : Spec Tryz.prog 189 [.int .i64 a] [] (fun r H' => r = .bool false ∧ H' = []) := by
 refine Spec.of (E := [(0, .int .i64 a)]) Tryz.func189 rfl (by kernel_rfl) Tryz.ntmps189 rfl rfl (fun w => ?_)
 refine WC_seq (WC_region (WLa rfl (WL_nil (WQ_code (WC_seq (WC_region (WLa rfl (WLa rfl ?_))))))))
 refine WL_val rfl rfl rfl (R_neq rfl rfl rfl) ?_
 refine WL_set (s := 5) (v := .bool false) rfl (by simp) ?_
 refine WLa rfl (WL_nil (WQ_code (WC_ret ?_)))
 refine WQ_ret rfl rfl (.cons (.tmp rfl) .nil) rfl (by
   exact ⟨rfl, rfl⟩) (pqY)
theorem nant_ok (a : Int) : Spec Tryz.prog 158 [.int .u64 a] [] (fun r H' => r = .bool false ∧ H' = []) := by
 refine Spec.of (E := [(0, .int .u64 a)]) Tryz.func158 rfl (by kernel_rfl) Tryz.ntmps158 rfl rfl (fun w => ?_)
 refine WC_seq (WC_region (WLa rfl (WL_nil (WQ_code (WC_seq (WC_region (WLa rfl (WLa rfl ?_))))))))
 refine WL_val rfl rfl rfl (R_neq rfl rfl rfl) ?_
 refine WL_set (s := 5) (v := .bool false) rfl (by simp) ?_
 refine WLa rfl (WL_nil (WQ_code (WC_ret ?_)))
 refine WQ_ret rfl rfl (.cons (.tmp rfl) .nil) rfl (by
   exact ⟨rfl, rfl⟩) (pqY)
theorem cmpi_ok (a b : Int) : Spec Tryz.prog 155 [.int .i64 a, .int .i64 b] [] (fun r H' => r = .int .i64 (cmpI a b) ∧ H' = []) := by
 refine Spec.of (E := [(0, .int .i64 a), (1, .int .i64 b)]) Tryz.func155 rfl (by kernel_rfl) Tryz.ntmps155 rfl rfl (fun w => ?_)
 refine WC_seq (WC_region (WLa rfl (WL_nil (WQ_code (WC_seq (WC_region (WLa rfl ?_)))))))
 refine WL_do rfl rfl rfl (D_call (nani_ok _) rfl rfl rfl rfl (pqY)) ?_
 rintro _ _ ⟨_, ⟨rfl, rfl⟩, rfl⟩
 refine WLa rfl (WL_nil (WQ_code (WC_seq (WC_region (WLa rfl ?_)))))
 refine WL_do rfl rfl rfl (D_call (nani_ok _) rfl rfl rfl rfl (pqY)) ?_
 rintro _ _ ⟨_, ⟨rfl, rfl⟩, rfl⟩
 refine WLa rfl (WL_nil (WQ_code (WC_seq (WC_seq (WC_region (WLa rfl (WL_nil (WQ_code ?_))))))))
 refine WC_F rfl ?_
 refine WC_skip (WQ_code (WC_seq (WC_seq (WC_region (WLa rfl (WL_nil (WQ_code ?_)))))))
 refine WC_F rfl ?_
 refine WC_skip (WQ_code (WC_seq (WC_seq (WC_region (WLa rfl (WLa rfl ?_))))))
 refine WL_val rfl rfl rfl (R_lss rfl rfl rfl) ?_
 refine WL_nil (WQ_code ?_)
 refine WC_dec rfl (fun c1 => ?_) (fun c1 => ?_)
 ·refine WC_seq (WC_region (WLa rfl (WL_nil (WQ_code (WC_ret ?_)))))
  refine WQ_ret rfl rfl (.cons (.tmp rfl) .nil) rfl (by
    exact ⟨congrArg (Value.int .i64) (by unfold cmpI; (repeat split) <;> omega), rfl⟩) (pqY)
 ·refine WC_skip (WQ_code (WC_seq (WC_seq (WC_region (WLa rfl (WLa rfl ?_))))))
  refine WL_val rfl rfl rfl (R_gtr rfl rfl rfl) ?_
  refine WL_nil (WQ_code ?_)
  refine WC_dec rfl (fun c2 => ?_) (fun c2 => ?_)
  ·refine WC_seq (WC_region (WLa rfl (WL_nil (WQ_code (WC_ret ?_)))))
   refine WQ_ret rfl rfl (.cons (.tmp rfl) .nil) rfl (by
     exact ⟨congrArg (Value.int .i64) (by unfold cmpI; (repeat split) <;> omega), rfl⟩) (pqY)
  ·refine WC_skip (WQ_code (WC_seq (WC_region (WLa rfl (WL_nil (WQ_code (WC_ret ?_)))))))
   refine WQ_ret rfl rfl (.cons (.tmp rfl) .nil) rfl (by
     exact ⟨congrArg (Value.int .i64) (by unfold cmpI; (repeat split) <;> omega), rfl⟩) (pqY)
theorem cmpt_ok (a b : Int) : Spec Tryz.prog 110 [.int .u64 a, .int .u64 b] [] (fun r H' => r = .int .i64 (cmpI a b) ∧ H' = []) := by
 refine Spec.of (E := [(0, .int .u64 a), (1, .int .u64 b)]) Tryz.func110 rfl (by kernel_rfl) Tryz.ntmps110 rfl rfl (fun w => ?_)
 refine WC_seq (WC_region (WLa rfl (WL_nil (WQ_code (WC_seq (WC_region (WLa rfl ?_)))))))
 refine WL_do rfl rfl rfl (D_call (nant_ok _) rfl rfl rfl rfl (pqY)) ?_
 rintro _ _ ⟨_, ⟨rfl, rfl⟩, rfl⟩
 refine WLa rfl (WL_nil (WQ_code (WC_seq (WC_region (WLa rfl ?_)))))
 refine WL_do rfl rfl rfl (D_call (nant_ok _) rfl rfl rfl rfl (pqY)) ?_
 rintro _ _ ⟨_, ⟨rfl, rfl⟩, rfl⟩
 refine WLa rfl (WL_nil (WQ_code (WC_seq (WC_seq (WC_region (WLa rfl (WL_nil (WQ_code ?_))))))))
 refine WC_F rfl ?_
 refine WC_skip (WQ_code (WC_seq (WC_seq (WC_region (WLa rfl (WL_nil (WQ_code ?_)))))))
 refine WC_F rfl ?_
 refine WC_skip (WQ_code (WC_seq (WC_seq (WC_region (WLa rfl (WLa rfl ?_))))))
 refine WL_val rfl rfl rfl (R_lss rfl rfl rfl) ?_
 refine WL_nil (WQ_code ?_)
 refine WC_dec rfl (fun c1 => ?_) (fun c1 => ?_)
 ·refine WC_seq (WC_region (WLa rfl (WL_nil (WQ_code (WC_ret ?_)))))
  refine WQ_ret rfl rfl (.cons (.tmp rfl) .nil) rfl (by
    exact ⟨congrArg (Value.int .i64) (by unfold cmpI; (repeat split) <;> omega), rfl⟩) (pqY)
 ·refine WC_skip (WQ_code (WC_seq (WC_seq (WC_region (WLa rfl (WLa rfl ?_))))))
  refine WL_val rfl rfl rfl (R_gtr rfl rfl rfl) ?_
  refine WL_nil (WQ_code ?_)
  refine WC_dec rfl (fun c2 => ?_) (fun c2 => ?_)
  ·refine WC_seq (WC_region (WLa rfl (WL_nil (WQ_code (WC_ret ?_)))))
   refine WQ_ret rfl rfl (.cons (.tmp rfl) .nil) rfl (by
     exact ⟨congrArg (Value.int .i64) (by unfold cmpI; (repeat split) <;> omega), rfl⟩) (pqY)
  ·refine WC_skip (WQ_code (WC_seq (WC_region (WLa rfl (WL_nil (WQ_code (WC_ret ?_)))))))
   refine WQ_ret rfl rfl (.cons (.tmp rfl) .nil) rfl (by
     exact ⟨congrArg (Value.int .i64) (by unfold cmpI; (repeat split) <;> omega), rfl⟩) (pqY)
theorem or_ok (b c : Nat) (l : List Int) (tl : List Value) (hl : l.length ≤ 1000) : Spec Tryz.prog 109 [.slice (some ⟨b, 0, none⟩) l.length c] [⟨some b, cl (l.flatMap encI ++ tl) 3⟩] (fun r H' => r = .int .i64 (orL l) ∧ H' = [⟨some b, cl (l.flatMap encI ++ tl) 3⟩]) := by
 refine Spec.of (E := [(0, .slice (some ⟨b, 0, none⟩) l.length c)]) Tryz.func109 rfl (by kernel_rfl) Tryz.ntmps109 rfl rfl (fun w => ?_)
 refine WC_seq (WC_region (WLa rfl (WL_nil (WQ_code (WC_seq (WC_region (WLa rfl (WL_nil (WQ_code (WC_seq (WC_seq (WC_region (WLa rfl ?_)))))))))))))
 refine WL_val rfl rfl rfl (R_len rfl Tryz.underlying34 rfl) ?_
 refine WLa rfl (WL_nil (WQ_code (WC_block ?_)))
 refine WC_loopF (G := Nat) [2, 5, 8, 9, 10, 11, 12, 13, 14, 15, 16] (fun j => j ≤ l.length ∧ ∀ i y, i < j → l[i]? = some y → y = 0) (fun j => [(8, .int .i64 (j : Int))]) (fun j => []) (fun j => l.length - j) (0) (⟨Nat.zero_le _, fun i y h => absurd h (Nat.not_lt_zero i)⟩) leZ (pqY) ?_
 rintro j ⟨hj, hz⟩
 refine WC_seq (WC_region ?_)
 refine WL_val rfl rfl rfl (R_lss rfl rfl rfl) ?_
 refine WL_nil (WQ_code (WC_seq ?_))
 refine WC_dec rfl (fun c1 => ?_) (fun c1 => ?_)
 ·refine WC_skip (WQ_code (WC_seq (WC_block (WC_seq (WC_region ?_)))))
  obtain ⟨x, hx⟩ := exE (T := l) (i := j) (by omega)
  refine WL_val rfl rfl rfl (R_indexAddrN rfl Tryz.underlying34 Tryz.sizeOf3 rfl rfl (by omega)) ?_
  refine WL_val rfl rfl rfl (R_load (v := .int .i64 x) rfl sc3 rfl (mmY) (fm_get0 encI1 hx (j := 0) (by omega))) ?_
  refine WLa rfl (WL_nil (WQ_code (WC_seq (WC_region (WLa rfl (WLa rfl ?_))))))
  refine WL_val rfl rfl rfl (R_neq rfl rfl rfl) ?_
  refine WL_nil (WQ_code ?_)
  refine WC_dec rfl (fun c2 => ?_) (fun c2 => ?_)
  ·refine WC_seq (WC_region (WLa rfl (WLa rfl (WL_nil (WQ_code (WC_ret ?_))))))
   refine WQ_ret rfl rfl (.cons (.tmp rfl) .nil) rfl (by
     exact ⟨congrArg (Value.int .i64) (orL_at hx (by omega) hz).symm, rfl⟩) (pqY)
  ·refine WC_skip (WQ_code (WC_region ?_))
   refine WL_val rfl rfl rfl (R_add rfl rfl rfl (by omega)) ?_
   refine WLa rfl (WL_nil ?_)
   refine WQ_nextF (j + 1) (⟨by omega, fun i y hi hy => by by_cases e : i = j; (subst e; rw [hx] at hy; obtain rfl := Option.some.inj hy; omega); (exact hz i y (by omega) hy)⟩) (by omega) leZ (psZ) rfl (pqY)
 ·refine WC_exit (WQ_code (WC_seq (WC_region (WLa rfl (WLa rfl (WL_nil (WQ_code (WC_ret ?_))))))))
  refine WQ_ret rfl rfl (.cons (.tmp rfl) .nil) rfl (by
    exact ⟨congrArg (Value.int .i64) (orL_none (fun i y hy => hz i y (by have h9 := (List.getElem?_eq_some_iff.1 hy).1; omega) hy)).symm, rfl⟩) (pqY)
end Go.Proofs.YtbkdebnkoidicaaGreat
end
section
set_option linter.unusedVariables false
set_option maxRecDepth 20000
set_option maxHeartbeats 1000000
namespace Go.Proofs.YtbkdebnkoidicaaGreat
abbrev dlV (pc pt : Nat) (S : List Sl) : List Value := ptrH pc :: ptrH pt :: S.flatMap encSl
structure DM where
 p : Nat
 pc : Nat
 L : List Tm
 S : List Sl
 m : TmM
abbrev dlH (now : Nat) (d : DM) : Heap := ⟨some d.p, cl (dlV d.pc d.m.pt d.S) 166⟩ :: ⟨some d.pc, cl [.bool true, .int .u64 (now : Int)] 241⟩ :: tmH d.m
structure DIs (f : Nat → Nat) (now : Nat) (d : DM) : Prop where
 r : DRel f now d.L d.S
 t : TIs d.L d.m
theorem dl_get {pc pt fd dir j : Nat} {S : List Sl} {s : Sl} (h : S[2 * fd + dir]? = some s) (hj : j < 4) : (dlV pc pt S)[0 + 2 + fd * 8 + dir * 4 + j]? = (encSl s)[j]? := by
 have := fm_get encSl4 h hj []
 rw [List.append_nil] at this
 rw [← this, show 0 + 2 + fd * 8 + dir * 4 + j = (2 * fd + dir) * 4 + j + 1 + 1 from by omega]
 rfl
theorem dl_at {pc pt fd dir j : Nat} {S : List Sl} {s : Sl} {vs : List Value} (h : S[2 * fd + dir]? = some s) (hv : At (encSl s) j vs) (hj : j + vs.length ≤ 4) : At (dlV pc pt S) (0 + 2 + fd * 8 + dir * 4 + j) vs := by
 intro m v hm
 have hl := (List.getElem?_eq_some_iff.1 hm).1
 rw [Nat.add_assoc, dl_get h (by omega)]
 exact hv m v hm
theorem dl_put {pc pt fd dir j : Nat} {S : List Sl} {s : Sl} (y : Sl) {vs : List Value} (h : S[2 * fd + dir]? = some s) (hj : j + vs.length ≤ 4) (hy : putAt (encSl s) j vs = encSl y) : putAt (dlV pc pt S) (0 + 2 + fd * 8 + dir * 4 + j) vs = dlV pc pt (S.set (2 * fd + dir) y) := by
 have h1 := fm_put encSl4 h hj hy []
 rw [List.append_nil, List.append_nil] at h1
 have h2 := putAt_append [ptrH pc, ptrH pt] (S.flatMap encSl) ((2 * fd + dir) * 4 + j) vs
 rw [h1] at h2
 rw [show 0 + 2 + fd * 8 + dir * 4 + j = [ptrH pc, ptrH pt].length + ((2 * fd + dir) * 4 + j) from by simp only [List.length_cons, List.length_nil]; omega]
 exact h2
theorem dl_len (pc pt : Nat) (S : List Sl) : (dlV pc pt S).length = 2 + S.length * 4 := by
 rw [List.length_cons, List.length_cons, fm_length encSl4]; omega
theorem dl_room {pc pt fd dir j n : Nat} {S : List Sl} (h : 2 * fd + dir < S.length) (hj : j + n ≤ 4) : 0 + 2 + fd * 8 + dir * 4 + j + n ≤ (dlV pc pt S).length := by
 rw [dl_len]; omega
theorem fill2 {a b : Value} {x y n : Nat} {tl : List Value} : fillL (a :: b :: tl) [(0, 1), (1, 1), (2, n)] [(0, ptrH x), (1, ptrH y)] = some (ptrH x :: ptrH y :: tl) := by
 have b1 : Nat.ble 1 (tl.length + 1 + 1) = true := Nat.ble_eq_true_of_le (by omega)
 have b2 : Nat.ble 2 (tl.length + 1 + 1) = true := Nat.ble_eq_true_of_le (by omega)
 simp [fillL, Value.cells, putAt_cons, putAt_nil, b1, b2]
theorem fill3 {a b : Value} {x y n : Nat} {tl S : List Value} (h1 : tl.length = n) (h2 : S.length = n) : fillL (a :: b :: tl) [(0, 1), (1, 1), (2, n)] [(0, ptrH x), (1, ptrH y), (2, .agg S.toArray)] = some (ptrH x :: ptrH y :: S) := by
 have h3 := putAt_append [ptrH x, ptrH y] tl 0 S
 rw [putAt_eq tl 0 S (by omega)] at h3
 simp only [List.take_zero, List.nil_append, Nat.zero_add] at h3
 rw [List.drop_eq_nil_of_le (by omega), List.append_nil] at h3
 have h4 : putAt (ptrH x :: ptrH y :: tl) 2 S = ptrH x :: ptrH y :: S := h3
 have b1 : Nat.ble 1 (n + 1 + 1) = true := Nat.ble_eq_true_of_le (by omega)
 have b2 : Nat.ble 2 (n + 1 + 1) = true := Nat.ble_eq_true_of_le (by omega)
 have b3 : Nat.ble (2 + n) (n + 1 + 1) = true := Nat.ble_eq_true_of_le (by omega)
 simp [fillL, Value.cells, putAt_cons, putAt_nil, h1, h2, h4, b1, b2, b3]
theorem rep_add {α : Type} (a b : Nat) (x : α) : List.replicate (a + b) x = List.replicate a x ++ List.replicate b x := by simp
def nwS (i : Nat) : List Sl := List.replicate (2 * i) ⟨18446744073709551615, false, 0, 0⟩ ++ List.replicate (256 - 2 * i) ⟨0, false, 0, 0⟩
theorem nw_put {pc pt i : Nat} (h : i < 128) : putAt (dlV pc pt (nwS i)) (0 + 2 + i * 8) [.int .u64 18446744073709551615, .bool false, .int .i64 0, .int .i64 0, .int .u64 18446744073709551615, .bool false, .int .i64 0, .int .i64 0] = dlV pc pt (nwS (i + 1)) := by
 have e1 : nwS i = List.replicate (2 * i) ⟨18446744073709551615, false, 0, 0⟩ ++ ([⟨0, false, 0, 0⟩, ⟨0, false, 0, 0⟩] ++ List.replicate (254 - 2 * i) ⟨0, false, 0, 0⟩) := by
  rw [nwS, show 256 - 2 * i = 2 + (254 - 2 * i) from by omega, rep_add]; rfl
 have e2 : nwS (i + 1) = List.replicate (2 * i) ⟨18446744073709551615, false, 0, 0⟩ ++ ([⟨18446744073709551615, false, 0, 0⟩, ⟨18446744073709551615, false, 0, 0⟩] ++ List.replicate (254 - 2 * i) ⟨0, false, 0, 0⟩) := by
  rw [nwS, show 2 * (i + 1) = 2 * i + 2 from by omega, rep_add, List.append_assoc, show 256 - (2 * i + 2) = 254 - 2 * i from by omega]; rfl
 have e3 : ∀ B : List Sl, dlV pc pt (List.replicate (2 * i) ⟨18446744073709551615, false, 0, 0⟩ ++ B) = ([ptrH pc, ptrH pt] ++ (List.replicate (2 * i) (⟨18446744073709551615, false, 0, 0⟩ : Sl)).flatMap encSl) ++ B.flatMap encSl := fun B => by
  simp only [dlV, List.flatMap_append, List.cons_append, List.nil_append]
 have e4 : ([ptrH pc, ptrH pt] ++ (List.replicate (2 * i) (⟨18446744073709551615, false, 0, 0⟩ : Sl)).flatMap encSl).length = 0 + 2 + i * 8 := by
  rw [List.length_append, fm_length encSl4, List.length_replicate]; simp only [List.length_cons, List.length_nil]; omega
 rw [e1, e2, e3, e3]
 have h5 := putAt_append ([ptrH pc, ptrH pt] ++ (List.replicate (2 * i) (⟨18446744073709551615, false, 0, 0⟩ : Sl)).flatMap encSl) (([⟨0, false, 0, 0⟩, ⟨0, false, 0, 0⟩] ++ List.replicate (254 - 2 * i) ⟨0, false, 0, 0⟩ : List Sl).flatMap encSl) 0 [.int .u64 18446744073709551615, .bool false, .int .i64 0, .int .i64 0, .int .u64 18446744073709551615, .bool false, .int .i64 0, .int .i64 0]
 rw [e4, Nat.add_zero] at h5
 rw [h5]; simp [putAt_cons, putAt_nil]
theorem rep_two (a : List Value) : ∀ n, (List.replicate n (a ++ a)).flatten = (List.replicate (2 * n) a).flatten
 | 0 => rfl
 | n + 1 => by rw [List.replicate_succ, List.flatten_cons, rep_two a n, show 2 * (n + 1) = 2 * n + 1 + 1 from by omega, List.replicate_succ, List.replicate_succ, List.flatten_cons, List.flatten_cons, List.append_assoc]
theorem nw_zero : (List.replicate 128 [Value.int .u64 0, .bool false, .int .i64 0, .int .i64 0, .int .u64 0, .bool false, .int .i64 0, .int .i64 0]).flatten = (nwS 0).flatMap encSl := by
 have h := rep_two (encSl ⟨0, false, 0, 0⟩) 128
 rw [fm_rep (enc := encSl)] at h
 exact h
theorem nw_len (i : Nat) (h : i ≤ 128) : (nwS i).length = 256 := by rw [nwS, List.length_append, List.length_replicate, List.length_replicate]; omega
theorem nw_all : nwS 128 = List.replicate 256 ⟨18446744073709551615, false, 0, 0⟩ := by rw [nwS, show 256 - 2 * 128 = 0 from rfl, List.replicate_zero, List.append_nil]
theorem vnew_ok (now : Nat) (h : now < 18446744073709551615) : Spec Tryz.prog 85 [.int .u64 (now : Int)] [] (fun r H' => ∃ pc, r = .tuple #[ptrH pc, .int .i64 0] ∧ H' = [⟨some pc, cl [.bool true, .int .u64 (now : Int)] 241⟩]) := by
 refine Spec.of (E := [(0, .int .u64 (now : Int))]) Tryz.func85 rfl (by kernel_rfl) Tryz.ntmps85 rfl rfl (fun w => ?_)
 refine WC_seq (WC_region (WLa rfl (WLa rfl (WL_nil (WQ_code (WC_seq (WC_seq (WC_region (WLa rfl ?_)))))))))
 refine WL_val rfl rfl rfl (R_eql rfl rfl rfl) ?_
 refine WL_nil (WQ_code ?_)
 refine WC_dF rfl (by omega) ?_
 refine WC_skip (WQ_code (WC_seq (WC_region (WLa rfl ?_))))
 refine WL_val rfl rfl rfl (R_build rfl zv241 pl241 rfl rfl) ?_
 refine WL_do rfl rfl rfl (D_box (cs := [_, _]) rfl rfl rfl) ?_
 rintro _ _ ⟨b1, rfl, rfl⟩
 refine WLa rfl (WLa rfl (WL_nil (WQ_code (WC_ret ?_))))
 refine WQ_ret rfl rfl (.cons (.tmp rfl) (.cons (.tmp rfl) .nil)) rfl (by
   exact ⟨b1, rfl, rfl⟩) (pqY)
theorem vnew_bad : Spec Tryz.prog 85 [.int .u64 18446744073709551615] [] (fun r H' => r = .tuple #[.pointer none, .int .i64 2] ∧ H' = []) := by
 refine Spec.of (E := [(0, .int .u64 18446744073709551615)]) Tryz.func85 rfl (by kernel_rfl) Tryz.ntmps85 rfl rfl (fun w => ?_)
 refine WC_seq (WC_region (WLa rfl (WLa rfl (WL_nil (WQ_code (WC_seq (WC_seq (WC_region (WLa rfl ?_)))))))))
 refine WL_val rfl rfl rfl (R_eql rfl rfl rfl) ?_
 refine WL_nil (WQ_code ?_)
 refine WC_dT rfl (by rfl) ?_
 refine WC_seq (WC_region (WLa rfl (WLa rfl (WL_nil (WQ_code (WC_ret ?_))))))
 refine WQ_ret rfl rfl (.cons (.tmp rfl) (.cons (.tmp rfl) .nil)) rfl (by
   exact ⟨rfl, rfl⟩) (pqY)
theorem vnow_ok (pc now : Nat) : Spec Tryz.prog 99 [ptrH pc] [⟨some pc, cl [.bool true, .int .u64 (now : Int)] 241⟩] (fun r H' => r = .int .u64 (now : Int) ∧ H' = [⟨some pc, cl [.bool true, .int .u64 (now : Int)] 241⟩]) := by
 refine Spec.of (E := [(0, ptrH pc)]) Tryz.func99 rfl (by kernel_rfl) Tryz.ntmps99 rfl rfl (fun w => ?_)
 refine WC_seq (WC_region (WLa rfl (WL_nil (WQ_code (WC_seq (WC_seq (WC_region (WLa rfl ?_))))))))
 refine WL_val rfl rfl rfl (R_ptrEqNil rfl Tryz.underlying155 rfl) ?_
 refine WL_nil (WQ_code ?_)
 refine WC_F rfl ?_
 refine WC_skip (WQ_code (WC_seq (WC_region (WLa rfl (WLa rfl ?_)))))
 refine WL_val rfl rfl rfl (R_fieldAddr rfl fa241_1 rfl) ?_
 refine WL_val rfl rfl rfl (R_load rfl sc28 rfl (mmY) rfl) ?_
 refine WLa rfl (WL_nil (WQ_code (WC_ret ?_)))
 refine WQ_ret rfl rfl (.cons (.tmp rfl) .nil) rfl (by
   exact ⟨rfl, rfl⟩) (pqY)
theorem vadv_ok (pc now to : Nat) (h1 : now ≤ to) (h2 : to < 18446744073709551615) : Spec Tryz.prog 103 [ptrH pc, .int .u64 (to : Int)] [⟨some pc, cl [.bool true, .int .u64 (now : Int)] 241⟩] (fun r H' => r = .int .i64 0 ∧ H' = [⟨some pc, cl [.bool true, .int .u64 (to : Int)] 241⟩]) := by
 refine Spec.of (E := [(0, ptrH pc), (1, .int .u64 (to : Int))]) Tryz.func103 rfl (by kernel_rfl) Tryz.ntmps103 rfl rfl (fun w => ?_)
 refine WC_seq (WC_region (WLa rfl (WL_nil (WQ_code (WC_seq (WC_block (WC_seq (WC_region (WLa rfl ?_)))))))))
 refine WL_val rfl rfl rfl (R_ptrEqNil rfl Tryz.underlying155 rfl) ?_
 refine WLa rfl (WLa rfl (WLa rfl ?_))
 refine WL_val rfl rfl rfl (R_fieldAddr rfl fa241_0 rfl) ?_
 refine WL_val rfl rfl rfl (R_load rfl sc4 rfl (mmY) rfl) ?_
 refine WL_val rfl rfl rfl (R_not rfl rfl) ?_
 refine WLa rfl (WLa rfl (WL_nil (WQ_code ?_)))
 refine WC_F rfl ?_
 refine WC_seq (WC_region (WLa rfl ?_))
 refine WL_val rfl rfl rfl (R_eql rfl rfl rfl) ?_
 refine WLa rfl (WL_nil (WQ_code ?_))
 refine WC_dF rfl (by omega) ?_
 refine WC_seq (WC_region (WLa rfl (WLa rfl (WLa rfl ?_))))
 refine WL_val rfl rfl rfl (R_fieldAddr rfl fa241_1 rfl) ?_
 refine WL_val rfl rfl rfl (R_load rfl sc28 rfl (mmY) rfl) ?_
 refine WL_val rfl rfl rfl (R_lss rfl rfl rfl) ?_
 refine WLa rfl (WL_nil (WQ_code ?_))
 refine WC_dF rfl (by omega) ?_
 refine WC_skip (WQ_code (WC_seq (WC_region (WLa rfl (WLa rfl (WLa rfl ?_))))))
 refine WL_val rfl rfl rfl (R_fieldAddr rfl fa241_1 rfl) ?_
 refine WL_do0 rfl rfl (D_store (vs := [_]) rfl Tryz.sizeOf28 rfl rfl rfl rfl rfl (plY) (Nat.le_of_ble_eq_true rfl)) ?_
 rintro _ _ rfl
 refine WL_nil (WQ_code (WC_seq (WC_region (WLa rfl (WL_nil (WQ_code (WC_ret ?_)))))))
 refine WQ_ret rfl rfl (.cons (.tmp rfl) .nil) rfl (by
   exact ⟨rfl, rfl⟩) (pqY)
theorem vadv_never (pc now : Nat) : Spec Tryz.prog 103 [ptrH pc, .int .u64 18446744073709551615] [⟨some pc, cl [.bool true, .int .u64 (now : Int)] 241⟩] (fun r H' => r = .int .i64 2 ∧ H' = [⟨some pc, cl [.bool true, .int .u64 (now : Int)] 241⟩]) := by
 refine Spec.of (E := [(0, ptrH pc), (1, .int .u64 18446744073709551615)]) Tryz.func103 rfl (by kernel_rfl) Tryz.ntmps103 rfl rfl (fun w => ?_)
 refine WC_seq (WC_region (WLa rfl (WL_nil (WQ_code (WC_seq (WC_block (WC_seq (WC_region (WLa rfl ?_)))))))))
 refine WL_val rfl rfl rfl (R_ptrEqNil rfl Tryz.underlying155 rfl) ?_
 refine WLa rfl (WLa rfl (WLa rfl ?_))
 refine WL_val rfl rfl rfl (R_fieldAddr rfl fa241_0 rfl) ?_
 refine WL_val rfl rfl rfl (R_load rfl sc4 rfl (mmY) rfl) ?_
 refine WL_val rfl rfl rfl (R_not rfl rfl) ?_
 refine WLa rfl (WLa rfl (WL_nil (WQ_code ?_)))
 refine WC_F rfl ?_
 refine WC_seq (WC_region (WLa rfl ?_))
 refine WL_val rfl rfl rfl (R_eql rfl rfl rfl) ?_
 refine WLa rfl (WL_nil (WQ_code ?_))
 refine WC_dT rfl (by rfl) ?_
 refine WC_seq (WC_region (WLa rfl (WL_nil (WQ_code (WC_ret ?_)))))
 refine WQ_ret rfl rfl (.cons (.tmp rfl) .nil) rfl (by
   exact ⟨rfl, rfl⟩) (pqY)
theorem vadv_past (pc now to : Nat) (h1 : to < now) (h2 : to < 18446744073709551615) : Spec Tryz.prog 103 [ptrH pc, .int .u64 (to : Int)] [⟨some pc, cl [.bool true, .int .u64 (now : Int)] 241⟩] (fun r H' => r = .int .i64 3 ∧ H' = [⟨some pc, cl [.bool true, .int .u64 (now : Int)] 241⟩]) := by
 refine Spec.of (E := [(0, ptrH pc), (1, .int .u64 (to : Int))]) Tryz.func103 rfl (by kernel_rfl) Tryz.ntmps103 rfl rfl (fun w => ?_)
 refine WC_seq (WC_region (WLa rfl (WL_nil (WQ_code (WC_seq (WC_block (WC_seq (WC_region (WLa rfl ?_)))))))))
 refine WL_val rfl rfl rfl (R_ptrEqNil rfl Tryz.underlying155 rfl) ?_
 refine WLa rfl (WLa rfl (WLa rfl ?_))
 refine WL_val rfl rfl rfl (R_fieldAddr rfl fa241_0 rfl) ?_
 refine WL_val rfl rfl rfl (R_load rfl sc4 rfl (mmY) rfl) ?_
 refine WL_val rfl rfl rfl (R_not rfl rfl) ?_
 refine WLa rfl (WLa rfl (WL_nil (WQ_code ?_)))
 refine WC_F rfl ?_
 refine WC_seq (WC_region (WLa rfl ?_))
 refine WL_val rfl rfl rfl (R_eql rfl rfl rfl) ?_
 refine WLa rfl (WL_nil (WQ_code ?_))
 refine WC_dF rfl (by omega) ?_
 refine WC_seq (WC_region (WLa rfl (WLa rfl (WLa rfl ?_))))
 refine WL_val rfl rfl rfl (R_fieldAddr rfl fa241_1 rfl) ?_
 refine WL_val rfl rfl rfl (R_load rfl sc28 rfl (mmY) rfl) ?_
 refine WL_val rfl rfl rfl (R_lss rfl rfl rfl) ?_
 refine WLa rfl (WL_nil (WQ_code ?_))
 refine WC_dT rfl (by omega) ?_
 refine WC_seq (WC_region (WLa rfl (WL_nil (WQ_code (WC_ret ?_)))))
 refine WQ_ret rfl rfl (.cons (.tmp rfl) .nil) rfl (by
   exact ⟨rfl, rfl⟩) (pqY)
theorem vcopy_ok (pc now : Nat) : Spec Tryz.prog 141 [ptrH pc] [⟨some pc, cl [.bool true, .int .u64 (now : Int)] 241⟩] (fun r H' => ∃ p2, r = ptrH p2 ∧ H' = [⟨some p2, cl [.bool true, .int .u64 (now : Int)] 241⟩, ⟨some pc, cl [.bool true, .int .u64 (now : Int)] 241⟩]) := by
 refine Spec.of (E := [(0, ptrH pc)]) Tryz.func141 rfl (by kernel_rfl) Tryz.ntmps141 rfl rfl (fun w => ?_)
 refine WC_seq (WC_region (WLa rfl (WL_nil (WQ_code (WC_seq (WC_seq (WC_region (WLa rfl ?_))))))))
 refine WL_val rfl rfl rfl (R_ptrEqNil rfl Tryz.underlying155 rfl) ?_
 refine WLa rfl (WLa rfl (WLa rfl ?_))
 refine WL_val rfl rfl rfl (R_fieldAddr rfl fa241_0 rfl) ?_
 refine WL_val rfl rfl rfl (R_load rfl sc4 rfl (mmY) rfl) ?_
 refine WL_val rfl rfl rfl (R_not rfl rfl) ?_
 refine WLa rfl (WL_nil (WQ_code ?_))
 refine WC_F rfl ?_
 refine WC_skip (WQ_code (WC_seq (WC_region (WLa rfl (WLa rfl ?_)))))
 refine WL_val rfl rfl rfl (R_loadA (vs := [_, _]) rfl ag241 rfl (mmY) rfl (atZ)) ?_
 refine WL_do rfl rfl rfl (D_alloc rfl zv241) ?_
 rintro _ _ ⟨b1, rfl, rfl⟩
 refine WL_do0 rfl rfl (D_store (vs := [_, _]) rfl Tryz.sizeOf241 rfl rfl rfl rfl rfl (plY) (Nat.le_of_ble_eq_true rfl)) ?_
 rintro _ _ rfl
 refine WL_nil (WQ_code (WC_seq (WC_region (WLa rfl (WL_nil (WQ_code (WC_ret ?_)))))))
 refine WQ_ret rfl rfl (.cons (.tmp rfl) .nil) rfl (by
   exact ⟨b1, rfl, rfl⟩) (pqY)
theorem passn_ok (a b : Nat) (hb : b < 18446744073709551615) : Spec Tryz.prog 101 [.int .u64 (a : Int), .int .u64 (b : Int)] [] (fun r H' => r = .bool (decide (a ≤ b)) ∧ H' = []) :=
 (passed_ok a b).mono fun r H' ⟨e1, e2⟩ => ⟨by rw [e1]; congr 1; rw [decide_eq_decide]; omega, e2⟩
theorem mstop_at (L : List Tm) (m : TmM) (ht : TIs L m) (t : Tm) (hm : t ∈ L) (hg : t.gone = false) (k gen : Nat) (h1 : t.n = k) (h2 : t.gen = gen) : Spec Tryz.prog 98 [ptrH m.pt, .agg #[.int .i64 (k : Int), .int .i64 (gen : Int)]] (tmH m) (fun r H' => ∃ m' : TmM, r = .int .i64 0 ∧ H' = tmH m' ∧ m'.pt = m.pt ∧ m'.g.n = m.g.n ∧ TIs (rmL L t.n) m') := by
 subst h1 h2
 exact mstop_ok L m ht t hm hg
theorem dzero_ok (p pc pt : Nat) (S : List Sl) : Spec Tryz.prog 102 [ptrH p] [⟨some p, cl (dlV pc pt S) 166⟩] (fun r H' => r = .bool false ∧ H' = [⟨some p, cl (dlV pc pt S) 166⟩]) := by
 refine Spec.of (E := [(0, ptrH p)]) Tryz.func102 rfl (by kernel_rfl) Tryz.ntmps102 rfl rfl (fun w => ?_)
 refine WC_seq (WC_region (WLa rfl (WL_nil (WQ_code (WC_seq (WC_region (WLa rfl ?_)))))))
 refine WL_val rfl rfl rfl (R_ptrEqNil rfl Tryz.underlying88 rfl) ?_
 refine WLa rfl (WLa rfl (WLa rfl ?_))
 refine WL_val rfl rfl rfl (R_fieldAddr rfl fa166_0 rfl) ?_
 refine WL_val rfl rfl rfl (R_load rfl sc155 rfl (mmY) rfl) ?_
 refine WL_val rfl rfl rfl (R_ptrEqNil rfl Tryz.underlying155 rfl) ?_
 refine WLa rfl (WLa rfl (WL_nil (WQ_code (WC_ret ?_))))
 refine WQ_ret rfl rfl (.cons (.tmp rfl) .nil) rfl (by
   exact ⟨rfl, rfl⟩) (pqY)
def fileE (fd : Int) : Int := if 0 ≤ fd ∧ fd < 128 then 0 else 2
def spotE (fd dir : Int) : Int := if 0 ≤ fd ∧ fd < 128 ∧ (dir = 0 ∨ dir = 1) then 0 else 2
theorem dfile_ok (p pc pt : Nat) (S : List Sl) (fd : Int) : Spec Tryz.prog 89 [ptrH p, .int .i64 fd] [⟨some p, cl (dlV pc pt S) 166⟩] (fun r H' => r = .int .i64 (fileE fd) ∧ H' = [⟨some p, cl (dlV pc pt S) 166⟩]) := by
 refine Spec.of (E := [(0, ptrH p), (1, .int .i64 fd)]) Tryz.func89 rfl (by kernel_rfl) Tryz.ntmps89 rfl rfl (fun w => ?_)
 refine WC_seq (WC_region (WLa rfl (WL_nil (WQ_code (WC_seq (WC_block (WC_seq (WC_region (WLa rfl ?_)))))))))
 refine WL_do rfl rfl rfl (D_call (dzero_ok p pc pt S) rfl rfl rfl rfl (pqY)) ?_
 rintro _ _ ⟨_, ⟨rfl, rfl⟩, rfl⟩
 refine WLa rfl (WL_nil (WQ_code ?_))
 refine WC_F rfl ?_
 refine WC_seq (WC_region (WLa rfl ?_))
 refine WL_val rfl rfl rfl (R_lss rfl rfl rfl) ?_
 refine WLa rfl ?_
 refine WL_splitD (s := 11) rfl (fun c1 => ?_) (fun c1 => ?_)
 ·refine WL_skip rfl rfl rfl ?_
  refine WL_skip rfl rfl rfl ?_
  refine WLa rfl (WLa rfl (WL_nil (WQ_code ?_)))
  refine WC_T rfl ?_
  refine WC_seq (WC_region (WLa rfl (WL_nil (WQ_code (WC_ret ?_)))))
  refine WQ_ret rfl rfl (.cons (.tmp rfl) .nil) rfl (by
    exact ⟨congrArg (Value.int .i64) (by unfold fileE; split <;> omega), rfl⟩) (pqY)
 ·refine WLa rfl ?_
  refine WL_val rfl rfl rfl (R_geq rfl rfl rfl) ?_
  refine WLa rfl (WLa rfl (WL_nil (WQ_code ?_)))
  refine WC_dec rfl (fun c2 => ?_) (fun c2 => ?_)
  ·refine WC_seq (WC_region (WLa rfl (WL_nil (WQ_code (WC_ret ?_)))))
   refine WQ_ret rfl rfl (.cons (.tmp rfl) .nil) rfl (by
     exact ⟨congrArg (Value.int .i64) (by unfold fileE; split <;> omega), rfl⟩) (pqY)
  ·refine WC_skip (WQ_code (WC_seq (WC_region (WLa rfl (WL_nil (WQ_code (WC_ret ?_)))))))
   refine WQ_ret rfl rfl (.cons (.tmp rfl) .nil) rfl (by
     exact ⟨congrArg (Value.int .i64) (by unfold fileE; split <;> omega), rfl⟩) (pqY)
theorem dcheck_ok (p pc pt : Nat) (S : List Sl) (fd dir : Int) : Spec Tryz.prog 97 [ptrH p, .agg #[.int .i64 fd, .int .i64 dir]] [⟨some p, cl (dlV pc pt S) 166⟩] (fun r H' => r = .int .i64 (spotE fd dir) ∧ H' = [⟨some p, cl (dlV pc pt S) 166⟩]) := by
 refine Spec.of (E := [(0, ptrH p), (1, .agg #[.int .i64 fd, .int .i64 dir])]) Tryz.func97 rfl (by kernel_rfl) Tryz.ntmps97 rfl rfl (fun w => ?_)
 refine WC_seq (WC_region ?_)
 refine WL_do rfl rfl rfl (D_box (cs := [_, _]) rfl rfl rfl) ?_
 rintro _ _ ⟨b1, rfl, rfl⟩
 refine WLa rfl (WL_nil (WQ_code (WC_seq (WC_region (WLa rfl ?_)))))
 refine WL_val rfl rfl rfl (R_fieldAddr rfl fa108_0 rfl) ?_
 refine WL_val rfl rfl rfl (R_load rfl sc3 rfl (mmY) rfl) ?_
 refine WL_do rfl rfl rfl (D_call (dfile_ok p pc pt S fd) rfl rfl rfl rfl (pqY)) ?_
 rintro _ _ ⟨_, ⟨rfl, rfl⟩, rfl⟩
 refine WLa rfl (WL_nil (WQ_code (WC_seq (WC_seq (WC_region (WLa rfl ?_))))))
 refine WL_val rfl rfl rfl (R_eql rfl rfl rfl) ?_
 refine WLa rfl ?_
 refine WL_splitD (s := 12) rfl (fun c1 => ?_) (fun c1 => ?_)
 ·refine WL_val rfl rfl rfl (R_fieldAddr rfl fa108_1 rfl) ?_
  refine WL_val rfl rfl rfl (R_load rfl sc44 rfl (mmY) rfl) ?_
  refine WL_val rfl rfl rfl (R_neq rfl rfl rfl) ?_
  refine WLa rfl (WLa rfl ?_)
  refine WL_splitD (s := 17) rfl (fun c2 => ?_) (fun c2 => ?_)
  ·refine WL_val rfl rfl rfl (R_fieldAddr rfl fa108_1 rfl) ?_
   refine WL_val rfl rfl rfl (R_load rfl sc44 rfl (mmY) rfl) ?_
   refine WL_val rfl rfl rfl (R_neq rfl rfl rfl) ?_
   refine WLa rfl (WL_nil (WQ_code ?_))
   refine WC_dec rfl (fun c3 => ?_) (fun c3 => ?_)
   ·refine WC_seq (WC_region (WLa rfl (WL_nil (WQ_code (WC_ret ?_)))))
    refine WQ_ret rfl rfl (.cons (.tmp rfl) .nil) rfl (by
      exact ⟨congrArg (Value.int .i64) (by unfold fileE at *; unfold spotE; split at * <;> split <;> omega), rfl⟩) (pqY)
   ·refine WC_skip (WQ_code (WC_seq (WC_region (WLa rfl (WLa rfl (WL_nil (WQ_code (WC_ret ?_))))))))
    refine WQ_ret rfl rfl (.cons (.tmp rfl) .nil) rfl (by
      exact ⟨congrArg (Value.int .i64) (by unfold fileE at *; unfold spotE; split at * <;> split <;> omega), rfl⟩) (pqY)
  ·refine WL_skip rfl rfl rfl ?_
   refine WL_skip rfl rfl rfl ?_
   refine WL_skip rfl rfl rfl ?_
   refine WLa rfl (WL_nil (WQ_code ?_))
   refine WC_F rfl ?_
   refine WC_skip (WQ_code (WC_seq (WC_region (WLa rfl (WLa rfl (WL_nil (WQ_code (WC_ret ?_))))))))
   refine WQ_ret rfl rfl (.cons (.tmp rfl) .nil) rfl (by
     exact ⟨congrArg (Value.int .i64) (by unfold fileE at *; unfold spotE; split at * <;> split <;> omega), rfl⟩) (pqY)
 ·refine WL_skip rfl rfl rfl ?_
  refine WL_skip rfl rfl rfl ?_
  refine WL_skip rfl rfl rfl ?_
  refine WLa rfl (WLa rfl ?_)
  refine WL_skip rfl rfl rfl ?_
  refine WL_skip rfl rfl rfl ?_
  refine WL_skip rfl rfl rfl ?_
  refine WLa rfl (WL_nil (WQ_code ?_))
  refine WC_F rfl ?_
  refine WC_skip (WQ_code (WC_seq (WC_region (WLa rfl (WLa rfl (WL_nil (WQ_code (WC_ret ?_))))))))
  refine WQ_ret rfl rfl (.cons (.tmp rfl) .nil) rfl (by
    exact ⟨congrArg (Value.int .i64) (by unfold fileE at *; unfold spotE; split at * <;> split <;> omega), rfl⟩) (pqY)
end Go.Proofs.YtbkdebnkoidicaaGreat
end
section
set_option linter.unusedVariables false
set_option maxRecDepth 20000
set_option maxHeartbeats 2000000
namespace Go.Proofs.YtbkdebnkoidicaaGreat
theorem dnew_ok (now : Nat) (h : now < 18446744073709551615) : Spec Tryz.prog 39 [.int .u64 (now : Int)] [] (fun r H' => ∃ d : DM, r = .tuple #[ptrH d.p, .int .i64 0] ∧ H' = dlH now d ∧ d.m.g.n = 0 ∧ DIs (fun _ => 18446744073709551615) now d) := by
 refine Spec.of (E := [(0, .int .u64 (now : Int))]) Tryz.func39 rfl (by kernel_rfl) Tryz.ntmps39 rfl rfl (fun w => ?_)
 refine WC_seq (WC_region (WLa rfl (WLa rfl (WL_nil (WQ_code (WC_seq (WC_region (WLa rfl ?_))))))))
 refine WL_do rfl rfl rfl (D_call (vnew_ok now h) rfl rfl rfl rfl (pqY)) ?_
 rintro _ _ ⟨_, ⟨vc, rfl, rfl⟩, rfl⟩
 refine WLa rfl (WLa rfl (WLa rfl (WLa rfl (WLa rfl (WL_nil (WQ_code (WC_seq (WC_seq (WC_region (WLa rfl ?_))))))))))
 refine WL_val rfl rfl rfl (R_neq rfl rfl rfl) ?_
 refine WL_nil (WQ_code ?_)
 refine WC_dF rfl (by simp) ?_
 refine WC_skip (WQ_code (WC_seq (WC_region (WLa rfl ?_))))
 refine WL_do rfl rfl rfl (D_call (mnew_ok) rfl rfl rfl rfl (pqY)) ?_
 rintro _ _ ⟨_, ⟨m0, rfl, rfl, g0, n0⟩, rfl⟩
 refine WL_val rfl rfl rfl (R_build (cs := ptrH vc :: ptrH m0.pt :: (nwS 0).flatMap encSl) rfl (nw_zero ▸ zv166) pl166 rfl fill2) ?_
 refine WL_do rfl rfl rfl (D_box (cs := dlV vc m0.pt (nwS 0)) rfl rfl rfl) ?_
 rintro _ _ ⟨b1, rfl, rfl⟩
 refine WLa rfl (WL_nil (WQ_code (WC_seq (WC_seq (WC_region (WLa rfl (WL_nil (WQ_code (WC_block ?_)))))))))
 refine WC_loopF (G := Nat) [7, 20, 21, 22, 23, 24, 25, 26, 27, 28, 29, 30, 31] (fun j => j ≤ 128) (fun j => [(20, .int .i64 (j : Int))]) (fun j => [⟨some b1, cl (dlV vc m0.pt (nwS j)) 166⟩]) (fun j => 128 - j) (0) (Nat.zero_le _) leZ (pqY) ?_
 rintro j hj
 refine WC_seq (WC_region ?_)
 refine WL_val rfl rfl rfl (R_lss rfl rfl rfl) ?_
 refine WL_nil (WQ_code (WC_seq ?_))
 refine WC_dec rfl (fun c1 => ?_) (fun c1 => ?_)
 ·refine WC_skip (WQ_code (WC_seq (WC_block (WC_seq (WC_region (WLa rfl (WLa rfl (WL_nil (WQ_code (WC_region (WLa rfl (WLa rfl ?_))))))))))))
  refine WL_val rfl rfl rfl (R_build rfl zv162 pl162 rfl rfl) ?_
  refine WL_val rfl rfl rfl (R_build rfl zv162 pl162 rfl rfl) ?_
  refine WL_val rfl rfl rfl (R_buildArr rfl Tryz.underlying163 Tryz.sizeOf162 zv163 rfl rfl) ?_
  refine WLa rfl ?_
  refine WL_val rfl rfl rfl (R_fieldAddr rfl fa166_2 rfl) ?_
  refine WL_val rfl rfl rfl (R_indexAddrAN rfl Tryz.underlying164 Tryz.sizeOf163 rfl rfl (by omega)) ?_
  refine WL_do0 rfl rfl (D_store (vs := [_, _, _, _, _, _, _, _]) rfl Tryz.sizeOf163 rfl rfl rfl rfl rfl (plY) (by rw [dl_len, nw_len j hj]; omega)) ?_
  rintro _ _ rfl
  rw [nw_put (show j < 128 by omega)]
  refine WL_nil (WQ_code (WC_region ?_))
  refine WL_val rfl rfl rfl (R_add rfl rfl rfl (by omega)) ?_
  refine WLa rfl (WL_nil ?_)
  refine WQ_nextF (j + 1) (by omega) (by omega) leZ (psZ) rfl (pqY)
 ·obtain rfl : j = 128 := by omega
  refine WC_exit (WQ_code (WC_seq (WC_region (WLa rfl (WLa rfl (WLa rfl (WL_nil (WQ_code (WC_ret ?_)))))))))
  refine WQ_ret rfl rfl (.cons (.tmp rfl) (.cons (.tmp rfl) .nil)) rfl (by
    exact ⟨⟨b1, vc, [], nwS 128, m0⟩, rfl, rfl, n0, ⟨by rw [nw_all]; exact DRel.new h, g0⟩⟩) (pqY)
theorem dnew_bad : Spec Tryz.prog 39 [.int .u64 18446744073709551615] [] (fun r H' => r = .tuple #[.pointer none, .int .i64 2] ∧ H' = []) := by
 refine Spec.of (E := [(0, .int .u64 18446744073709551615)]) Tryz.func39 rfl (by kernel_rfl) Tryz.ntmps39 rfl rfl (fun w => ?_)
 refine WC_seq (WC_region (WLa rfl (WLa rfl (WL_nil (WQ_code (WC_seq (WC_region (WLa rfl ?_))))))))
 refine WL_do rfl rfl rfl (D_call (vnew_bad) rfl rfl rfl rfl (pqY)) ?_
 rintro _ _ ⟨_, ⟨rfl, rfl⟩, rfl⟩
 refine WLa rfl (WLa rfl (WLa rfl (WLa rfl (WLa rfl (WL_nil (WQ_code (WC_seq (WC_seq (WC_region (WLa rfl ?_))))))))))
 refine WL_val rfl rfl rfl (R_neq rfl rfl rfl) ?_
 refine WL_nil (WQ_code ?_)
 refine WC_dT rfl (by simp) ?_
 refine WC_seq (WC_region (WLa rfl (WLa rfl (WLa rfl (WL_nil (WQ_code (WC_ret ?_)))))))
 refine WQ_ret rfl rfl (.cons (.tmp rfl) (.cons (.tmp rfl) .nil)) rfl (by
   exact ⟨rfl, rfl⟩) (pqY)
section
variable {f : Nat → Nat} {now : Nat}
theorem dset_ok (d : DM) (hd : DIs f now d) (fd dir : Nat) (h1 : fd < 128) (h2 : dir < 2) (k : Nat) (hk : k ≤ 18446744073709551615) (hb : d.m.g.n + 1 < 9000000000000000000) : Spec Tryz.prog 49 [ptrH d.p, .agg #[.int .i64 (fd : Int), .int .i64 (dir : Int)], .int .u64 (k : Int)] (dlH now d)
  (fun r H' => ∃ d' : DM, r = .tuple #[.bool (decide (k ≤ now)), .int .i64 0] ∧ H' = dlH now d' ∧ d'.p = d.p ∧ d'.m.g.n ≤ d.m.g.n + 1 ∧ DIs (updF f (2 * fd + dir) k) now d') := by
 obtain ⟨s, hs⟩ : ∃ s, d.S[2 * fd + dir]? = some s := ⟨_, List.getElem?_eq_getElem (show 2 * fd + dir < d.S.length by rw [hd.r.len]; omega)⟩
 have hlen := hd.r.len
 have hlt : 2 * fd + dir < d.S.length := by omega
 have hsp : spotE (fd : Int) (dir : Int) = 0 := by unfold spotE; split <;> omega
 have hnv := hd.r.nv
 refine Spec.of (E := [(0, ptrH d.p), (1, .agg #[.int .i64 (fd : Int), .int .i64 (dir : Int)]), (2, .int .u64 (k : Int))]) Tryz.func49 rfl (by kernel_rfl) Tryz.ntmps49 rfl rfl (fun w => ?_)
 refine WC_seq (WC_region ?_)
 refine WL_do rfl rfl rfl (D_box (cs := [_, _]) rfl rfl rfl) ?_
 rintro _ _ ⟨b1, rfl, rfl⟩
 refine WLa rfl (WLa rfl (WL_nil (WQ_code (WC_seq (WC_seq (WC_region (WLa rfl ?_)))))))
 refine WL_val rfl rfl rfl (R_loadA (vs := [_, _]) rfl ag108 rfl (mmY) rfl (atZ)) ?_
 refine WL_do rfl rfl rfl (D_call (dcheck_ok d.p d.pc d.m.pt d.S (fd : Int) (dir : Int)) rfl rfl rfl rfl (pqY)) ?_
 rintro _ _ ⟨_, ⟨rfl, rfl⟩, rfl⟩
 refine WLa rfl (WL_nil (WQ_code (WC_seq (WC_region (WLa rfl ?_)))))
 refine WL_val rfl rfl rfl (R_neq rfl rfl rfl) ?_
 refine WL_nil (WQ_code ?_)
 refine WC_dF rfl (by omega) ?_
 refine WC_skip (WQ_code (WC_seq ?_))
 refine WC_draw _ [(0, true), (1, true), (2, true), (3, true), (4, true), (5, true), (6, true), (7, true), (8, true), (9, true)] followsMixed rfl rfl (by kernel_rfl) .all ?_
 refine WMa rfl ?_
 refine WM_val rfl rfl rfl rfl (R_fieldAddr rfl fa108_0 rfl) ?_
 refine WM_val rfl rfl rfl rfl (R_load rfl sc3 rfl (mmY) rfl) ?_
 refine WM_val rfl rfl rfl rfl (R_fieldAddr rfl fa108_1 rfl) ?_
 refine WM_val rfl rfl rfl rfl (R_load rfl sc44 rfl (mmY) rfl) ?_
 refine WMa rfl ?_
 refine WM_val rfl rfl rfl rfl (R_fieldAddr rfl fa166_2 rfl) ?_
 refine WM_val rfl rfl rfl rfl (R_indexAddrAN rfl Tryz.underlying164 Tryz.sizeOf163 rfl rfl (by omega)) ?_
 refine WM_val rfl rfl rfl rfl (R_indexAddrAN rfl Tryz.underlying163 Tryz.sizeOf162 rfl rfl (by omega)) ?_
 refine WMa rfl (WM_nil (WQ_code (WC_seq (WC_seq (WC_region (WLa rfl (WLa rfl ?_)))))))
 refine WL_val rfl rfl rfl (R_fieldAddr rfl fa162_1 rfl) ?_
 refine WL_val rfl rfl rfl (R_load (v := .bool s.set) rfl sc4 rfl (mmY) (dl_get hs (j := 1) (by omega))) ?_
 refine WL_nil (WQ_code ?_)
 refine WC_if rfl (fun c1 => ?_) (fun c1 => ?_)
 ·have hset : s.set = true := c1
  obtain ⟨t, ht, hg, hn, hgen, ho, htm⟩ := hd.r.fwd _ s hs hset
  have hlr := live_rm hd.t.r (List.getElem?_of_mem ht).choose_spec hg
  refine WC_drawR (tmH d.m) [(0, true), (1, true), (2, true), (3, true), (4, true), (5, true), (6, true), (7, true), (8, false)] followsMixed rfl rfl (by kernel_rfl) (pqY) ?_
  refine WMa rfl (WMa rfl ?_)
  refine WM_val rfl rfl rfl rfl (R_fieldAddr rfl fa166_1 rfl) ?_
  refine WM_val rfl rfl rfl rfl (R_load rfl sc158 rfl (mmY) rfl) ?_
  refine WMa rfl (WMa rfl ?_)
  refine WM_val rfl rfl rfl rfl (R_fieldAddr rfl fa162_2 rfl) ?_
  refine WM_val rfl rfl rfl rfl (R_loadA (vs := [.int .i64 (s.n : Int), .int .i64 (s.gen : Int)]) rfl ag160 rfl (mmY) rfl (dl_at hs (j := 2) (vs := [.int .i64 (s.n : Int), .int .i64 (s.gen : Int)]) (atZ) (by simp))) ?_
  refine WM_do rfl rfl rfl rfl (D_call (mstop_at d.L d.m hd.t t ht hg s.n s.gen hn hgen) rfl rfl rfl rfl (pqY)) ?_
  rintro _ _ ⟨_, ⟨m1, rfl, rfl, hmp, hmn, hm1⟩, rfl⟩
  refine ⟨⟨_, pqY⟩, ?_⟩
  rw [← hmp]
  refine WM_nil (WQ_code (WC_seq (WC_region (WLa rfl (WLa rfl ?_)))))
  refine WL_val rfl rfl rfl (R_build rfl zv162 pl162 rfl rfl) ?_
  refine WLa rfl ?_
  refine WL_do0 rfl rfl (D_store (vs := [_, _, _, _]) rfl Tryz.sizeOf162 rfl rfl rfl rfl rfl (plY) (by exact dl_room hlt (j := 0) (by omega))) ?_
  rintro _ _ rfl
  have hput := dl_put (pc := d.pc) (pt := m1.pt) ⟨(k : Nat), false, 0, 0⟩ (hs) (j := 0) (vs := [.int .u64 (k : Int), .bool false, .int .i64 0, .int .i64 0]) (by simp) (by simp [putAt_cons, putAt_nil])
  rw [Nat.add_zero] at hput
  rw [hput]
  have hs1 := set_eq (x := ⟨k, false, 0, 0⟩) hs
  refine WL_nil (WQ_code (WC_seq (WC_seq (WC_region (WLa rfl (WLa rfl (WLa rfl ?_)))))))
  refine WL_val rfl rfl rfl (R_fieldAddr rfl fa166_0 rfl) ?_
  refine WL_val rfl rfl rfl (R_load rfl sc155 rfl (mmY) rfl) ?_
  refine WL_do rfl rfl rfl (D_call (vnow_ok d.pc now) rfl rfl rfl rfl (pqY)) ?_
  rintro _ _ ⟨_, ⟨rfl, rfl⟩, rfl⟩
  refine WL_val rfl rfl rfl (R_gtr rfl rfl rfl) ?_
  refine WLa rfl ?_
  refine WL_splitD (s := 49) rfl (fun c2 => ?_) (fun c2 => ?_)
  ·refine WLa rfl ?_
   refine WL_val rfl rfl rfl (R_neq rfl rfl rfl) ?_
   refine WLa rfl (WL_nil (WQ_code ?_))
   refine WC_dec rfl (fun c3 => ?_) (fun c3 => ?_)
   ·obtain ⟨fr, hfr⟩ := (hm1).h.free
    have hfew := hd.r.few hd.t.r
    have hroom : (live (rmL d.L t.n)).length < 1024 := by omega
    have hfr1 : fr ≤ 1000000000 := by have := hfr.le; have hwl : (wl (rmL d.L t.n)).length = (live (rmL d.L t.n)).length := List.length_map ..; omega
    have hcnt : cnt (rmL d.L t.n) fr ≤ 9000000000000000000 := by have := cnt_le (rmL d.L t.n) fr; have := (hm1).r.ln; have := (hm1).nb; omega
    refine WC_seq (WC_region (WLa rfl (WLa rfl ?_)))
    refine WL_val rfl rfl rfl (R_fieldAddr rfl fa162_1 rfl) ?_
    refine WL_do0 rfl rfl (D_store (vs := [_]) rfl Tryz.sizeOf4 rfl rfl rfl rfl rfl (plY) (by exact dl_room (by rw [List.length_set]; exact hlt) (by omega))) ?_
    rintro _ _ rfl
    have hput := dl_put (pc := d.pc) (pt := m1.pt) ⟨(k : Nat), true, 0, 0⟩ (hs1) (j := 1) (vs := [.bool true]) (by simp) (by simp [putAt_cons, putAt_nil])
    rw [hput, List.set_set]
    have hs2 := set_eq (x := ⟨k, true, 0, 0⟩) hs
    refine WL_nil (WQ_code ?_)
    refine WC_drawE (⟨some d.p, _⟩ :: tmH m1) [(0, false), (1, false), (2, false), (3, false), (4, true)] [(5, true), (6, true), (7, true), (8, true), (9, true), (10, true), (11, true), (12, false), (13, true), (14, true), (15, true), (16, true), (17, true), (18, false)] followsMixed rfl rfl (by kernel_rfl) (pqY) ?_
    refine WZ_val rfl rfl rfl rfl (R_move rfl rfl) ?_
    refine WZ_val rfl rfl rfl rfl (R_move rfl rfl) ?_
    refine WZ_val rfl rfl rfl rfl (R_nilCheck rfl rfl) ?_
    refine WZ_val rfl rfl rfl rfl (R_fieldAddr rfl fa166_1 rfl) ?_
    refine WZ_early rfl rfl rfl rfl (R_load rfl sc158 rfl (mmY) rfl) ?_
    refine WZ_rest ?_
    refine WMa rfl ?_
    refine WM_val rfl rfl rfl rfl (R_fieldAddr rfl fa108_0 rfl) ?_
    refine WM_val rfl rfl rfl rfl (R_load rfl sc3 rfl (mmY) rfl) ?_
    refine WM_val rfl rfl rfl rfl (R_mulR (r := ((2 * fd : Nat) : Int)) rfl rfl rfl (by rw [IntWalk.i64_in _ (by omega)]; omega)) ?_
    refine WM_val rfl rfl rfl rfl (R_fieldAddr rfl fa108_1 rfl) ?_
    refine WM_val rfl rfl rfl rfl (R_load rfl sc44 rfl (mmY) rfl) ?_
    refine WM_val rfl rfl rfl rfl (R_addR (r := ((2 * fd + dir : Nat) : Int)) rfl rfl rfl (by rw [IntWalk.i64_in _ (by omega)]; omega)) ?_
    refine WM_do rfl rfl rfl rfl (D_call (mset_ok (rmL d.L t.n) m1 hm1 hroom (by omega) fr hfr k (by omega) _) rfl rfl rfl rfl (pqY)) ?_
    rintro _ _ ⟨_, ⟨m2, rfl, rfl, hmp2, hmn2, hm2⟩, rfl⟩
    refine ⟨⟨_, pqY⟩, ?_⟩
    rw [← hmp2]
    refine WMa rfl (WMa rfl (WMa rfl (WMa rfl ?_)))
    refine WM_val rfl rfl rfl rfl (R_fieldAddr rfl fa162_2 rfl) ?_
    refine WM_do0 rfl rfl rfl (D_store (vs := [_, _]) rfl Tryz.sizeOf160 rfl rfl rfl rfl rfl (plY) (by exact dl_room (by rw [List.length_set]; exact hlt) (by omega))) ?_
    rintro _ _ rfl
    refine ⟨⟨_, pqY⟩, ?_⟩
    have hput := dl_put (pc := d.pc) (pt := m2.pt) ⟨(k : Nat), true, fr, cnt (rmL d.L t.n) fr⟩ (hs2) (j := 2) (vs := [.int .i64 (fr : Int), .int .i64 (cnt (rmL d.L t.n) fr : Int)]) (by simp) (by simp [putAt_cons, putAt_nil])
    rw [hput, List.set_set]
    refine WM_nil (WQ_code (WC_seq (WC_region (WLa rfl (WLa rfl (WLa rfl ?_))))))
    refine WL_val rfl rfl rfl (R_fieldAddr rfl fa166_0 rfl) ?_
    refine WL_val rfl rfl rfl (R_load rfl sc155 rfl (mmY) rfl) ?_
    refine WL_do rfl rfl rfl (D_call (vnow_ok d.pc now) rfl rfl rfl rfl (pqY)) ?_
    rintro _ _ ⟨_, ⟨rfl, rfl⟩, rfl⟩
    refine WL_do rfl rfl rfl (D_call (passn_ok k now hd.r.nv) rfl rfl rfl rfl (pqY)) ?_
    rintro _ _ ⟨_, ⟨rfl, rfl⟩, rfl⟩
    refine WLa rfl (WLa rfl (WL_nil (WQ_code (WC_ret ?_))))
    refine WQ_ret rfl rfl (.cons (.tmp rfl) (.cons (.tmp rfl) .nil)) rfl (by
      exact ⟨⟨d.p, d.pc, (rmL d.L t.n) ++ [⟨fr, cnt (rmL d.L t.n) fr, ((2 * fd + dir : Nat) : Int), k, false, m1.g.n + 1⟩], d.S.set (2 * fd + dir) ⟨k, true, fr, cnt (rmL d.L t.n) fr⟩, m2⟩, rfl, rfl, rfl, by dsimp only; omega, ⟨hd.r.on hs (hd.r.cut hd.t.r hs ht hg hn ho) (by omega) (by omega) fr (cnt (rmL d.L t.n) fr) _ hfr1 hcnt, hm2⟩⟩) (pqY)
   ·refine WC_skip (WQ_code (WC_seq (WC_region (WLa rfl (WLa rfl (WLa rfl ?_))))))
    refine WL_val rfl rfl rfl (R_fieldAddr rfl fa166_0 rfl) ?_
    refine WL_val rfl rfl rfl (R_load rfl sc155 rfl (mmY) rfl) ?_
    refine WL_do rfl rfl rfl (D_call (vnow_ok d.pc now) rfl rfl rfl rfl (pqY)) ?_
    rintro _ _ ⟨_, ⟨rfl, rfl⟩, rfl⟩
    refine WL_do rfl rfl rfl (D_call (passn_ok k now hd.r.nv) rfl rfl rfl rfl (pqY)) ?_
    rintro _ _ ⟨_, ⟨rfl, rfl⟩, rfl⟩
    refine WLa rfl (WLa rfl (WL_nil (WQ_code (WC_ret ?_))))
    refine WQ_ret rfl rfl (.cons (.tmp rfl) (.cons (.tmp rfl) .nil)) rfl (by
      exact ⟨⟨d.p, d.pc, (rmL d.L t.n), d.S.set (2 * fd + dir) ⟨k, false, 0, 0⟩, m1⟩, rfl, rfl, rfl, by dsimp only; omega, ⟨hd.r.off hs (hd.r.cut hd.t.r hs ht hg hn ho) hk (by omega), hm1⟩⟩) (pqY)
  ·refine WL_skip rfl rfl rfl ?_
   refine WL_skip rfl rfl rfl ?_
   refine WLa rfl (WL_nil (WQ_code ?_))
   refine WC_F rfl ?_
   refine WC_skip (WQ_code (WC_seq (WC_region (WLa rfl (WLa rfl (WLa rfl ?_))))))
   refine WL_val rfl rfl rfl (R_fieldAddr rfl fa166_0 rfl) ?_
   refine WL_val rfl rfl rfl (R_load rfl sc155 rfl (mmY) rfl) ?_
   refine WL_do rfl rfl rfl (D_call (vnow_ok d.pc now) rfl rfl rfl rfl (pqY)) ?_
   rintro _ _ ⟨_, ⟨rfl, rfl⟩, rfl⟩
   refine WL_do rfl rfl rfl (D_call (passn_ok k now hd.r.nv) rfl rfl rfl rfl (pqY)) ?_
   rintro _ _ ⟨_, ⟨rfl, rfl⟩, rfl⟩
   refine WLa rfl (WLa rfl (WL_nil (WQ_code (WC_ret ?_))))
   refine WQ_ret rfl rfl (.cons (.tmp rfl) (.cons (.tmp rfl) .nil)) rfl (by
     exact ⟨⟨d.p, d.pc, (rmL d.L t.n), d.S.set (2 * fd + dir) ⟨k, false, 0, 0⟩, m1⟩, rfl, rfl, rfl, by dsimp only; omega, ⟨hd.r.off hs (hd.r.cut hd.t.r hs ht hg hn ho) hk (by omega), hm1⟩⟩) (pqY)
 ·have hset : s.set = false := by simpa using c1
  refine WC_skip (WQ_code (WC_seq (WC_region (WLa rfl (WLa rfl ?_)))))
  refine WL_val rfl rfl rfl (R_build rfl zv162 pl162 rfl rfl) ?_
  refine WLa rfl ?_
  refine WL_do0 rfl rfl (D_store (vs := [_, _, _, _]) rfl Tryz.sizeOf162 rfl rfl rfl rfl rfl (plY) (by exact dl_room hlt (j := 0) (by omega))) ?_
  rintro _ _ rfl
  have hput := dl_put (pc := d.pc) (pt := d.m.pt) ⟨(k : Nat), false, 0, 0⟩ (hs) (j := 0) (vs := [.int .u64 (k : Int), .bool false, .int .i64 0, .int .i64 0]) (by simp) (by simp [putAt_cons, putAt_nil])
  rw [Nat.add_zero] at hput
  rw [hput]
  have hs1 := set_eq (x := ⟨k, false, 0, 0⟩) hs
  refine WL_nil (WQ_code (WC_seq (WC_seq (WC_region (WLa rfl (WLa rfl (WLa rfl ?_)))))))
  refine WL_val rfl rfl rfl (R_fieldAddr rfl fa166_0 rfl) ?_
  refine WL_val rfl rfl rfl (R_load rfl sc155 rfl (mmY) rfl) ?_
  refine WL_do rfl rfl rfl (D_call (vnow_ok d.pc now) rfl rfl rfl rfl (pqY)) ?_
  rintro _ _ ⟨_, ⟨rfl, rfl⟩, rfl⟩
  refine WL_val rfl rfl rfl (R_gtr rfl rfl rfl) ?_
  refine WLa rfl ?_
  refine WL_splitD (s := 49) rfl (fun c4 => ?_) (fun c4 => ?_)
  ·refine WLa rfl ?_
   refine WL_val rfl rfl rfl (R_neq rfl rfl rfl) ?_
   refine WLa rfl (WL_nil (WQ_code ?_))
   refine WC_dec rfl (fun c5 => ?_) (fun c5 => ?_)
   ·obtain ⟨fr, hfr⟩ := (hd.t).h.free
    have hfew := hd.r.few hd.t.r
    have hroom : (live d.L).length < 1024 := by omega
    have hfr1 : fr ≤ 1000000000 := by have := hfr.le; have hwl : (wl d.L).length = (live d.L).length := List.length_map ..; omega
    have hcnt : cnt d.L fr ≤ 9000000000000000000 := by have := cnt_le d.L fr; have := (hd.t).r.ln; have := (hd.t).nb; omega
    refine WC_seq (WC_region (WLa rfl (WLa rfl ?_)))
    refine WL_val rfl rfl rfl (R_fieldAddr rfl fa162_1 rfl) ?_
    refine WL_do0 rfl rfl (D_store (vs := [_]) rfl Tryz.sizeOf4 rfl rfl rfl rfl rfl (plY) (by exact dl_room (by rw [List.length_set]; exact hlt) (by omega))) ?_
    rintro _ _ rfl
    have hput := dl_put (pc := d.pc) (pt := d.m.pt) ⟨(k : Nat), true, 0, 0⟩ (hs1) (j := 1) (vs := [.bool true]) (by simp) (by simp [putAt_cons, putAt_nil])
    rw [hput, List.set_set]
    have hs2 := set_eq (x := ⟨k, true, 0, 0⟩) hs
    refine WL_nil (WQ_code ?_)
    refine WC_drawE (⟨some d.p, _⟩ :: tmH d.m) [(0, false), (1, false), (2, false), (3, false), (4, true)] [(5, true), (6, true), (7, true), (8, true), (9, true), (10, true), (11, true), (12, false), (13, true), (14, true), (15, true), (16, true), (17, true), (18, false)] followsMixed rfl rfl (by kernel_rfl) (pqY) ?_
    refine WZ_val rfl rfl rfl rfl (R_move rfl rfl) ?_
    refine WZ_val rfl rfl rfl rfl (R_move rfl rfl) ?_
    refine WZ_val rfl rfl rfl rfl (R_nilCheck rfl rfl) ?_
    refine WZ_val rfl rfl rfl rfl (R_fieldAddr rfl fa166_1 rfl) ?_
    refine WZ_early rfl rfl rfl rfl (R_load rfl sc158 rfl (mmY) rfl) ?_
    refine WZ_rest ?_
    refine WMa rfl ?_
    refine WM_val rfl rfl rfl rfl (R_fieldAddr rfl fa108_0 rfl) ?_
    refine WM_val rfl rfl rfl rfl (R_load rfl sc3 rfl (mmY) rfl) ?_
    refine WM_val rfl rfl rfl rfl (R_mulR (r := ((2 * fd : Nat) : Int)) rfl rfl rfl (by rw [IntWalk.i64_in _ (by omega)]; omega)) ?_
    refine WM_val rfl rfl rfl rfl (R_fieldAddr rfl fa108_1 rfl) ?_
    refine WM_val rfl rfl rfl rfl (R_load rfl sc44 rfl (mmY) rfl) ?_
    refine WM_val rfl rfl rfl rfl (R_addR (r := ((2 * fd + dir : Nat) : Int)) rfl rfl rfl (by rw [IntWalk.i64_in _ (by omega)]; omega)) ?_
    refine WM_do rfl rfl rfl rfl (D_call (mset_ok d.L d.m hd.t hroom (by omega) fr hfr k (by omega) _) rfl rfl rfl rfl (pqY)) ?_
    rintro _ _ ⟨_, ⟨m2, rfl, rfl, hmp2, hmn2, hm2⟩, rfl⟩
    refine ⟨⟨_, pqY⟩, ?_⟩
    rw [← hmp2]
    refine WMa rfl (WMa rfl (WMa rfl (WMa rfl ?_)))
    refine WM_val rfl rfl rfl rfl (R_fieldAddr rfl fa162_2 rfl) ?_
    refine WM_do0 rfl rfl rfl (D_store (vs := [_, _]) rfl Tryz.sizeOf160 rfl rfl rfl rfl rfl (plY) (by exact dl_room (by rw [List.length_set]; exact hlt) (by omega))) ?_
    rintro _ _ rfl
    refine ⟨⟨_, pqY⟩, ?_⟩
    have hput := dl_put (pc := d.pc) (pt := m2.pt) ⟨(k : Nat), true, fr, cnt d.L fr⟩ (hs2) (j := 2) (vs := [.int .i64 (fr : Int), .int .i64 (cnt d.L fr : Int)]) (by simp) (by simp [putAt_cons, putAt_nil])
    rw [hput, List.set_set]
    refine WM_nil (WQ_code (WC_seq (WC_region (WLa rfl (WLa rfl (WLa rfl ?_))))))
    refine WL_val rfl rfl rfl (R_fieldAddr rfl fa166_0 rfl) ?_
    refine WL_val rfl rfl rfl (R_load rfl sc155 rfl (mmY) rfl) ?_
    refine WL_do rfl rfl rfl (D_call (vnow_ok d.pc now) rfl rfl rfl rfl (pqY)) ?_
    rintro _ _ ⟨_, ⟨rfl, rfl⟩, rfl⟩
    refine WL_do rfl rfl rfl (D_call (passn_ok k now hd.r.nv) rfl rfl rfl rfl (pqY)) ?_
    rintro _ _ ⟨_, ⟨rfl, rfl⟩, rfl⟩
    refine WLa rfl (WLa rfl (WL_nil (WQ_code (WC_ret ?_))))
    refine WQ_ret rfl rfl (.cons (.tmp rfl) (.cons (.tmp rfl) .nil)) rfl (by
      exact ⟨⟨d.p, d.pc, d.L ++ [⟨fr, cnt d.L fr, ((2 * fd + dir : Nat) : Int), k, false, d.m.g.n + 1⟩], d.S.set (2 * fd + dir) ⟨k, true, fr, cnt d.L fr⟩, m2⟩, rfl, rfl, rfl, by dsimp only; omega, ⟨hd.r.on hs (hd.r.cut0 hs hset) (by omega) (by omega) fr (cnt d.L fr) _ hfr1 hcnt, hm2⟩⟩) (pqY)
   ·refine WC_skip (WQ_code (WC_seq (WC_region (WLa rfl (WLa rfl (WLa rfl ?_))))))
    refine WL_val rfl rfl rfl (R_fieldAddr rfl fa166_0 rfl) ?_
    refine WL_val rfl rfl rfl (R_load rfl sc155 rfl (mmY) rfl) ?_
    refine WL_do rfl rfl rfl (D_call (vnow_ok d.pc now) rfl rfl rfl rfl (pqY)) ?_
    rintro _ _ ⟨_, ⟨rfl, rfl⟩, rfl⟩
    refine WL_do rfl rfl rfl (D_call (passn_ok k now hd.r.nv) rfl rfl rfl rfl (pqY)) ?_
    rintro _ _ ⟨_, ⟨rfl, rfl⟩, rfl⟩
    refine WLa rfl (WLa rfl (WL_nil (WQ_code (WC_ret ?_))))
    refine WQ_ret rfl rfl (.cons (.tmp rfl) (.cons (.tmp rfl) .nil)) rfl (by
      exact ⟨⟨d.p, d.pc, d.L, d.S.set (2 * fd + dir) ⟨k, false, 0, 0⟩, d.m⟩, rfl, rfl, rfl, by dsimp only; omega, ⟨hd.r.off hs (hd.r.cut0 hs hset) hk (by omega), hd.t⟩⟩) (pqY)
  ·refine WL_skip rfl rfl rfl ?_
   refine WL_skip rfl rfl rfl ?_
   refine WLa rfl (WL_nil (WQ_code ?_))
   refine WC_F rfl ?_
   refine WC_skip (WQ_code (WC_seq (WC_region (WLa rfl (WLa rfl (WLa rfl ?_))))))
   refine WL_val rfl rfl rfl (R_fieldAddr rfl fa166_0 rfl) ?_
   refine WL_val rfl rfl rfl (R_load rfl sc155 rfl (mmY) rfl) ?_
   refine WL_do rfl rfl rfl (D_call (vnow_ok d.pc now) rfl rfl rfl rfl (pqY)) ?_
   rintro _ _ ⟨_, ⟨rfl, rfl⟩, rfl⟩
   refine WL_do rfl rfl rfl (D_call (passn_ok k now hd.r.nv) rfl rfl rfl rfl (pqY)) ?_
   rintro _ _ ⟨_, ⟨rfl, rfl⟩, rfl⟩
   refine WLa rfl (WLa rfl (WL_nil (WQ_code (WC_ret ?_))))
   refine WQ_ret rfl rfl (.cons (.tmp rfl) (.cons (.tmp rfl) .nil)) rfl (by
     exact ⟨⟨d.p, d.pc, d.L, d.S.set (2 * fd + dir) ⟨k, false, 0, 0⟩, d.m⟩, rfl, rfl, rfl, by dsimp only; omega, ⟨hd.r.off hs (hd.r.cut0 hs hset) hk (by omega), hd.t⟩⟩) (pqY)
theorem dget_ok (d : DM) (hd : DIs f now d) (fd dir : Nat) (h1 : fd < 128) (h2 : dir < 2) : Spec Tryz.prog 113 [ptrH d.p, .agg #[.int .i64 (fd : Int), .int .i64 (dir : Int)]] (dlH now d) (fun r H' => r = .tuple #[.int .u64 (f (2 * fd + dir) : Int), .int .i64 0] ∧ H' = dlH now d) := by
 obtain ⟨s, hs⟩ : ∃ s, d.S[2 * fd + dir]? = some s := ⟨_, List.getElem?_eq_getElem (show 2 * fd + dir < d.S.length by rw [hd.r.len]; omega)⟩
 have hlen := hd.r.len
 have hlt : 2 * fd + dir < d.S.length := by omega
 have hsp : spotE (fd : Int) (dir : Int) = 0 := by unfold spotE; split <;> omega
 rw [← (hd.r.at_ _ s hs).1]
 refine Spec.of (E := [(0, ptrH d.p), (1, .agg #[.int .i64 (fd : Int), .int .i64 (dir : Int)])]) Tryz.func113 rfl (by kernel_rfl) Tryz.ntmps113 rfl rfl (fun w => ?_)
 refine WC_seq (WC_region ?_)
 refine WL_do rfl rfl rfl (D_box (cs := [_, _]) rfl rfl rfl) ?_
 rintro _ _ ⟨b1, rfl, rfl⟩
 refine WLa rfl (WLa rfl (WL_nil (WQ_code (WC_seq (WC_seq (WC_region (WLa rfl ?_)))))))
 refine WL_val rfl rfl rfl (R_loadA (vs := [_, _]) rfl ag108 rfl (mmY) rfl (atZ)) ?_
 refine WL_do rfl rfl rfl (D_call (dcheck_ok d.p d.pc d.m.pt d.S (fd : Int) (dir : Int)) rfl rfl rfl rfl (pqY)) ?_
 rintro _ _ ⟨_, ⟨rfl, rfl⟩, rfl⟩
 refine WLa rfl (WL_nil (WQ_code (WC_seq (WC_region (WLa rfl ?_)))))
 refine WL_val rfl rfl rfl (R_neq rfl rfl rfl) ?_
 refine WL_nil (WQ_code ?_)
 refine WC_dF rfl (by omega) ?_
 refine WC_skip (WQ_code (WC_seq ?_))
 refine WC_draw _ [(0, true), (1, true), (2, true), (3, true), (4, true), (5, true), (6, true), (7, true), (8, true), (9, true), (10, true), (11, true), (12, true)] followsMixed rfl rfl (by kernel_rfl) .all ?_
 refine WMa rfl ?_
 refine WM_val rfl rfl rfl rfl (R_fieldAddr rfl fa108_0 rfl) ?_
 refine WM_val rfl rfl rfl rfl (R_load rfl sc3 rfl (mmY) rfl) ?_
 refine WM_val rfl rfl rfl rfl (R_fieldAddr rfl fa108_1 rfl) ?_
 refine WM_val rfl rfl rfl rfl (R_load rfl sc44 rfl (mmY) rfl) ?_
 refine WMa rfl ?_
 refine WM_val rfl rfl rfl rfl (R_fieldAddr rfl fa166_2 rfl) ?_
 refine WM_val rfl rfl rfl rfl (R_indexAddrAN rfl Tryz.underlying164 Tryz.sizeOf163 rfl rfl (by omega)) ?_
 refine WM_val rfl rfl rfl rfl (R_indexAddrAN rfl Tryz.underlying163 Tryz.sizeOf162 rfl rfl (by omega)) ?_
 refine WM_val rfl rfl rfl rfl (R_fieldAddr rfl fa162_0 rfl) ?_
 refine WM_val rfl rfl rfl rfl (R_load (v := .int .u64 (s.at_ : Int)) rfl sc28 rfl (mmY) (dl_get hs (j := 0) (by omega))) ?_
 refine WMa rfl (WMa rfl (WM_nil (WQ_code (WC_ret ?_))))
 refine WQ_ret rfl rfl (.cons (.tmp rfl) (.cons (.tmp rfl) .nil)) rfl (by
   exact ⟨rfl, rfl⟩) (pqY)
theorem dpass_ok (d : DM) (hd : DIs f now d) (fd dir : Nat) (h1 : fd < 128) (h2 : dir < 2) : Spec Tryz.prog 54 [ptrH d.p, .agg #[.int .i64 (fd : Int), .int .i64 (dir : Int)]] (dlH now d) (fun r H' => r = .tuple #[.bool (decide (f (2 * fd + dir) ≤ now)), .int .i64 0] ∧ H' = dlH now d) := by
 refine Spec.of (E := [(0, ptrH d.p), (1, .agg #[.int .i64 (fd : Int), .int .i64 (dir : Int)])]) Tryz.func54 rfl (by kernel_rfl) Tryz.ntmps54 rfl rfl (fun w => ?_)
 refine WC_seq (WC_region ?_)
 refine WL_do rfl rfl rfl (D_box (cs := [_, _]) rfl rfl rfl) ?_
 rintro _ _ ⟨b1, rfl, rfl⟩
 refine WLa rfl (WLa rfl (WL_nil (WQ_code (WC_seq (WC_region (WLa rfl ?_))))))
 refine WL_val rfl rfl rfl (R_loadA (vs := [_, _]) rfl ag108 rfl (mmY) rfl (atZ)) ?_
 refine WL_do rfl rfl rfl (D_call (dget_ok d hd fd dir h1 h2) rfl rfl rfl rfl (pqY)) ?_
 rintro _ _ ⟨_, ⟨rfl, rfl⟩, rfl⟩
 refine WLa rfl (WLa rfl (WLa rfl (WLa rfl (WLa rfl (WL_nil (WQ_code (WC_seq (WC_region (WLa rfl ?_)))))))))
 refine WL_val rfl rfl rfl (R_eql rfl rfl rfl) ?_
 refine WLa rfl ?_
 refine WL_set (s := 16) (v := .bool true) rfl (by simp) ?_
 refine WLa rfl (WLa rfl (WLa rfl ?_))
 refine WL_val rfl rfl rfl (R_fieldAddr rfl fa166_0 rfl) ?_
 refine WL_val rfl rfl rfl (R_load rfl sc155 rfl (mmY) rfl) ?_
 refine WL_do rfl rfl rfl (D_call (vnow_ok d.pc now) rfl rfl rfl rfl (pqY)) ?_
 rintro _ _ ⟨_, ⟨rfl, rfl⟩, rfl⟩
 refine WL_do rfl rfl rfl (D_call (passn_ok _ now hd.r.nv) rfl rfl rfl rfl (pqY)) ?_
 rintro _ _ ⟨_, ⟨rfl, rfl⟩, rfl⟩
 refine WLa rfl (WLa rfl (WLa rfl (WLa rfl (WL_nil (WQ_code (WC_ret ?_))))))
 refine WQ_ret rfl rfl (.cons (.tmp rfl) (.cons (.tmp rfl) .nil)) rfl (by
   exact ⟨rfl, rfl⟩) (pqY)
def clrF (f : Nat → Nat) (fd : Nat) : Nat → Nat → Nat
 | 0 => f
 | j + 1 => updF (clrF f fd j) (2 * fd + j) 18446744073709551615
structure DjW where
 j : Nat
 d : DM
theorem dclear_ok (d : DM) (hd : DIs f now d) (fd : Nat) (h1 : fd < 128) (hb : d.m.g.n + 2 < 9000000000000000000) : Spec Tryz.prog 44 [ptrH d.p, .int .i64 (fd : Int)] (dlH now d) (fun r H' => ∃ d' : DM, r = .int .i64 0 ∧ H' = dlH now d' ∧ d'.p = d.p ∧ d'.m.g.n ≤ d.m.g.n + 2 ∧ DIs (clrF f fd 2) now d') := by
 refine Spec.of (E := [(0, ptrH d.p), (1, .int .i64 (fd : Int))]) Tryz.func44 rfl (by kernel_rfl) Tryz.ntmps44 rfl rfl (fun w => ?_)
 refine WC_seq (WC_region (WLa rfl (WL_nil (WQ_code (WC_seq (WC_seq (WC_region (WLa rfl (WLa rfl ?_)))))))))
 refine WL_do rfl rfl rfl (D_call (dfile_ok d.p d.pc d.m.pt d.S (fd : Int)) rfl rfl rfl rfl (pqY)) ?_
 rintro _ _ ⟨_, ⟨rfl, rfl⟩, rfl⟩
 refine WLa rfl (WL_nil (WQ_code (WC_seq (WC_region (WLa rfl ?_)))))
 refine WL_val rfl rfl rfl (R_neq rfl rfl rfl) ?_
 refine WL_nil (WQ_code ?_)
 refine WC_dF rfl (by unfold fileE; split <;> omega) ?_
 refine WC_skip (WQ_code (WC_seq (WC_seq (WC_region (WLa rfl (WL_nil (WQ_code (WC_block ?_))))))))
 refine WC_loopF (G := DjW) [6, 13, 14, 15, 16, 17, 18, 19, 20, 21] (fun y => y.j ≤ 2 ∧ DIs (clrF f fd y.j) now y.d ∧ y.d.p = d.p ∧ y.d.m.g.n ≤ d.m.g.n + y.j) (fun y => [(6, .int .i64 (y.j : Int))]) (fun y => dlH now y.d) (fun y => 2 - y.j) (⟨0, d⟩) (⟨Nat.zero_le _, hd, rfl, Nat.le_refl _⟩) leZ (pqY) ?_
 rintro y ⟨hyj, hy, hyp, hyn⟩
 rw [← hyp]
 refine WC_seq (WC_seq (WC_region (WLa rfl ?_)))
 refine WL_val rfl rfl rfl (R_leq rfl rfl rfl) ?_
 refine WL_nil (WQ_code ?_)
 refine WC_dec rfl (fun c1 => ?_) (fun c1 => ?_)
 ·refine WC_skip (WQ_code (WC_seq (WC_block (WC_region (WLa rfl (WLa rfl (WLa rfl ?_)))))))
  refine WL_val rfl rfl rfl (R_build rfl zv108 pl108 rfl rfl) ?_
  refine WL_do rfl rfl rfl (D_call (dset_ok y.d hy fd y.j h1 (by omega) 18446744073709551615 (Nat.le_refl _) (by omega)) rfl rfl rfl rfl (pqY)) ?_
  rintro _ _ ⟨_, ⟨d', rfl, rfl, hdp, hdn, hd'⟩, rfl⟩
  refine WL_nil (WQ_code (WC_region (WLa rfl ?_)))
  refine WL_val rfl rfl rfl (R_add rfl rfl rfl (by omega)) ?_
  refine WLa rfl (WL_nil ?_)
  rw [← hdp]
  refine WQ_nextF (⟨y.j + 1, d'⟩) (⟨by dsimp only; omega, hd', rfl, by dsimp only; omega⟩) (by dsimp only; omega) leZ (psZ) rfl (pqY)
 ·refine WC_exit (WQ_code (WC_seq (WC_region (WLa rfl (WL_nil (WQ_code (WC_ret ?_)))))))
  refine WQ_ret rfl rfl (.cons (.tmp rfl) .nil) rfl (by
    have hj2 : y.j = 2 := by omega
    exact ⟨y.d, rfl, rfl, rfl, by omega, by rw [← hj2]; exact hy⟩) (pqY)
theorem dnext_ok (d : DM) (hd : DIs f now d) : Spec Tryz.prog 79 [ptrH d.p] (dlH now d) (fun r H' => r = .int .u64 (nxtL d.L : Int) ∧ H' = dlH now d) := by
 refine Spec.of (E := [(0, ptrH d.p)]) Tryz.func79 rfl (by kernel_rfl) Tryz.ntmps79 rfl rfl (fun w => ?_)
 refine WC_seq (WC_region (WLa rfl (WL_nil (WQ_code (WC_seq (WC_seq (WC_region (WLa rfl ?_))))))))
 refine WL_do rfl rfl rfl (D_call (dzero_ok d.p d.pc d.m.pt d.S) rfl rfl rfl rfl (pqY)) ?_
 rintro _ _ ⟨_, ⟨rfl, rfl⟩, rfl⟩
 refine WL_nil (WQ_code ?_)
 refine WC_F rfl ?_
 refine WC_skip (WQ_code (WC_seq (WC_region (WLa rfl (WLa rfl ?_)))))
 refine WL_val rfl rfl rfl (R_fieldAddr rfl fa166_1 rfl) ?_
 refine WL_val rfl rfl rfl (R_load rfl sc158 rfl (mmY) rfl) ?_
 refine WL_do rfl rfl rfl (D_call (mnext_ok d.L d.m hd.t) rfl rfl rfl rfl (pqY)) ?_
 rintro _ _ ⟨_, ⟨rfl, rfl⟩, rfl⟩
 refine WLa rfl (WL_nil (WQ_code (WC_ret ?_)))
 refine WQ_ret rfl rfl (.cons (.tmp rfl) .nil) rfl (by
   exact ⟨rfl, rfl⟩) (pqY)
theorem dnow_ok (d : DM) (hd : DIs f now d) : Spec Tryz.prog 78 [ptrH d.p] (dlH now d) (fun r H' => r = .int .u64 (now : Int) ∧ H' = dlH now d) := by
 refine Spec.of (E := [(0, ptrH d.p)]) Tryz.func78 rfl (by kernel_rfl) Tryz.ntmps78 rfl rfl (fun w => ?_)
 refine WC_seq (WC_region (WLa rfl (WL_nil (WQ_code (WC_seq (WC_seq (WC_region (WLa rfl ?_))))))))
 refine WL_do rfl rfl rfl (D_call (dzero_ok d.p d.pc d.m.pt d.S) rfl rfl rfl rfl (pqY)) ?_
 rintro _ _ ⟨_, ⟨rfl, rfl⟩, rfl⟩
 refine WL_nil (WQ_code ?_)
 refine WC_F rfl ?_
 refine WC_skip (WQ_code (WC_seq (WC_region (WLa rfl (WLa rfl ?_)))))
 refine WL_val rfl rfl rfl (R_fieldAddr rfl fa166_0 rfl) ?_
 refine WL_val rfl rfl rfl (R_load rfl sc155 rfl (mmY) rfl) ?_
 refine WL_do rfl rfl rfl (D_call (vnow_ok d.pc now) rfl rfl rfl rfl (pqY)) ?_
 rintro _ _ ⟨_, ⟨rfl, rfl⟩, rfl⟩
 refine WLa rfl (WL_nil (WQ_code (WC_ret ?_)))
 refine WQ_ret rfl rfl (.cons (.tmp rfl) .nil) rfl (by
   exact ⟨rfl, rfl⟩) (pqY)
theorem dcopy_ok (d : DM) (hd : DIs f now d) : Spec Tryz.prog 81 [ptrH d.p] (dlH now d) (fun r H' => ∃ d' : DM, r = ptrH d'.p ∧ H' = dlH now d' ++ dlH now d ∧ d'.m.g.n = d.m.g.n ∧ DIs f now d') := by
 have hln : (d.S.flatMap encSl).length = 1024 := by rw [fm_length encSl4, hd.r.len]
 refine Spec.of (E := [(0, ptrH d.p)]) Tryz.func81 rfl (by kernel_rfl) Tryz.ntmps81 rfl rfl (fun w => ?_)
 refine WC_seq (WC_region (WLa rfl (WL_nil (WQ_code (WC_seq (WC_seq (WC_region (WLa rfl ?_))))))))
 refine WL_do rfl rfl rfl (D_call (dzero_ok d.p d.pc d.m.pt d.S) rfl rfl rfl rfl (pqY)) ?_
 rintro _ _ ⟨_, ⟨rfl, rfl⟩, rfl⟩
 refine WL_nil (WQ_code ?_)
 refine WC_F rfl ?_
 refine WC_skip (WQ_code (WC_seq ?_))
 refine WC_draw _ [(0, true), (1, true), (2, true), (3, true), (5, true), (6, true), (7, true), (8, true), (10, true), (11, true), (12, true), (13, true), (4, false), (9, false), (14, true), (15, false), (16, true)] followsMixed rfl rfl (by kernel_rfl) .all ?_
 refine WMa rfl (WMa rfl ?_)
 refine WM_val rfl rfl rfl rfl (R_fieldAddr rfl fa166_0 rfl) ?_
 refine WM_val rfl rfl rfl rfl (R_load rfl sc155 rfl (mmY) rfl) ?_
 refine WMa rfl (WMa rfl ?_)
 refine WM_val rfl rfl rfl rfl (R_fieldAddr rfl fa166_1 rfl) ?_
 refine WM_val rfl rfl rfl rfl (R_load rfl sc158 rfl (mmY) rfl) ?_
 refine WMa rfl (WMa rfl ?_)
 refine WM_val rfl rfl rfl rfl (R_fieldAddr rfl fa166_2 rfl) ?_
 refine WM_val rfl rfl rfl rfl (R_loadA (vs := d.S.flatMap encSl) rfl ag164 rfl (mmY) hln (by intro m v hm; rw [show 0 + 2 + m = m + 1 + 1 from by omega]; exact hm)) ?_
 refine WM_do rfl rfl rfl rfl (D_call (vcopy_ok d.pc now) rfl rfl rfl rfl (pqY)) ?_
 rintro _ _ ⟨_, ⟨p2, rfl, rfl⟩, rfl⟩
 refine ⟨⟨_, pqY⟩, ?_⟩
 refine WM_do rfl rfl rfl rfl (D_call (mcopy_ok d.L d.m hd.t) rfl rfl rfl rfl (pqY)) ?_
 rintro _ _ ⟨_, ⟨m', rfl, rfl, hmn, hm'⟩, rfl⟩
 refine ⟨⟨_, pqY⟩, ?_⟩
 refine WM_val rfl rfl rfl rfl (R_build (cs := ptrH p2 :: ptrH m'.pt :: d.S.flatMap encSl) rfl (nw_zero ▸ zv166) pl166 rfl (fill3 (show ((nwS 0).flatMap encSl).length = 1024 by rw [fm_length encSl4, nw_len 0 (by omega)]) hln)) ?_
 refine WM_do rfl rfl rfl rfl (D_box (cs := dlV p2 m'.pt d.S) rfl rfl rfl) ?_
 rintro _ _ ⟨b1, rfl, rfl⟩
 refine ⟨⟨_, pqY⟩, ?_⟩
 refine WMa rfl (WM_nil (WQ_code (WC_ret ?_)))
 refine WQ_ret rfl rfl (.cons (.tmp rfl) .nil) rfl (by
   exact ⟨⟨b1, p2, d.L, d.S, m'⟩, rfl, rfl, hmn, ⟨hd.r, hm'⟩⟩) (pqY)
end
end Go.Proofs.YtbkdebnkoidicaaGreat
end
section
namespace Go.Proofs.YtbkdebnkoidicaaGreat
open Go.Shelf Go.RowKit Go.Lib Go.Sort
theorem hw_grow {Hc : Heap} {W W' : World} (h : HOK Hc W) (c : HW Hc W Hc W') : ∃ q os', W' = grow (W.drewN q) os' := by
  have hb := HW.belOf h c
  refine ⟨W'.drawn - W.drawn, W'.heap.extract W.heap.size W'.heap.size, ?_⟩
  have hheap : W'.heap = W.heap ++ W'.heap.extract W.heap.size W'.heap.size := by
    apply Array.ext_getElem?
    intro k
    rw [Array.getElem?_append]
    by_cases hk : k < W.heap.size
    · rw [if_pos hk]; exact hb.block k hk
    · rw [if_neg hk, Array.getElem?_extract]
      by_cases h2 : k < W'.heap.size
      · rw [if_pos (by omega)]; congr 1; omega
      · rw [if_neg (by omega), Array.getElem?_eq_none (by omega)]
  have hdr := c.dr
  obtain ⟨hp, tp, dr, os, out⟩ := W'
  obtain ⟨hp0, tp0, dr0, os0, out0⟩ := W
  have e1 := c.os
  have e2 := c.tape
  have e3 := c.output
  dsimp only at e1 e2 e3 hdr hheap
  subst e1 e2 e3
  simp only [grow, World.drewN, World.mk.injEq, true_and, and_true]
  exact ⟨hheap, by omega⟩
section
variable {α : Type} [Inhabited α] {enc : α → Value}
theorem holds_of {w : World} {b : Nat} {e : TypeId} {d : List α} {tl : List Value} (hb : w.heap[b]? = some (cl (d.map enc ++ tl) e)) : Holds enc w b 0 d.toArray := fun j hj => by
  have hj' : j < d.length := by simpa using hj
  have hg : (d.map enc ++ tl)[j]? = some (enc d[j]) := by rw [List.getElem?_append_left (by simpa using hj'), List.getElem?_map, List.getElem?_eq_getElem hj']; rfl
  refine ⟨?_, ?_⟩
  · simp only [World.cell?, hb, cl, Nat.zero_add, List.getElem?_toArray, hg]
    simp [hj']
  · simp [World.frozen?, hb, cl]
theorem sw_hw {Hc : Heap} {w : World} {b : Nat} {e : TypeId} {d d' : List α} {tl : List Value} (hw : HOK (⟨some b, cl (d.map enc ++ tl) e⟩ :: Hc) w) (hl : d'.length = d.length) (m : Nat) (os : Array Obj) :
    HW (⟨some b, cl (d.map enc ++ tl) e⟩ :: Hc) w (⟨some b, cl (d'.map enc ++ tl) e⟩ :: Hc) (sortWorld enc w b 0 m d'.toArray os) := by
  have hb : w.heap[b]? = some (cl (d.map enc ++ tl) e) := by
    have := hw.ok _ (List.mem_cons_self ..)
    simpa [Ent.ok] using this
  have hlt := (Array.getElem?_eq_some_iff.1 hb).1
  have hput : putCells enc 0 d'.toArray (d.map enc ++ tl).toArray = (d'.map enc ++ tl).toArray := by
    apply Array.ext_getElem?
    intro k
    simp only [putCells, Array.getElem?_mapIdx, List.getElem?_toArray]
    by_cases hk : k < d'.length
    · rw [List.getElem?_append_left (by simpa using (by omega : k < d.length)), List.getElem?_append_left (by simpa using hk), List.getElem?_map, List.getElem?_map, List.getElem?_eq_getElem (by omega : k < d.length), List.getElem?_eq_getElem hk]
      simp [hk]
    · rw [List.getElem?_append_right (by simp; omega), List.getElem?_append_right (by simp; omega)]
      simp only [List.length_map, hl]
      cases tl[k - d.length]? with
      | none => rfl
      | some v => simp [hk]
  have hsame : (sortWorld enc w b 0 m d'.toArray os).heap[b]? = some (cl (d'.map enc ++ tl) e) := by
    simp only [sortWorld, grow, putRow, mapBlock, Sort.ahead, Array.getElem?_append, Array.size_modify, hlt, if_true, Array.getElem?_modify, hb, Option.map_some, cl, onCells]
    rw [hput]
  have hother : ∀ k, k < w.heap.size → k ≠ b → (sortWorld enc w b 0 m d'.toArray os).heap[k]? = w.heap[k]? := fun k hk hne => by
    simp only [sortWorld, grow, putRow, mapBlock, Sort.ahead, Array.getElem?_append, Array.size_modify, hk, if_true, Array.getElem?_modify, if_neg (Ne.symm hne)]
  have hnd := hw.nodup
  simp only [keys, List.filterMap_cons, List.nodup_cons] at hnd
  refine ⟨⟨by simp only [keys, List.filterMap_cons, List.nodup_cons]; exact hnd, fun x hx => ?_⟩, rfl, rfl, rfl, ?_, fun k hk hn => ?_, fun k hk => .inl (by simpa [keys] using hk), ?_⟩
  · rcases List.mem_cons.1 hx with rfl | hx2
    · simpa [Ent.ok] using hsame
    · have h1 := hw.ok x (List.mem_cons_of_mem _ hx2)
      cases hxb : x.b with
      | none => simp only [Ent.ok, hxb] at h1 ⊢; exact h1
      | some c =>
        simp only [Ent.ok, hxb] at h1 ⊢
        have hne : c ≠ b := fun e => hnd.1 (by subst e; exact List.mem_filterMap.2 ⟨x, hx2, hxb⟩)
        rw [hother c (Array.getElem?_eq_some_iff.1 h1).1 hne]; exact h1
  · simp [sortWorld, grow, putRow, mapBlock, Sort.ahead]
  · exact hother k hk (fun e => hn (by subst e; simp [keys]))
  · simp [sortWorld, grow, putRow, mapBlock, Sort.ahead]
end
end Go.Proofs.YtbkdebnkoidicaaGreat
end
section
namespace Go.Proofs.YtbkdebnkoidicaaGreat
open Go.Shelf Go.RowKit Go.Lib Go.Sort
section
variable {α : Type} [Inhabited α] {enc : α → List Value} {k : Nat}
theorem flat_eq (hk : ∀ x, (enc x).length = k) (d : List α) : flatK enc k d.toArray = (d.flatMap enc).toArray := by
  have hs : (d.flatMap enc).length = d.length * k := fm_length hk d
  apply Array.ext
  · simp [hs]
  · intro t h1 h2
    have ht : t < d.length * k := by simpa using h1
    have k0 : 0 < k := by rcases Nat.eq_zero_or_pos k with h | h; · subst h; simp at ht
                          · exact h
    have hi : t / k < d.length := Nat.div_lt_of_lt_mul (by rw [Nat.mul_comm]; exact ht)
    have hj : t % k < k := Nat.mod_lt t k0
    have hg := get_flatK enc k d.toArray t (by simpa using ht)
    rw [getElem!_pos _ t h1] at hg
    have hx : d[t / k]? = some d[t / k] := List.getElem?_eq_getElem hi
    have hf := fm_get hk hx hj []
    rw [List.append_nil, show t / k * k + t % k = t from by rw [Nat.mul_comm]; exact Nat.div_add_mod t k] at hf
    rw [hg]
    have e1 : d.toArray[t / k]! = d[t / k] := by simp [hi]
    rw [e1, getElem!_pos _ _ (by rw [hk]; exact hj)]
    have h3 : t < (d.flatMap enc).length := by simpa using h2
    rw [List.getElem?_eq_getElem h3, List.getElem?_eq_getElem (by rw [hk]; exact hj)] at hf
    simpa using (Option.some.inj hf).symm
theorem sortK_ok {P : Program} {ρ : Ren} (L : SlLaysF0.n6 P ρ) (f : Nat) (hf : ρ.f 6 = f) (aE : ∀ w, (isAgg (ρ.t 24)).run P w = .ok true w) (zE : ∀ w, (Go.sizeOf (ρ.t 24)).run P w = .ok k w) (hk : ∀ x, (enc x).length = k) (h1 : ∀ x, ∀ v ∈ enc x, v.oneCell' = true)
    (cf : α → α → Int) (hO : SWO (ltOf cf)) (g : Nat) (cb : List Value) (Hc : Heap) (hcmp : ∀ x y, Spec P g ([.agg (enc x).toArray, .agg (enc y).toArray] ++ cb) Hc (fun r H' => r = .int .i64 (cf x y) ∧ H' = Hc)) (hen : Enters P f)
    (b n c : Nat) (e : TypeId) (d : List α) (tl : List Value) (hn : d.length = n) (hsz : n < 4611686018427387904) :
    Spec P f [slV (some b) n c, .func (.func g) #[] cb.toArray] (⟨some b, cl (d.flatMap enc ++ tl) e⟩ :: Hc)
      (fun r H' => ∃ d' : List α, r = .tuple #[] ∧ d'.Perm d ∧ d'.Pairwise (fun x y => ltOf cf y x = false) ∧ H' = ⟨some b, cl (d'.flatMap enc ++ tl) e⟩ :: Hc) := by
  subst hf hn
  refine ⟨hen, fun w hw => callsIn_wide.2 ?_⟩
  have hb : w.heap[b]? = some (cl (d.flatMap enc ++ tl) e) := by
    have := hw.ok _ (List.mem_cons_self ..)
    simpa [Ent.ok] using this
  have hlt := (Array.getElem?_eq_some_iff.1 hb).1
  have hsw : ∀ (m : Nat) (os : Array Obj) (dk : List α), dk.length = d.length → HW (⟨some b, cl (d.flatMap enc ++ tl) e⟩ :: Hc) w (⟨some b, cl (dk.flatMap enc ++ tl) e⟩ :: Hc) (sortWorldK enc k w b 0 m dk.toArray os) := fun m os dk hdk => by
    have hw' : HOK (⟨some b, cl ((d.flatMap enc).map id ++ tl) e⟩ :: Hc) w := by rw [List.map_id]; exact hw
    have := sw_hw (enc := id) (d := d.flatMap enc) (d' := dk.flatMap enc) (tl := tl) hw' (by rw [fm_length hk, fm_length hk, hdk]) m os
    rw [List.map_id, List.map_id, ← flat_eq hk dk] at this
    exact this
  have hc : CmpLays P g cb.toArray enc k cf b 0 d.toArray.size w := fun m os dk hdk x y => by
    have hw2 := hsw m os dk.toList (by simpa using hdk)
    simp only [Array.toArray_toList] at hw2
    have hok : HOK Hc (sortWorldK enc k w b 0 m dk os) := (hw2.perm (by simpa using (List.perm_append_comm (l₁ := [_]) (l₂ := Hc)))).left.hok
    have := callsIn_wide.1 ((hcmp x y).calls _ hok)
    rw [show ((#[Value.agg (enc x).toArray, Value.agg (enc y).toArray] : Array Value) ++ cb.toArray) = ([Value.agg (enc x).toArray, Value.agg (enc y).toArray] ++ cb).toArray from by simp]
    refine this.mono fun e w' ⟨v, H', e1, ⟨e2, e3⟩, e4⟩ => ⟨by rw [e1, e2], ?_⟩
    subst e3
    exact hw_grow hok e4
  have hH : HoldsK enc k w b 0 d.toArray := by
    unfold HoldsK
    rw [flat_eq hk]
    exact holds_of (enc := id) (by rw [List.map_id]; exact hb)
  have := AnyQ.slices_SortFunc L k aE zE enc hk h1 cf hO g cb.toArray b 0 c d.toArray w (hcmp default default).enters hc hH hlt (by simpa using hsz)
  refine this.mono fun e w' ⟨he, d', m, os, hp, hs, hwe⟩ => ?_
  obtain ⟨hs1, _, hp2⟩ := hp
  have hsz2 : d'.size = d.length := by simpa using hs1
  refine ⟨_, _, he, ⟨d'.toList, rfl, ?_, ?_, rfl⟩, ?_⟩
  · have e1 : d'.extract 0 d.toArray.size = d' := by simp [← hsz2]
    have e2 : d.toArray.extract 0 d.toArray.size = d.toArray := by simp
    rw [e1, e2] at hp2
    simpa using hp2
  · rw [List.pairwise_iff_getElem]
    intro i j hi hj hij
    have := hs i j (Nat.zero_le _) hij (by simpa [hsz2] using hj)
    have hi' : i < d'.size := by simpa using hi
    have hj' : j < d'.size := by simpa using hj
    simpa [hi', hj'] using this
  · rw [hwe]
    have := hsw m os d'.toList (by simpa using hsz2)
    simpa only [Array.toArray_toList] using this
end
theorem sort_none {P : Program} {ρ : Ren} (L : SlLaysF0.n6 P ρ) (f : Nat) (hf : ρ.f 6 = f) (hen : Enters P f) (ob : Option Nat) (c : Nat) (fv : Value) : Spec P f [slV ob 0 c, fv] [] (fun r H' => r = .tuple #[] ∧ H' = []) := by
  subst hf
  refine ⟨hen, fun w hw => callsIn_wide.2 ?_⟩
  have h : ∀ p, Calls P (ρ.f 6) #[.slice p 0 c, fv] w fun e w' => e = .returned (.tuple #[]) ∧ w' = w := fun p => AnyF.slices_SortFunc_none L p c fv w
  cases ob with
  | none => exact (h none).mono fun e w' ⟨e1, e2⟩ => ⟨_, _, e1, ⟨rfl, rfl⟩, by rw [e2]; exact HW.start hw⟩
  | some b => exact (h (some ⟨b, 0, none⟩)).mono fun e w' ⟨e1, e2⟩ => ⟨_, _, e1, ⟨rfl, rfl⟩, by rw [e2]; exact HW.start hw⟩
end Go.Proofs.YtbkdebnkoidicaaGreat
end
section
set_option linter.unusedVariables false
set_option maxRecDepth 20000
namespace Go.Proofs.YtbkdebnkoidicaaGreat
open Go.Shelf
def lysK_ren : Go.Shelf.Ren := ⟨fun | 6 => 107 | 14 => 156 | 15 => 157 | 20 => 190 | 21 => 191 | 22 => 192 | 23 => 193 | 24 => 194 | 25 => 195 | 26 => 196 | 27 => 197 | 28 => 198 | 29 => 199 | 46 => 211 | 47 => 212 | 48 => 213 | 49 => 214 | 50 => 215 | 57 => 218 | n => n, fun | 0 => 0 | 3 => 3 | 4 => 4 | 5 => 5 | 9 => 9 | 22 => 72 | 24 => 117 | 25 => 203 | 39 => 41 | 45 => 304 | 46 => 305 | 50 => 309 | 53 => 312 | 55 => 27 | 66 => 323 | 70 => 327 | 76 => 330 | 77 => 138 | n => n, fun n => n⟩
theorem lysK : SlLaysF0.n6 Tryz.prog lysK_ren := {
 mixed := by kernel_rfl,
 f6 := ⟨Tryz.f107.name, by decide, Tryz.func107.trans (congrArg some (by kernel_rfl))⟩,
 f14 := ⟨Tryz.f156.name, by decide, Tryz.func156.trans (congrArg some (by kernel_rfl))⟩,
 f15 := Tryz.func157.trans (congrArg some (by kernel_rfl)),
 f20 := ⟨Tryz.f190.name, by decide, Tryz.func190.trans (congrArg some (by kernel_rfl))⟩,
 f21 := ⟨Tryz.f191.name, by decide, Tryz.func191.trans (congrArg some (by kernel_rfl))⟩,
 f22 := ⟨Tryz.f192.name, by decide, Tryz.func192.trans (congrArg some (by kernel_rfl))⟩,
 f23 := ⟨Tryz.f193.name, by decide, Tryz.func193.trans (congrArg some (by kernel_rfl))⟩,
 f24 := ⟨Tryz.f194.name, by decide, Tryz.func194.trans (congrArg some (by kernel_rfl))⟩,
 f25 := ⟨Tryz.f195.name, by decide, Tryz.func195.trans (congrArg some (by kernel_rfl))⟩,
 f26 := ⟨Tryz.f196.name, by decide, Tryz.func196.trans (congrArg some (by kernel_rfl))⟩,
 f27 := ⟨Tryz.f197.name, by decide, Tryz.func197.trans (congrArg some (by kernel_rfl))⟩,
 f28 := Tryz.func198.trans (congrArg some (by kernel_rfl)),
 f29 := Tryz.func199.trans (congrArg some (by kernel_rfl)),
 f46 := ⟨Tryz.f211.name, by decide, Tryz.func211.trans (congrArg some (by kernel_rfl))⟩,
 f47 := Tryz.func212.trans (congrArg some (by kernel_rfl)),
 f48 := Tryz.func213.trans (congrArg some (by kernel_rfl)),
 f49 := ⟨Tryz.f214.name, by decide, Tryz.func214.trans (congrArg some (by kernel_rfl))⟩,
 f50 := ⟨Tryz.f215.name, by decide, Tryz.func215.trans (congrArg some (by kernel_rfl))⟩,
 f57 := ⟨Tryz.f218.name, by decide, Tryz.func218.trans (congrArg some (by kernel_rfl))⟩,
 t0 := Tryz.underlying0,
 a0 := Tryz.isAgg0,
 z0 := Tryz.sizeOf0,
 v0 := Tryz.zeroValue0,
 t3 := Tryz.underlying3,
 a3 := Tryz.isAgg3,
 z3 := Tryz.sizeOf3,
 v3 := Tryz.zeroValue3,
 t4 := Tryz.underlying4,
 a4 := Tryz.isAgg4,
 z4 := Tryz.sizeOf4,
 v4 := Tryz.zeroValue4,
 t5 := Tryz.underlying5,
 a5 := Tryz.isAgg5,
 z5 := Tryz.sizeOf5,
 v5 := Tryz.zeroValue5,
 t9 := Tryz.underlying9,
 a9 := Tryz.isAgg9,
 z9 := Tryz.sizeOf9,
 v9 := Tryz.zeroValue9,
 t22 := Tryz.underlying72,
 a22 := Tryz.isAgg72,
 z22 := Tryz.sizeOf72,
 v22 := Tryz.zeroValue72,
 t25 := Tryz.underlying203,
 a25 := Tryz.isAgg203,
 z25 := Tryz.sizeOf203,
 v25 := Tryz.zeroValue203,
 t39 := Tryz.underlying41,
 a39 := Tryz.isAgg41,
 z39 := Tryz.sizeOf41,
 v39 := Tryz.zeroValue41,
 t45 := Tryz.underlying304,
 a45 := Tryz.isAgg304,
 z45 := Tryz.sizeOf304,
 v45 := Tryz.zeroValue304,
 t46 := Tryz.underlying305,
 a46 := Tryz.isAgg305,
 z46 := Tryz.sizeOf305,
 v46 := Tryz.zeroValue305,
 t50 := Tryz.underlying309,
 a50 := Tryz.isAgg309,
 z50 := Tryz.sizeOf309,
 v50 := Tryz.zeroValue309,
 t53 := Tryz.underlying312,
 a53 := Tryz.isAgg312,
 z53 := Tryz.sizeOf312,
 v53 := Tryz.zeroValue312,
 t55 := Tryz.underlying27,
 a55 := Tryz.isAgg27,
 z55 := Tryz.sizeOf27,
 v55 := Tryz.zeroValue27,
 t66 := Tryz.underlying323,
 a66 := Tryz.isAgg323,
 z66 := Tryz.sizeOf323,
 v66 := Tryz.zeroValue323,
 t70 := Tryz.underlying327,
 a70 := Tryz.isAgg327,
 z70 := Tryz.sizeOf327,
 v70 := Tryz.zeroValue327,
 t76 := Tryz.underlying330,
 a76 := Tryz.isAgg330,
 z76 := Tryz.sizeOf330,
 v76 := Tryz.zeroValue330,
 t77 := Tryz.underlying138,
 a77 := Tryz.isAgg138,
 z77 := Tryz.sizeOf138,
 v77 := Tryz.zeroValue138 }
end Go.Proofs.YtbkdebnkoidicaaGreat
end
section
namespace Go.Proofs.YtbkdebnkoidicaaGreat
section
variable {X : Ctx} {E : Env} {H : Heap} {o : Oper}
theorem D_copy {t t2 e0 e e2 : TypeId} {sz bytes b k dl dc b2 k2 sl sc n : Nat} {zs cs cs2 news : List Value} {x y : Operand} {F : Heap}
    (ho : o.op = .call { callee := .builtin .copy, args := #[x, y], argTypes := #[t, t2] }) (hs : SI X.P t e0 sz bytes zs) (hx : ev E x = some (.slice (some ⟨b, k, none⟩) dl dc)) (hp : Pull ⟨some b, cl cs e⟩ H F)
    (hy : ev E y = some (.slice (some ⟨b2, k2, none⟩) sl sc)) (hm : (⟨some b2, cl cs2 e2⟩ : Ent) ∈ H) (hat : At cs2 k2 news) (hn : n = Nat.min sl dl) (hl : news.length = n * sz) (h1 : news.all Value.oneCell' = true) (hfit : k + news.length ≤ cs.length) :
    Does X o E H (fun v H' => v = .int .i64 (n : Int) ∧ H' = ⟨some b, cl (cs.take k ++ news ++ cs.drop (k + news.length)) e⟩ :: F) := by
  intro a w ha hw next Q kk
  obtain ⟨g1, i, z, g2, g3, g4, g5, g6, g7, g8⟩ := hs
  refine ⟨about_true, ?_⟩
  rw [semAt_of (by rw [ho]; intro c e; cases e)]
  have hnews := cells_at hw hm hat
  have hb : w.heap[b]? = some (cl cs e) := by
    have := hw.hok.ok _ (pull_mem hp)
    simpa [Ent.ok] using this
  have hf := run_firstCells_some (P := X.P) (w := w) i.size n ⟨b2, k2, none⟩ sl sc news (by rw [g4]; exact hl) hnews
  obtain ⟨w', q1, q2, q3, q4, q5, q6, q7, q8⟩ := run_storeCells_at (P := X.P) (b := b) (e := e) k news 0 cs w hb (by omega) (List.all_eq_true.1 h1)
  have hr : (Builtin.copy_ #[t, t2] o.type #[.slice (some ⟨b, k, none⟩) dl dc, .slice (some ⟨b2, k2, none⟩) sl sc]).run X.P w = .ok (.int .i64 (n : Int)) w' := by
    have hn2 : sl.min dl = n := hn.symm
    simp [Builtin.copy_, run_underlying g1, Builtin.lenOf, sizeOf, typeInfo, g2, goInt]
    rw [hn2, hf]
    simp [q1]
  have hexec : (execOp a.eval o).run X.P w = .ok (.value (.int .i64 (n : Int))) w' := by
    simp [execOp, ho, resolve, ha.eval hx, ha.eval hy, invoke, builtin, hr]
  rw [hexec]
  refine kk _ _ _ ⟨rfl, ?_⟩ (hw.turn hp q2 q3 q4 q5 q6 q7 q8)
  rw [Nat.add_zero, putAt_eq cs k news hfit]
end
end Go.Proofs.YtbkdebnkoidicaaGreat
end
section
set_option linter.unusedVariables false
set_option maxRecDepth 20000
namespace Go.Proofs.YtbkdebnkoidicaaGreat
theorem areq (a0 a1 b0 b1 : Int) (w : World) : (binOp .eql 195 (.agg #[.int .i64 a0, .int .i64 a1]) (.agg #[.int .i64 b0, .int .i64 b1])).run Tryz.prog w = .ok (.bool (decide (a0 = b0 ∧ a1 = b1))) w := by
 have hi : Tryz.prog.info? 3 = some Tryz.t3 := by kernel_rfl
 have hc : Tryz.prog.cellsOf 3 = 1 := by kernel_rfl
 rw [run_eql_struct, run_equalIn_array (P := Tryz.prog) (w := w) 9999 _ _ Tryz.underlying195 hi]
 by_cases h0 : a0 = b0 <;> by_cases h1 : a1 = b1 <;> simp [Op.eqItems, List.range_succ, part, hc, run_equalIn_int w 9998 3 .i64 .i64 _ _ Tryz.underlying3, Tryz.isAgg3, h0, h1]
theorem R_areq {X : Ctx} {E : Env} {H : Heap} {o : Oper} {x y : Operand} {t' : TypeId} {a0 a1 b0 b1 : Int} (hP : X.P = Tryz.prog) (ho : o.op = .binOp .eql 195 x y t') (hx : ev E x = some (.agg #[.int .i64 a0, .int .i64 a1])) (hy : ev E y = some (.agg #[.int .i64 b0, .int .i64 b1])) : Runs X o E H (.bool (decide (a0 = b0 ∧ a1 = b1))) :=
 R_bin ho hx hy (fun w => by rw [hP]; exact run_eqGuard_agg w _ 195 x y _ _ Tryz.eqGuardType195) (fun w => by rw [hP]; exact areq a0 a1 b0 b1 w)
end Go.Proofs.YtbkdebnkoidicaaGreat
end
section
set_option linter.unusedVariables false
set_option maxRecDepth 20000
set_option maxHeartbeats 2000000
namespace Go.Proofs.YtbkdebnkoidicaaGreat
theorem Spec.frm {P : Program} {f : FuncId} {args : List Value} {H : Heap} {post : Value → Heap → Prop} (h : Spec P f args H post) (F : Heap) : Spec P f args (H ++ F) (fun v H' => ∃ H1, post v H1 ∧ H' = H1 ++ F) :=
 ⟨h.enters, fun w hw => (h.calls w hw.left).mono fun e w' ⟨v, H', e1, p, r⟩ => ⟨v, H' ++ F, e1, ⟨H', p, rfl⟩, HW.frame (HW.start hw) (.refl _) r⟩⟩
theorem quoI {a b : Nat} (ha : a < 9223372036854775808) (hb : 1 ≤ b) : IntKind.i64.wrap (((a : Int)).tdiv (b : Int)) = ((a / b : Nat) : Int) := by
 have h : a / b ≤ a := Nat.div_le_self a b
 rw [Int.tdiv_eq_ediv_of_nonneg (by omega), show ((a : Int) / (b : Int)) = ((a / b : Nat) : Int) from (Int.natCast_ediv a b).symm]
 generalize a / b = q at *
 rw [IntWalk.i64_in _ (by omega)]
theorem tk_next {α : Type} {l : List α} {k : Nat} {x : α} (h : l[k]? = some x) : l.take (k + 1) = l.take k ++ [x] := by
 obtain ⟨h2, rfl⟩ := List.getElem?_eq_some_iff.1 h
 rw [List.take_append_getElem]
def cmpP (x0 x1 y0 y1 : Int) : Int := if x0 = y0 ∧ x1 = y1 then 0 else orL [cmpI x0 y0, cmpI x1 y1]
def cmpLp (x y : Lp) : Int := orL [cmpI x.at_ y.at_, cmpP x.fd x.dir y.fd y.dir]
theorem orL2 (a b : Int) : orL [a, b] = if a = 0 then b else a := by
 unfold orL
 by_cases h : a = 0 <;> by_cases h2 : b = 0 <;> simp [h, h2]
theorem cmpLp_lt (x y : Lp) : cmpLp x y < 0 ↔ lpLt x y := by
 unfold cmpLp lpLt
 rw [orL2, cmpP, orL2]
 unfold cmpI
 repeat' split
 all_goals omega
theorem pcmp_ok (x0 x1 y0 y1 : Int) : Spec Tryz.prog 106 [.agg #[.int .i64 x0, .int .i64 x1], .agg #[.int .i64 y0, .int .i64 y1]] [] (fun r H' => r = .int .i64 (cmpP x0 x1 y0 y1) ∧ H' = []) := by
 refine Spec.of (E := [(0, .agg #[.int .i64 x0, .int .i64 x1]), (1, .agg #[.int .i64 y0, .int .i64 y1])]) Tryz.func106 rfl (by kernel_rfl) Tryz.ntmps106 rfl rfl (fun w => ?_)
 refine WC_seq (WC_region ?_)
 refine WL_do rfl rfl rfl (D_box (cs := [_, _]) rfl rfl rfl) ?_
 rintro _ _ ⟨b1, rfl, rfl⟩
 refine WL_do rfl rfl rfl (D_box (cs := [_, _]) rfl rfl rfl) ?_
 rintro _ _ ⟨b2, rfl, rfl⟩
 refine WLa rfl (WL_nil (WQ_code (WC_seq (WC_seq (WC_region ?_)))))
 refine WL_val rfl rfl rfl (R_loadA (vs := [_, _]) rfl ag195 rfl (mmY) rfl (atZ)) ?_
 refine WL_val rfl rfl rfl (R_loadA (vs := [_, _]) rfl ag195 rfl (mmY) rfl (atZ)) ?_
 refine WL_val rfl rfl rfl (R_areq rfl rfl rfl rfl) ?_
 refine WL_nil (WQ_code ?_)
 refine WC_dec rfl (fun c1 => ?_) (fun c1 => ?_)
 ·refine WC_seq (WC_region (WLa rfl (WL_nil (WQ_code (WC_ret ?_)))))
  refine WQ_ret rfl rfl (.cons (.tmp rfl) .nil) rfl (by
    exact ⟨congrArg (Value.int .i64) (by unfold cmpP; rw [if_pos (by assumption)]), rfl⟩) (pqY)
 ·refine WC_skip (WQ_code (WC_seq ?_))
  refine WC_draw _ [(0, true), (1, true), (2, true), (3, true), (4, true), (5, true), (6, true), (7, true), (8, true), (9, true), (10, false), (11, false), (12, true)] followsMixed rfl rfl (by kernel_rfl) .all ?_
  refine WM_val rfl rfl rfl rfl (R_indexAddrA rfl Tryz.underlying195 Tryz.sizeOf3 rfl rfl (by omega)) ?_
  refine WM_val rfl rfl rfl rfl (R_load rfl sc3 rfl (mmY) rfl) ?_
  refine WM_val rfl rfl rfl rfl (R_indexAddrA rfl Tryz.underlying195 Tryz.sizeOf3 rfl rfl (by omega)) ?_
  refine WM_val rfl rfl rfl rfl (R_load rfl sc3 rfl (mmY) rfl) ?_
  refine WM_call rfl (Spec.quiet (cmpi_ok _ _)) rfl rfl rfl rfl rfl rfl rfl (pqY) ?_
  refine WM_val rfl rfl rfl rfl (R_indexAddrA rfl Tryz.underlying195 Tryz.sizeOf3 rfl rfl (by omega)) ?_
  refine WM_val rfl rfl rfl rfl (R_load rfl sc3 rfl (mmY) rfl) ?_
  refine WM_val rfl rfl rfl rfl (R_indexAddrA rfl Tryz.underlying195 Tryz.sizeOf3 rfl rfl (by omega)) ?_
  refine WM_val rfl rfl rfl rfl (R_load rfl sc3 rfl (mmY) rfl) ?_
  refine WM_call rfl (Spec.quiet (cmpi_ok _ _)) rfl rfl rfl rfl rfl rfl rfl (pqY) ?_
  refine WM_do rfl rfl rfl rfl (D_buildSlice rfl si34 rfl rfl rfl) ?_
  rintro _ _ ⟨b3, rfl, rfl⟩
  refine ⟨⟨_, pqY⟩, ?_⟩
  refine WM_do rfl rfl rfl rfl (D_call (or_ok b3 2 [cmpI x0 y0, cmpI x1 y1] [] (by simp)) rfl rfl rfl rfl (pqY)) ?_
  rintro _ _ ⟨_, ⟨rfl, rfl⟩, rfl⟩
  refine ⟨⟨_, pqY⟩, ?_⟩
  refine WMa rfl (WM_nil (WQ_code (WC_ret ?_)))
  refine WQ_ret rfl rfl (.cons (.tmp rfl) .nil) rfl (by
    exact ⟨congrArg (Value.int .i64) (by unfold cmpP; rw [if_neg (by assumption)]), rfl⟩) (pqY)
theorem pof_ok (x0 x1 : Int) : Spec Tryz.prog 111 [.agg #[.int .i64 x0, .int .i64 x1]] [] (fun r H' => r = .agg #[.int .i64 x0, .int .i64 x1] ∧ H' = []) := by
 refine Spec.of (E := [(0, .agg #[.int .i64 x0, .int .i64 x1])]) Tryz.func111 rfl (by kernel_rfl) Tryz.ntmps111 rfl rfl (fun w => ?_)
 refine WC_seq (WC_region ?_)
 refine WL_do rfl rfl rfl (D_box (cs := [_, _]) rfl rfl rfl) ?_
 rintro _ _ ⟨b1, rfl, rfl⟩
 refine WL_do rfl rfl rfl (D_alloc rfl zv195) ?_
 rintro _ _ ⟨b2, rfl, rfl⟩
 refine WL_nil (WQ_code (WC_seq (WC_region ?_)))
 refine WL_val rfl rfl rfl (R_fieldAddr rfl fa108_0 rfl) ?_
 refine WL_val rfl rfl rfl (R_load rfl sc3 rfl (mmY) rfl) ?_
 refine WL_val rfl rfl rfl (R_fieldAddr rfl fa108_1 rfl) ?_
 refine WL_val rfl rfl rfl (R_load rfl sc44 rfl (mmY) rfl) ?_
 refine WL_val rfl rfl rfl (R_buildArr rfl Tryz.underlying195 Tryz.sizeOf3 zv195 rfl rfl) ?_
 refine WL_do0 rfl rfl (D_store (vs := [_, _]) rfl Tryz.sizeOf195 rfl rfl rfl rfl rfl (plY) (Nat.le_of_ble_eq_true rfl)) ?_
 rintro _ _ rfl
 refine WL_nil (WQ_code (WC_ret ?_))
 refine WQ_ret rfl rfl (.cons (.cell (vs := [_, _]) rfl ag195 (mmY) rfl (atZ)) .nil) rfl (by
   exact ⟨rfl, rfl⟩) (pqY)
theorem pspot_ok (x0 x1 : Int) : Spec Tryz.prog 105 [.agg #[.int .i64 x0, .int .i64 x1]] [] (fun r H' => r = .agg #[.int .i64 x0, .int .i64 x1] ∧ H' = []) := by
 refine Spec.of (E := [(0, .agg #[.int .i64 x0, .int .i64 x1])]) Tryz.func105 rfl (by kernel_rfl) Tryz.ntmps105 rfl rfl (fun w => ?_)
 refine WC_seq (WC_region ?_)
 refine WL_do rfl rfl rfl (D_box (cs := [_, _]) rfl rfl rfl) ?_
 rintro _ _ ⟨b1, rfl, rfl⟩
 refine WL_do rfl rfl rfl (D_alloc rfl zv108) ?_
 rintro _ _ ⟨b2, rfl, rfl⟩
 refine WL_nil (WQ_code (WC_seq (WC_region ?_)))
 refine WL_val rfl rfl rfl (R_indexAddrA rfl Tryz.underlying195 Tryz.sizeOf3 rfl rfl (by omega)) ?_
 refine WL_val rfl rfl rfl (R_load rfl sc3 rfl (mmY) rfl) ?_
 refine WL_val rfl rfl rfl (R_indexAddrA rfl Tryz.underlying195 Tryz.sizeOf3 rfl rfl (by omega)) ?_
 refine WL_val rfl rfl rfl (R_load rfl sc3 rfl (mmY) rfl) ?_
 refine WL_val rfl rfl rfl (R_build rfl zv108 pl108 rfl rfl) ?_
 refine WL_do0 rfl rfl (D_store (vs := [_, _]) rfl Tryz.sizeOf108 rfl rfl rfl rfl rfl (plY) (Nat.le_of_ble_eq_true rfl)) ?_
 rintro _ _ rfl
 refine WL_nil (WQ_code (WC_ret ?_))
 refine WQ_ret rfl rfl (.cons (.cell (vs := [_, _]) rfl ag108 (mmY) rfl (atZ)) .nil) rfl (by
   exact ⟨rfl, rfl⟩) (pqY)
theorem dac_ok (x y : Lp) (bq : Nat) : Spec Tryz.prog 108 [.agg (encLp x).toArray, .agg (encLp y).toArray, ptrH bq] [⟨some bq, cl [.func (.func 106) #[] #[]] 197⟩] (fun r H' => r = .int .i64 (cmpLp x y) ∧ H' = [⟨some bq, cl [.func (.func 106) #[] #[]] 197⟩]) := by
 refine Spec.of (E := [(0, .agg (encLp x).toArray), (1, .agg (encLp y).toArray), (2, ptrH bq)]) Tryz.func108 rfl (by kernel_rfl) Tryz.ntmps108 rfl rfl (fun w => ?_)
 refine WC_seq (WC_region ?_)
 refine WL_do rfl rfl rfl (D_box (cs := [_, _, _]) rfl rfl rfl) ?_
 rintro _ _ ⟨b1, rfl, rfl⟩
 refine WL_do rfl rfl rfl (D_box (cs := [_, _, _]) rfl rfl rfl) ?_
 rintro _ _ ⟨b2, rfl, rfl⟩
 refine WLa rfl (WL_nil (WQ_code (WC_seq ?_)))
 refine WC_draw _ [(0, true), (1, true), (2, true), (3, true), (4, true), (5, true), (6, true), (7, true), (8, true), (9, true), (10, true), (11, true), (12, true), (13, false), (14, false), (15, true)] followsMixed rfl rfl (by kernel_rfl) .all ?_
 refine WM_val rfl rfl rfl rfl (R_fieldAddr rfl fa117_1 rfl) ?_
 refine WM_val rfl rfl rfl rfl (R_load rfl sc28 rfl (mmY) rfl) ?_
 refine WM_val rfl rfl rfl rfl (R_fieldAddr rfl fa117_1 rfl) ?_
 refine WM_val rfl rfl rfl rfl (R_load rfl sc28 rfl (mmY) rfl) ?_
 refine WM_call rfl (Spec.quiet (cmpt_ok _ _)) rfl rfl rfl rfl rfl rfl rfl (pqY) ?_
 refine WM_val rfl rfl rfl rfl (R_load rfl sc197 rfl (mmY) rfl) ?_
 refine WM_val rfl rfl rfl rfl (R_fieldAddr rfl fa117_0 rfl) ?_
 refine WM_val rfl rfl rfl rfl (R_loadA (vs := [_, _]) rfl ag108 rfl (mmY) rfl (atZ)) ?_
 refine WM_call rfl (Spec.quiet (pof_ok _ _)) rfl rfl rfl rfl rfl rfl rfl (pqY) ?_
 refine WM_val rfl rfl rfl rfl (R_fieldAddr rfl fa117_0 rfl) ?_
 refine WM_val rfl rfl rfl rfl (R_loadA (vs := [_, _]) rfl ag108 rfl (mmY) rfl (atZ)) ?_
 refine WM_call rfl (Spec.quiet (pof_ok _ _)) rfl rfl rfl rfl rfl rfl rfl (pqY) ?_
 refine WM_call rfl (Spec.quiet (pcmp_ok _ _ _ _)) rfl rfl rfl rfl rfl rfl rfl (pqY) ?_
 refine WM_do rfl rfl rfl rfl (D_buildSlice rfl si34 rfl rfl rfl) ?_
 rintro _ _ ⟨b3, rfl, rfl⟩
 refine ⟨⟨_, pqY⟩, ?_⟩
 refine WM_do rfl rfl rfl rfl (D_call (or_ok b3 2 [cmpI x.at_ y.at_, cmpP x.fd x.dir y.fd y.dir] [] (by simp)) rfl rfl rfl rfl (pqY)) ?_
 rintro _ _ ⟨_, ⟨rfl, rfl⟩, rfl⟩
 refine ⟨⟨_, pqY⟩, ?_⟩
 refine WMa rfl (WM_nil (WQ_code (WC_ret ?_)))
 refine WQ_ret rfl rfl (.cons (.tmp rfl) .nil) rfl (by
   exact ⟨rfl, rfl⟩) (pqY)
open Go.Shelf Go.RowKit Go.Lib Go.Sort
theorem dsort_ok (l : List Lp) (hl : l.length ≤ 1000000) (ob : Option Nat) (c : Nat) (tl : List Value) (own : Own ob l.length c 3 (l.flatMap encLp) tl) (bq : Nat) : Spec Tryz.prog 107 [slV ob l.length c, .func (.func 108) #[] #[ptrH bq]] [⟨ob, cl (l.flatMap encLp ++ tl) 117⟩, ⟨some bq, cl [.func (.func 106) #[] #[]] 197⟩]
  (fun r H' => ∃ l' : List Lp, r = .tuple #[] ∧ l'.Perm l ∧ l'.Pairwise (fun a b => ¬ lpLt b a) ∧ H' = [⟨ob, cl (l'.flatMap encLp ++ tl) 117⟩, ⟨some bq, cl [.func (.func 106) #[] #[]] 197⟩]) := by
 haveI : Inhabited Lp := ⟨⟨0, 0, 0⟩⟩
 cases ob with
 | none =>
  obtain ⟨h0, rfl, h2, rfl⟩ := own.void'
  have hl0 : l = [] := List.eq_nil_of_length_eq_zero h0
  subst hl0
  refine ((sort_none lysK 107 rfl (Enters.mk Tryz.func107 rfl rfl) none 0 (.func (.func 108) #[] #[ptrH bq])).frm [⟨none, cl [] 117⟩, ⟨some bq, cl [.func (.func 106) #[] #[]] 197⟩]).mono fun r H' ⟨H1, ⟨e1, e2⟩, e3⟩ => ⟨[], e1, .refl _, .nil, ?_⟩
  subst e2; exact e3
 | some b =>
  refine (sortK_ok (enc := encLp) (k := 3) lysK 107 rfl (fun w => (ag117 w).1) (fun w => (ag117 w).2) encLp3 (fun x v hv => ?_) cmpLp ?swo 108 [ptrH bq] [⟨some bq, cl [.func (.func 106) #[] #[]] 197⟩] (fun x y => dac_ok x y bq) (Enters.mk Tryz.func107 rfl rfl) b l.length c 117 l tl rfl (by omega)).mono fun r H' ⟨d', e1, e2, e3, e4⟩ => ⟨d', e1, e2, ?_, e4⟩
  ·simp only [encLp, List.mem_cons, List.not_mem_nil, or_false] at hv
   rcases hv with rfl | rfl | rfl <;> rfl
  case swo =>
   refine ⟨fun x => ?_, fun x y z h1 h2 => ?_, fun x y z h1 h2 => ?_⟩
   ·simp only [ltOf, decide_eq_false_iff_not, cmpLp_lt]; exact lp_irrefl x
   ·simp only [ltOf, decide_eq_true_eq, cmpLp_lt] at *; exact lp_trans h1 h2
   ·simp only [ltOf, decide_eq_false_iff_not, cmpLp_lt] at *; unfold lpLt at *; omega
  ·refine e3.imp fun {a b} h => ?_
   simpa only [ltOf, decide_eq_false_iff_not, cmpLp_lt] using h
structure AvW where
 k : Nat
 S : List Sl
 o : List Lp
 ob : Option Nat
 c : Nat
 tl : List Value
section
variable {f : Nat → Nat} {now : Nat}
theorem dadv_never (d : DM) (hd : DIs f now d) : Spec Tryz.prog 50 [ptrH d.p, .int .u64 18446744073709551615] (dlH now d) (fun r H' => r = .tuple #[.slice none 0 0, .int .i64 2] ∧ H' = dlH now d) := by
 refine Spec.of (E := [(0, ptrH d.p), (1, .int .u64 18446744073709551615)]) Tryz.func50 rfl (by kernel_rfl) Tryz.ntmps50 rfl rfl (fun w => ?_)
 refine WC_seq (WC_region (WLa rfl (WLa rfl (WL_nil (WQ_code (WC_seq (WC_seq (WC_region (WLa rfl ?_)))))))))
 refine WL_do rfl rfl rfl (D_call (dzero_ok d.p d.pc d.m.pt d.S) rfl rfl rfl rfl (pqY)) ?_
 rintro _ _ ⟨_, ⟨rfl, rfl⟩, rfl⟩
 refine WL_nil (WQ_code ?_)
 refine WC_F rfl ?_
 refine WC_skip (WQ_code (WC_seq (WC_seq (WC_region (WLa rfl (WLa rfl ?_))))))
 refine WL_val rfl rfl rfl (R_fieldAddr rfl fa166_0 rfl) ?_
 refine WL_val rfl rfl rfl (R_load rfl sc155 rfl (mmY) rfl) ?_
 refine WLa rfl ?_
 refine WL_do rfl rfl rfl (D_call (vadv_never d.pc now) rfl rfl rfl rfl (pqY)) ?_
 rintro _ _ ⟨_, ⟨rfl, rfl⟩, rfl⟩
 refine WLa rfl (WL_nil (WQ_code (WC_seq (WC_region (WLa rfl ?_)))))
 refine WL_val rfl rfl rfl (R_neq rfl rfl rfl) ?_
 refine WL_nil (WQ_code ?_)
 refine WC_dT rfl (by simp) ?_
 refine WC_seq (WC_region (WLa rfl (WLa rfl (WLa rfl (WL_nil (WQ_code (WC_ret ?_)))))))
 refine WQ_ret rfl rfl (.cons (.tmp rfl) (.cons (.tmp rfl) .nil)) rfl (by
   exact ⟨rfl, rfl⟩) (pqY)
theorem dadv_past (d : DM) (hd : DIs f now d) (to : Nat) (h : to < now) : Spec Tryz.prog 50 [ptrH d.p, .int .u64 (to : Int)] (dlH now d) (fun r H' => r = .tuple #[.slice none 0 0, .int .i64 3] ∧ H' = dlH now d) := by
 have hnv := hd.r.nv
 refine Spec.of (E := [(0, ptrH d.p), (1, .int .u64 (to : Int))]) Tryz.func50 rfl (by kernel_rfl) Tryz.ntmps50 rfl rfl (fun w => ?_)
 refine WC_seq (WC_region (WLa rfl (WLa rfl (WL_nil (WQ_code (WC_seq (WC_seq (WC_region (WLa rfl ?_)))))))))
 refine WL_do rfl rfl rfl (D_call (dzero_ok d.p d.pc d.m.pt d.S) rfl rfl rfl rfl (pqY)) ?_
 rintro _ _ ⟨_, ⟨rfl, rfl⟩, rfl⟩
 refine WL_nil (WQ_code ?_)
 refine WC_F rfl ?_
 refine WC_skip (WQ_code (WC_seq (WC_seq (WC_region (WLa rfl (WLa rfl ?_))))))
 refine WL_val rfl rfl rfl (R_fieldAddr rfl fa166_0 rfl) ?_
 refine WL_val rfl rfl rfl (R_load rfl sc155 rfl (mmY) rfl) ?_
 refine WLa rfl ?_
 refine WL_do rfl rfl rfl (D_call (vadv_past d.pc now to h (by omega)) rfl rfl rfl rfl (pqY)) ?_
 rintro _ _ ⟨_, ⟨rfl, rfl⟩, rfl⟩
 refine WLa rfl (WL_nil (WQ_code (WC_seq (WC_region (WLa rfl ?_)))))
 refine WL_val rfl rfl rfl (R_neq rfl rfl rfl) ?_
 refine WL_nil (WQ_code ?_)
 refine WC_dT rfl (by simp) ?_
 refine WC_seq (WC_region (WLa rfl (WLa rfl (WLa rfl (WL_nil (WQ_code (WC_ret ?_)))))))
 refine WQ_ret rfl rfl (.cons (.tmp rfl) (.cons (.tmp rfl) .nil)) rfl (by
   exact ⟨rfl, rfl⟩) (pqY)
theorem dadv_ok (d : DM) (hd : DIs f now d) (to : Nat) (h1 : now ≤ to) (h2 : to < 18446744073709551615) : Spec Tryz.prog 50 [ptrH d.p, .int .u64 (to : Int)] (dlH now d)
  (fun r H' => ∃ (l : List Lp) (ob : Option Nat) (c : Nat) (tl : List Value) (d' : DM), r = .tuple #[slV ob l.length c, .int .i64 0] ∧ Own ob l.length c 3 (l.flatMap encLp) tl ∧ IsLap f now to l ∧ l.length ≤ 1024 ∧ H' = ⟨ob, cl (l.flatMap encLp ++ tl) 117⟩ :: dlH to d' ∧ d'.p = d.p ∧ d'.m.g.n = d.m.g.n ∧ DIs f to d') := by
 have hxl : (eL to d.L).2.length ≤ 1024 := by
  refine Nat.le_trans (eL_ind (fun L z => z.2.length ≤ (live L).length) (fun L _ => Nat.zero_le _) (fun L i t _ _ => Nat.zero_le _) (fun L gv n i t z r h hn ih => ?_) _ d.L d.m.gv _ hd.t.r rfl) hd.t.live_len
  have hf := fstP_some h
  have := live_rm r hf.at_ hf.g
  simp only [List.length_cons]; omega
 have hxm := eL_mem hd.t.r (now := to)
 refine Spec.of (E := [(0, ptrH d.p), (1, .int .u64 (to : Int))]) Tryz.func50 rfl (by kernel_rfl) Tryz.ntmps50 rfl rfl (fun w => ?_)
 refine WC_seq (WC_region (WLa rfl (WLa rfl (WL_nil (WQ_code (WC_seq (WC_seq (WC_region (WLa rfl ?_)))))))))
 refine WL_do rfl rfl rfl (D_call (dzero_ok d.p d.pc d.m.pt d.S) rfl rfl rfl rfl (pqY)) ?_
 rintro _ _ ⟨_, ⟨rfl, rfl⟩, rfl⟩
 refine WL_nil (WQ_code ?_)
 refine WC_F rfl ?_
 refine WC_skip (WQ_code (WC_seq (WC_seq (WC_region (WLa rfl (WLa rfl ?_))))))
 refine WL_val rfl rfl rfl (R_fieldAddr rfl fa166_0 rfl) ?_
 refine WL_val rfl rfl rfl (R_load rfl sc155 rfl (mmY) rfl) ?_
 refine WLa rfl ?_
 refine WL_do rfl rfl rfl (D_call (vadv_ok d.pc now to h1 h2) rfl rfl rfl rfl (pqY)) ?_
 rintro _ _ ⟨_, ⟨rfl, rfl⟩, rfl⟩
 refine WLa rfl (WL_nil (WQ_code (WC_seq (WC_region (WLa rfl ?_)))))
 refine WL_val rfl rfl rfl (R_neq rfl rfl rfl) ?_
 refine WL_nil (WQ_code ?_)
 refine WC_dF rfl (by simp) ?_
 refine WC_skip (WQ_code (WC_seq (WC_region (WLa rfl (WL_nil (WQ_code (WC_seq (WC_seq (WC_region (WLa rfl (WLa rfl ?_)))))))))))
 refine WL_val rfl rfl rfl (R_fieldAddr rfl fa166_1 rfl) ?_
 refine WL_val rfl rfl rfl (R_load rfl sc158 rfl (mmY) rfl) ?_
 refine WLa rfl ?_
 refine WL_do rfl rfl rfl (D_call (mexp_e d.L d.m hd.t to h2) rfl rfl rfl rfl (pqY)) ?_
 rintro _ _ ⟨_, ⟨xb, xc, xt, m', rfl, xown, rfl, hmp, hmn, hm'⟩, rfl⟩
 rw [← hmp]
 refine WL_val rfl rfl rfl (R_len rfl Tryz.underlying190 rfl) ?_
 refine WLa rfl (WL_nil (WQ_code (WC_block ?_)))
 refine WC_none 117 ?_
 refine WC_loopF (G := AvW) [7, 9, 10, 30, 31, 32, 33, 34, 35, 36, 37, 38, 39, 40, 41, 42, 43, 44, 45, 46, 47, 48, 49, 50, 51, 52, 53, 54, 55, 56, 57, 58, 59] (fun y => y.k ≤ (eL to d.L).2.length ∧ Clr d.S y.S ((eL to d.L).2.take y.k) ∧ y.o = ((eL to d.L).2.take y.k).map lpT ∧ Own y.ob y.o.length y.c 3 (y.o.flatMap encLp) y.tl) (fun y => [(30, .int .i64 (y.k : Int)), (7, slV y.ob y.o.length y.c)]) (fun y => [⟨some d.p, cl (dlV d.pc m'.pt y.S) 166⟩, ⟨y.ob, cl (y.o.flatMap encLp ++ y.tl) 117⟩]) (fun y => (eL to d.L).2.length - y.k) (⟨0, d.S, [], none, 0, []⟩) (⟨Nat.zero_le _, by rw [List.take_zero]; exact Clr.nil _, by simp, Own.empty 3⟩) leZ (pqY) ?_
 rintro y ⟨hyk, hyS, hyo, hyw⟩
 refine WC_seq (WC_region ?_)
 refine WL_val rfl rfl rfl (R_lss rfl rfl rfl) ?_
 refine WL_nil (WQ_code (WC_seq ?_))
 refine WC_dec rfl (fun c1 => ?_) (fun c1 => ?_)
 ·refine WC_skip (WQ_code (WC_seq (WC_block (WC_seq (WC_region ?_)))))
  obtain ⟨t, ht⟩ := exE (T := (eL to d.L).2) (i := y.k) (by omega)
  obtain ⟨ht1, ht2, ht3⟩ := hxm t (List.mem_of_getElem? ht)
  obtain ⟨i, hi, ho, htf, htn, htN, hlpi⟩ := hd.r.lpT ht1 ht2
  have hlp : lpT t = ⟨((i / 2 : Nat) : Int), ((i % 2 : Nat) : Int), t.tm⟩ := by unfold lpT; rw [ho, Int.toNat_natCast]
  obtain ⟨xbb, rfl⟩ := xown.some_of (by omega)
  obtain ⟨s', hs'⟩ : ∃ s', y.S[2 * (i / 2) + i % 2]? = some s' := ⟨_, List.getElem?_eq_getElem (by rw [hyS.len, hd.r.len]; omega)⟩
  have hol : y.o.length = y.k := by rw [hyo, List.length_map, List.length_take]; omega
  refine WL_val rfl rfl rfl (R_indexAddrN rfl Tryz.underlying190 Tryz.sizeOf193 rfl rfl (by omega)) ?_
  refine WL_val rfl rfl rfl (R_loadA (vs := encDu t) rfl ag193 rfl (mmY) rfl (fm_at0 encDu4 ht (j := 0) (vs := encDu t) (fun j v h => by rw [Nat.zero_add]; exact h) (Nat.le_refl 4))) ?_
  refine WL_do rfl rfl rfl (D_alloc rfl zv193) ?_
  rintro _ _ ⟨b1, rfl, rfl⟩
  refine WL_do0 rfl rfl (D_store (vs := [_, _, _, _]) rfl Tryz.sizeOf193 rfl rfl rfl rfl rfl (plY) (Nat.le_of_ble_eq_true rfl)) ?_
  rintro _ _ rfl
  refine WL_nil (WQ_code (WC_seq (WC_region ?_)))
  refine WL_val rfl rfl rfl (R_fieldAddr rfl fa193_1 rfl) ?_
  refine WL_val rfl rfl rfl (R_load rfl sc3 rfl (mmY) rfl) ?_
  refine WL_val rfl rfl rfl (R_quoR (r := ((i / 2 : Nat) : Int)) rfl rfl rfl (by decide) (by rw [ho]; exact quoI (b := 2) (by omega) (by omega))) ?_
  refine WL_val rfl rfl rfl (R_fieldAddr rfl fa193_1 rfl) ?_
  refine WL_val rfl rfl rfl (R_load rfl sc3 rfl (mmY) rfl) ?_
  refine WL_val rfl rfl rfl (R_remR (r := ((i % 2 : Nat) : Int)) rfl rfl rfl (by decide) (by rw [ho]; exact remN (b := 2))) ?_
  refine WL_val rfl rfl rfl (R_buildArr rfl Tryz.underlying195 Tryz.sizeOf3 zv195 rfl rfl) ?_
  refine WL_do rfl rfl rfl (D_alloc rfl zv195) ?_
  rintro _ _ ⟨b2, rfl, rfl⟩
  refine WL_do0 rfl rfl (D_store (vs := [_, _]) rfl Tryz.sizeOf195 rfl rfl rfl rfl rfl (plY) (Nat.le_of_ble_eq_true rfl)) ?_
  rintro _ _ rfl
  refine WL_nil (WQ_code (WC_seq ?_))
  refine WC_drawR [⟨some d.p, _⟩] [(0, true), (1, true), (2, true), (3, true), (4, true), (5, true), (6, true), (7, true), (8, true), (9, true), (10, false)] followsMixed rfl rfl (by kernel_rfl) (pqY) ?_
  refine WMa rfl ?_
  refine WM_val rfl rfl rfl rfl (R_indexAddrA rfl Tryz.underlying195 Tryz.sizeOf3 rfl rfl (by omega)) ?_
  refine WM_val rfl rfl rfl rfl (R_load rfl sc3 rfl (mmY) rfl) ?_
  refine WM_val rfl rfl rfl rfl (R_indexAddrA rfl Tryz.underlying195 Tryz.sizeOf3 rfl rfl (by omega)) ?_
  refine WM_val rfl rfl rfl rfl (R_load rfl sc3 rfl (mmY) rfl) ?_
  refine WMa rfl ?_
  refine WM_val rfl rfl rfl rfl (R_fieldAddr rfl fa166_2 rfl) ?_
  refine WM_val rfl rfl rfl rfl (R_indexAddrAN rfl Tryz.underlying164 Tryz.sizeOf163 rfl rfl (by omega)) ?_
  refine WM_val rfl rfl rfl rfl (R_indexAddrAN rfl Tryz.underlying163 Tryz.sizeOf162 rfl rfl (by omega)) ?_
  refine WM_val rfl rfl rfl rfl (R_fieldAddr rfl fa162_1 rfl) ?_
  refine WM_do0 rfl rfl rfl (D_store (vs := [_]) rfl Tryz.sizeOf4 rfl rfl rfl rfl rfl (plY) (by exact dl_room (by rw [hyS.len, hd.r.len]; omega) (by omega))) ?_
  rintro _ _ rfl
  refine ⟨⟨_, pqY⟩, ?_⟩
  have hput := dl_put (pc := d.pc) (pt := m'.pt) { s' with set := false } hs' (j := 1) (vs := [.bool false]) (by simp) (by simp [putAt_cons, putAt_nil])
  rw [hput]
  refine WM_nil (WQ_code ?_)
  refine WC_drawR [⟨(y.ob), _⟩] [(0, true), (1, true), (2, true), (3, true), (4, true), (5, true), (6, false), (7, false), (8, true)] followsMixed rfl rfl (by kernel_rfl) (pqY) ?_
  refine WMa rfl ?_
  refine WM_val rfl rfl rfl rfl (R_loadA (vs := [_, _]) rfl ag195 rfl (mmY) rfl (atZ)) ?_
  refine WM_call rfl (Spec.quiet (pspot_ok _ _)) rfl rfl rfl rfl rfl rfl rfl (pqY) ?_
  refine WM_val rfl rfl rfl rfl (R_fieldAddr rfl fa193_2 rfl) ?_
  refine WM_val rfl rfl rfl rfl (R_load rfl sc28 rfl (mmY) rfl) ?_
  refine WM_val rfl rfl rfl rfl (R_build rfl zv117 pl117 rfl rfl) ?_
  refine WM_do rfl rfl rfl rfl (D_buildSlice rfl si72 rfl rfl rfl) ?_
  rintro _ _ ⟨b3, rfl, rfl⟩
  refine ⟨⟨_, pqY⟩, ?_⟩
  refine WM_do rfl rfl rfl rfl (D_append rfl si72 rfl (hyw) (plY) rfl (mmY) ((atZ : At _ 0 [_, _, _])) (rfl) (rfl) (by omega) (by omega)) ?_
  rintro _ _ ⟨ob4, cap4, tl4, rfl, own4, rfl⟩
  refine ⟨⟨_, pqY⟩, ?_⟩
  rw [show y.o.flatMap encLp ++ [Value.int .i64 ((i / 2 : Nat) : Int), .int .i64 ((i % 2 : Nat) : Int), .int .u64 (t.tm : Int)] = (y.o ++ [lpT t]).flatMap encLp from by rw [List.flatMap_append, hlp]; rfl, show y.o.length + 1 = (y.o ++ [lpT t]).length from by rw [List.length_append]; rfl] at *
  refine WMa rfl (WM_nil (WQ_code (WC_region ?_)))
  refine WL_val rfl rfl rfl (R_add rfl rfl rfl (by omega)) ?_
  refine WLa rfl (WL_nil ?_)
  refine WQ_nextF (⟨y.k + 1, y.S.set (2 * (i / 2) + i % 2) { s' with set := false }, y.o ++ [lpT t], ob4, cap4, tl4⟩) (⟨by dsimp only; omega, by dsimp only; rw [tk_next ht]; exact hyS.snoc (by rw [ho]; omega) hs', by dsimp only; rw [tk_next ht, List.map_append, hyo]; rfl, own4⟩) (by dsimp only; omega) leZ (psZ) rfl (pqY)
 ·have hk : y.k = (eL to d.L).2.length := by omega
  have hoX : y.o = (eL to d.L).2.map lpT := by rw [hyo, hk, List.take_length]
  have hSX : Clr d.S y.S (eL to d.L).2 := by have h9 := hyS; rw [hk, List.take_length] at h9; exact h9
  have hol : y.o.length ≤ 1024 := by rw [hoX, List.length_map]; omega
  refine WC_exit (WQ_code (WC_seq (WC_region ?_)))
  refine WL_do rfl rfl rfl (D_alloc rfl zv197) ?_
  rintro _ _ ⟨b5, rfl, rfl⟩
  refine WL_do0 rfl rfl (D_store (vs := [_]) rfl Tryz.sizeOf197 rfl rfl rfl rfl rfl (plY) (Nat.le_of_ble_eq_true rfl)) ?_
  rintro _ _ rfl
  refine WL_nil (WQ_code (WC_seq (WC_region (WLa rfl ?_))))
  refine WL_val rfl rfl rfl (R_makeFunc rfl rfl rfl) ?_
  refine WL_do rfl rfl rfl (D_call (dsort_ok y.o (by omega) y.ob y.c y.tl hyw b5) rfl rfl rfl rfl (pqY)) ?_
  rintro _ _ ⟨_, ⟨l2, rfl, hperm, hsort, rfl⟩, rfl⟩
  rw [← hperm.length_eq] at *
  refine WL_nil (WQ_code (WC_seq (WC_region (WLa rfl (WLa rfl (WLa rfl (WL_nil (WQ_code (WC_ret ?_)))))))))
  refine WQ_ret rfl rfl (.cons (.tmp rfl) (.cons (.tmp rfl) .nil)) rfl (by
    exact ⟨l2, y.ob, y.c, y.tl, ⟨d.p, d.pc, (eL to d.L).1, y.S, m'⟩, rfl, hyw.like (by rw [fm_length encLp3, fm_length encLp3, hperm.length_eq]), hd.r.laps hd.t.r h2 (hoX ▸ hperm) hsort, by omega, rfl, rfl, hmn, ⟨hd.r.adv hd.t.r h1 h2 hSX, hm'⟩⟩) (pqY)
end
end Go.Proofs.YtbkdebnkoidicaaGreat
end
section
set_option linter.unusedVariables false
set_option maxRecDepth 20000
namespace Go.Proofs.YtbkdebnkoidicaaGreat
def tbAt (T : List Slt.Pl) (n g : Int) : Option (Nat × Slt.Pl) := if 0 ≤ n then (T[n.toNat]?).bind (fun x => if x.opn = true ∧ g = x.given - 1 then some (n.toNat, x) else none) else none
theorem tbAt_some {T : List Slt.Pl} {n g : Int} {i : Nat} {x : Slt.Pl} (h : tbAt T n g = some (i, x)) : Slt.OpenAt T n g i x := by
 unfold tbAt at h
 split at h
 ·rename_i h0
  cases hx : T[n.toNat]? with
  | none => rw [hx] at h; cases h
  | some y =>
   rw [hx, Option.bind_some] at h
   split at h
   ·rename_i hq
    simp only [Option.some.injEq, Prod.mk.injEq] at h
    obtain ⟨rfl, rfl⟩ := h
    exact ⟨by omega, hx, hq.1, hq.2⟩
   ·cases h
 ·cases h
theorem tbAt_of {T : List Slt.Pl} {n g : Int} {i : Nat} {x : Slt.Pl} (h : Slt.OpenAt T n g i x) : tbAt T n g = some (i, x) := by
 obtain ⟨rfl, hx, ho, hg⟩ := h
 unfold tbAt
 rw [if_pos (by omega), Int.toNat_natCast, hx, Option.bind_some, if_pos ⟨ho, hg⟩]
theorem tbAt_none {T : List Slt.Pl} {n g : Int} (h : tbAt T n g = none) : Slt.NoneAt T n g := fun i x h2 => by rw [tbAt_of h2] at h; cases h
def getT (T : List Slt.Pl) (n g : Int) : Int × Int := match tbAt T n g with | some q => (q.2.value, 0) | none => (0, 9)
def clsT (T : List Slt.Pl) (n g : Int) : List Slt.Pl := match tbAt T n g with | some q => T.set q.1 { q.2 with opn := false } | none => T
def firstC : List Slt.Pl → Nat → Option (Nat × Slt.Pl)
 | [], _ => none
 | x :: r, k => if x.opn = true then firstC r (k + 1) else some (k, x)
theorem firstC_spec : ∀ (T : List Slt.Pl) (k : Nat), (firstC T k = none ∧ ∀ (j : Nat) (y : Slt.Pl), T[j]? = some y → y.opn = true) ∨ ∃ (i : Nat) (x : Slt.Pl), firstC T k = some (k + i, x) ∧ T[i]? = some x ∧ x.opn = false ∧ ∀ (j : Nat) (y : Slt.Pl), j < i → T[j]? = some y → y.opn = true
 | [], k => .inl ⟨rfl, fun j y h => by simp at h⟩
 | x :: r, k => by
  cases ho : x.opn with
  | false => exact .inr ⟨0, x, by unfold firstC; rw [ho]; simp, rfl, ho, fun j y hj => absurd hj (Nat.not_lt_zero j)⟩
  | true =>
   have e : firstC (x :: r) k = firstC r (k + 1) := by
    conv => lhs; unfold firstC
    rw [if_pos ho]
   rcases firstC_spec r (k + 1) with ⟨h1, h2⟩ | ⟨i, y, h1, h2, h3, h4⟩
   ·refine .inl ⟨by rw [e, h1], fun j y hy => ?_⟩
    cases j with
    | zero => simp at hy; subst hy; exact ho
    | succ j => exact h2 j y (by simpa using hy)
   ·refine .inr ⟨i + 1, y, by rw [e, h1, show k + 1 + i = k + (i + 1) from by omega], by simpa using h2, h3, fun j z hj hz => ?_⟩
    cases j with
    | zero => simp at hz; subst hz; exact ho
    | succ j => exact h4 j z (by omega) (by simpa using hz)
def opnR (T : List Slt.Pl) : (Int × Int) × Int := match firstC T 0 with | some q => (((q.1 : Int), q.2.given), 0) | none => ((0, 0), 7)
def opnT (T : List Slt.Pl) (v : Int) : List Slt.Pl := match firstC T 0 with | some q => T.set q.1 ⟨q.2.given + 1, v, true⟩ | none => T
def atT (T : List Slt.Pl) (n : Int) : (Int × Int) × Int := match (if 0 ≤ n then T[n.toNat]? else none) with | some x => if x.opn = true then ((n, x.given - 1), 0) else ((0, 0), 9) | none => ((0, 0), 9)
structure TbOk (N : Nat) (T : List Slt.Pl) : Prop where
 len : T.length = 128
 bd : ∀ x ∈ T, 0 ≤ x.given ∧ x.given ≤ N
theorem TbOk.fine {N : Nat} {T : List Slt.Pl} (h : TbOk N T) (hN : N ≤ 1000000) : Slt.Fine T := ⟨fun e => by (have := h.len; rw [e] at this; cases this), by rw [h.len]; exact Nat.le_refl _, fun x hx => by have := h.bd x hx; omega⟩
theorem TbOk.mono {N M : Nat} {T : List Slt.Pl} (h : TbOk N T) (hm : N ≤ M) : TbOk M T := ⟨h.len, fun x hx => by have := h.bd x hx; omega⟩
theorem TbOk.set {N : Nat} {T : List Slt.Pl} (h : TbOk N T) (i : Nat) (y : Slt.Pl) (hy : 0 ≤ y.given ∧ y.given ≤ N) : TbOk N (T.set i y) := ⟨by rw [List.length_set, h.len], fun x hx => by
 rcases List.mem_or_eq_of_mem_set hx with h1 | rfl
 ·exact h.bd x h1
 ·exact hy⟩
theorem TbOk.opn {N : Nat} {T : List Slt.Pl} (h : TbOk N T) (v : Int) : TbOk (N + 1) (opnT T v) := by
 unfold opnT
 rcases firstC_spec T 0 with ⟨h1, _⟩ | ⟨i, x, h1, h2, _, _⟩
 ·rw [h1]; exact h.mono (Nat.le_succ N)
 ·rw [h1]
  have := h.bd x (List.mem_of_getElem? h2)
  exact (h.mono (Nat.le_succ N)).set _ _ ⟨by dsimp only; omega, by dsimp only; omega⟩
theorem TbOk.cls {N : Nat} {T : List Slt.Pl} (h : TbOk N T) (n g : Int) : TbOk N (clsT T n g) := by
 unfold clsT
 cases hq : tbAt T n g with
 | none => exact h
 | some q => exact h.set _ _ (h.bd q.2 (List.mem_of_getElem? (tbAt_some hq).2.1))
theorem TbOk.new : TbOk 0 (Slt.freshT 128) := ⟨List.length_replicate, fun x hx => by rw [(List.mem_replicate.1 hx).2]; decide⟩
theorem getT_ok {N : Nat} {T : List Slt.Pl} (h : TbOk N T) {n g : Int} (hg : (getT T n g).2 = 0) : 0 ≤ n ∧ n < 128 ∧ ∃ i x, tbAt T n g = some (i, x) := by
 unfold getT at hg
 cases hq : tbAt T n g with
 | none => rw [hq] at hg; cases hg
 | some q =>
  obtain ⟨h1, h2, _, _⟩ := tbAt_some hq
  have := (List.getElem?_eq_some_iff.1 h2).1
  have := h.len
  exact ⟨by omega, by omega, q.1, q.2, rfl⟩
structure TbM where
 p : Nat
 pb : Nat
 c : Nat
 tl : List Value
def TBH (m : TbM) (T : List Slt.Pl) : Heap := Slt.tabH m.p m.pb m.c m.tl T
def DLH (now : Nat) (d : DM) : Heap := dlH now d
def PKH (l : PkM) : Heap := pkH l
def plS (a : Sp) : Nat := 2 * a.1.toNat + a.2.toNat
theorem vld_nat {a : Sp} (h : vldS a) : ∃ x y : Nat, x < 128 ∧ y < 2 ∧ a = ((x : Int), (y : Int)) ∧ plS a = 2 * x + y := by
 obtain ⟨n, d⟩ := a
 obtain ⟨h1, h2, h3⟩ := h
 dsimp only at *
 refine ⟨n.toNat, d.toNat, by omega, by omega, ?_, rfl⟩
 rw [show ((n.toNat : Nat) : Int) = n by omega, show ((d.toNat : Nat) : Int) = d by omega]
def markR (R l : List Int) (why : Int) : List Int := l.foldl (fun R t => R.set t.toNat why) R
theorem markR_len (why : Int) : ∀ (l R : List Int), (markR R l why).length = R.length
 | [], R => rfl
 | t :: l, R => by
  unfold markR; rw [List.foldl_cons]
  exact (markR_len why l _).trans (List.length_set ..)
structure PoS where
 T : List Slt.Pl
 f : Nat → Nat
 now : Nat
 s : PS
 R : List Int
structure PoM where
 p : Nat
 tb : TbM
 d : DM
 l : PkM
 rb : Nat
 rc : Nat
 rtl : List Value
abbrev poE (n : Nat) (m : PoM) : Ent := ⟨some m.p, cl [ptrH m.tb.p, ptrH m.d.p, ptrQ m.l.p, .slice (some ⟨m.rb, 0, none⟩) n m.rc] 92⟩
abbrev poH (z : PoS) (m : PoM) : Heap := poE z.R.length m :: ⟨some m.rb, cl (ivs z.R ++ m.rtl) 45⟩ :: (TBH m.tb z.T ++ (DLH z.now m.d ++ PKH m.l))
structure PoIs (N : Nat) (z : PoS) (m : PoM) : Prop where
 tb : TbOk N z.T
 di : DIs z.f z.now m.d
 dn : m.d.m.g.n ≤ N
 pk : PkIs N z.s m.l
 rl : z.R.length = z.s.sm.length
 pos : 1 ≤ z.s.sm.length
 own : Own (some m.rb) z.R.length m.rc 1 (ivs z.R) m.rtl
theorem PoIs.mono {N M : Nat} {z : PoS} {m : PoM} (h : PoIs N z m) (hm : N ≤ M) : PoIs M z m := ⟨h.tb.mono hm, h.di, Nat.le_trans h.dn hm, h.pk.mono hm, h.rl, h.pos, h.own⟩
theorem PoIs.rl64 {N : Nat} {z : PoS} {m : PoM} (h : PoIs N z m) : z.R.length ≤ 64 := by rw [h.rl]; exact h.pk.ps.len
def PoS.spE (z : PoS) (n g dir : Int) : Int := if dir = 0 ∨ dir = 1 then (getT z.T n g).2 else 2
def PoS.spA (n dir : Int) : Sp := if dir = 0 ∨ dir = 1 then (n, dir) else (0, 0)
def PoS.all (z : PoS) (a : Sp) (why : Int) : PoS := { z with s := z.s.wakeAll a, R := markR z.R (z.s.waiting a) why }
def PoS.openE (z : PoS) (v : Int) : PoS := { z with T := opnT z.T v }
def PoS.cls (z : PoS) (n g : Int) : PoS := { z with T := clsT z.T n g, f := clrF z.f n.toNat 2 }
def PoS.closeL (z : PoS) (n g : Int) : List Int := if (getT z.T n g).2 = 0 then (z.cls n g).s.waiting (n, 0) ++ ((z.cls n g).all (n, 0) 3).s.waiting (n, 1) else []
def PoS.close (z : PoS) (n g : Int) : PoS := if (getT z.T n g).2 = 0 then ((z.cls n g).all (n, 0) 3).all (n, 1) 3 else z
def PoS.dead (z : PoS) (n g dir : Int) (k : Nat) : PoS := if z.spE n g dir = 0 then (if k ≤ z.now then { z with f := updF z.f (plS (n, dir)) k }.all (n, dir) 2 else { z with f := updF z.f (plS (n, dir)) k }) else z
def PoS.deadL (z : PoS) (n g dir : Int) (k : Nat) : List Int := if z.spE n g dir = 0 then (if k ≤ z.now then z.s.waiting (n, dir) else []) else []
def PoS.chk (z : PoS) (n g dir : Int) : Int := if z.spE n g dir = 0 then (if z.f (plS (n, dir)) ≤ z.now then 12 else 0) else z.spE n g dir
def PoS.waitE (z : PoS) (i n g dir : Int) : Int := if (stR z.s.sm i).2 ≠ 0 then (stR z.s.sm i).2 else if z.spE n g dir ≠ 0 then z.spE n g dir else if (stR z.s.sm i).1 ≠ 1 then 8 else z.chk n g dir
def PoS.wait (z : PoS) (i n g dir : Int) : PoS := if z.waitE i n g dir = 0 then { z with s := z.s.park i (n, dir) } else z
def PoS.sigR (z : PoS) (n g dir : Int) : Int × Int := if z.spE n g dir = 0 then z.s.wakeR (n, dir) else (0, z.spE n g dir)
def PoS.sig (z : PoS) (n g dir : Int) : PoS := if (z.sigR n g dir).2 = 0 then { z with s := z.s.wake (n, dir), R := z.R.set (z.sigR n g dir).1.toNat 1 } else z
def PoS.sigAll (z : PoS) (n g dir : Int) : PoS := if z.spE n g dir = 0 then z.all (n, dir) 1 else z
def PoS.sigL (z : PoS) (n g dir : Int) : List Int := if z.spE n g dir = 0 then z.s.waiting (n, dir) else []
def PoS.start (z : PoS) (i : Int) : PoS := if (stepR z.s.sm z.s.qm 0 1 i).1 = 0 then { z with s := z.s.step 0 1 i, R := z.R.set i.toNat 0 } else z
def PoS.fin (z : PoS) (i : Int) : PoS := { z with s := z.s.step 1 0 i }
def PoS.turn (z : PoS) (i : Int) : PoS := { z with s := z.s.step 1 1 i }
def PoS.rsn (z : PoS) (i : Int) : Int × Int := if (stR z.s.sm i).2 ≠ 0 then (0, (stR z.s.sm i).2) else if (stR z.s.sm i).1 ≠ 1 then (0, 8) else (z.R.getD i.toNat 0, 0)
def PoS.whr (z : PoS) (i : Int) : ((Int × Int) × Int) × Int := if (z.s.whr i).2 ≠ 0 then (((0, 0), 0), (z.s.whr i).2) else (((atT z.T (z.s.whr i).1.1).1, (z.s.whr i).1.2), (atT z.T (z.s.whr i).1.1).2)
def PoS.laps (z : PoS) : List Lp → PoS × List Int
 | [] => (z, [])
 | x :: l => (((z.all (x.fd, x.dir) 2).laps l).1, z.s.waiting (x.fd, x.dir) ++ ((z.all (x.fd, x.dir) 2).laps l).2)
end Go.Proofs.YtbkdebnkoidicaaGreat
end
section
set_option linter.unusedVariables false
set_option maxRecDepth 20000
namespace Go.Proofs.YtbkdebnkoidicaaGreat
theorem s_new : Spec Tryz.prog 40 [.int .i64 128] [] (fun r H' => ∃ m : TbM, r = .tuple #[ptrH m.p, .int .i64 0] ∧ H' = TBH m (Slt.freshT 128)) :=
 (Slt.new_ok 128 (by decide) (by decide)).mono fun r H' ⟨p, pb, h1, h2⟩ => ⟨⟨p, pb, 128, []⟩, h1, h2⟩
section
variable {N : Nat} {T : List Slt.Pl}
theorem s_open (m : TbM) (hT : TbOk N T) (hN : N ≤ 900000) (v : Int) : Spec Tryz.prog 42 [ptrH m.p, .int .i64 v] (TBH m T) (fun r H' => r = .tuple #[.agg #[.int .i64 (opnR T).1.1, .int .i64 (opnR T).1.2], .int .i64 (opnR T).2] ∧ H' = TBH m (opnT T v)) := by
 rcases firstC_spec T 0 with ⟨h1, h2⟩ | ⟨i, x, h1, h2, h3, h4⟩
 ·have e1 : opnR T = ((0, 0), 7) := by unfold opnR; rw [h1]
  have e2 : opnT T v = T := by unfold opnT; rw [h1]
  rw [e1, e2]
  exact Slt.open_full m.p m.pb m.c m.tl T (hT.fine (by omega)) v h2
 ·rw [Nat.zero_add] at h1
  have e1 : opnR T = (((i : Int), x.given), 0) := by unfold opnR; rw [h1]
  have e2 : opnT T v = T.set i ⟨x.given + 1, v, true⟩ := by unfold opnT; rw [h1]
  rw [e1, e2]
  exact Slt.open_at m.p m.pb m.c m.tl T (hT.fine (by omega)) v i x h2 h3 h4
theorem s_close (m : TbM) (hT : TbOk N T) (hN : N ≤ 900000) (n g : Int) : Spec Tryz.prog 43 [ptrH m.p, .agg #[.int .i64 n, .int .i64 g]] (TBH m T) (fun r H' => r = .tuple #[.int .i64 (getT T n g).1, .int .i64 (getT T n g).2] ∧ H' = TBH m (clsT T n g)) := by
 cases hq : tbAt T n g with
 | none =>
  have e1 : getT T n g = (0, 9) := by unfold getT; rw [hq]
  have e2 : clsT T n g = T := by unfold clsT; rw [hq]
  rw [e1, e2]
  exact Slt.close_no m.p m.pb m.c m.tl T (hT.fine (by omega)) n g (tbAt_none hq)
 | some q =>
  have e1 : getT T n g = (q.2.value, 0) := by unfold getT; rw [hq]
  have e2 : clsT T n g = T.set q.1 { q.2 with opn := false } := by unfold clsT; rw [hq]
  rw [e1, e2]
  exact Slt.close_yes m.p m.pb m.c m.tl T (hT.fine (by omega)) n g q.1 q.2 (tbAt_some hq)
theorem s_get (m : TbM) (hT : TbOk N T) (hN : N ≤ 900000) (n g : Int) : Spec Tryz.prog 77 [ptrH m.p, .agg #[.int .i64 n, .int .i64 g]] (TBH m T) (fun r H' => r = .tuple #[.int .i64 (getT T n g).1, .int .i64 (getT T n g).2] ∧ H' = TBH m T) := by
 cases hq : tbAt T n g with
 | none =>
  have e1 : getT T n g = (0, 9) := by unfold getT; rw [hq]
  rw [e1]
  exact Slt.get_no m.p m.pb m.c m.tl T (hT.fine (by omega)) n g (tbAt_none hq)
 | some q =>
  have e1 : getT T n g = (q.2.value, 0) := by unfold getT; rw [hq]
  rw [e1]
  exact Slt.get_yes m.p m.pb m.c m.tl T (hT.fine (by omega)) n g q.1 q.2 (tbAt_some hq)
theorem s_at (m : TbM) (hT : TbOk N T) (hN : N ≤ 900000) (n : Int) : Spec Tryz.prog 53 [ptrH m.p, .int .i64 n] (TBH m T) (fun r H' => r = .tuple #[.agg #[.int .i64 (atT T n).1.1, .int .i64 (atT T n).1.2], .int .i64 (atT T n).2] ∧ H' = TBH m T) := by
 by_cases h0 : ∃ (i : Nat) (x : Slt.Pl), n = (i : Int) ∧ T[i]? = some x ∧ x.opn = true
 ·obtain ⟨i, x, rfl, hx, ho⟩ := h0
  have e1 : atT T (i : Int) = (((i : Int), x.given - 1), 0) := by
   unfold atT
   rw [if_pos (by omega), Int.toNat_natCast, hx]
   dsimp only
   rw [if_pos ho]
  rw [e1]
  exact Slt.at_yes m.p m.pb m.c m.tl T (hT.fine (by omega)) i x hx ho
 ·have hno : ∀ (i : Nat) (x : Slt.Pl), n = (i : Int) → T[i]? = some x → x.opn = false := fun i x h1 h2 => by
   cases ho : x.opn with
   | false => rfl
   | true => exact absurd ⟨i, x, h1, h2, ho⟩ h0
  have e1 : atT T n = ((0, 0), 9) := by
   unfold atT
   by_cases hn : 0 ≤ n
   ·rw [if_pos hn]
    cases hx : T[n.toNat]? with
    | none => rfl
    | some x =>
     dsimp only
     rw [hno n.toNat x (by omega) hx]; rfl
   ·rw [if_neg hn]
  rw [e1]
  exact Slt.at_no m.p m.pb m.c m.tl T (hT.fine (by omega)) n hno
theorem s_copy (m : TbM) (hT : TbOk N T) (hN : N ≤ 900000) : Spec Tryz.prog 80 [ptrH m.p] (TBH m T) (fun r H' => ∃ m2 : TbM, r = ptrH m2.p ∧ H' = TBH m2 T ++ TBH m T) :=
 (Slt.copy_ok m.p m.pb m.c m.tl T (hT.fine (by omega))).mono fun r H' ⟨p2, pb2, c2, tl2, h1, h2⟩ => ⟨⟨p2, pb2, c2, tl2⟩, h1, h2⟩
end
theorem d_new (now : Nat) (h : now < 18446744073709551615) : Spec Tryz.prog 39 [.int .u64 (now : Int)] [] (fun r H' => ∃ d : DM, r = .tuple #[ptrH d.p, .int .i64 0] ∧ H' = DLH now d ∧ d.m.g.n = 0 ∧ DIs (fun _ => 18446744073709551615) now d) := dnew_ok now h
theorem d_set {f : Nat → Nat} {now : Nat} (d : DM) (hd : DIs f now d) (a : Sp) (ha : vldS a) (k : Nat) (hk : k ≤ 18446744073709551615) (hb : d.m.g.n + 1 < 9000000000000000000) : Spec Tryz.prog 49 [ptrH d.p, ekS a, .int .u64 (k : Int)] (DLH now d)
  (fun r H' => ∃ d' : DM, r = .tuple #[.bool (decide (k ≤ now)), .int .i64 0] ∧ H' = DLH now d' ∧ d'.p = d.p ∧ d'.m.g.n ≤ d.m.g.n + 1 ∧ DIs (updF f (plS a) k) now d') := by
 obtain ⟨x, y, h1, h2, rfl, e⟩ := vld_nat ha
 rw [e]
 exact dset_ok d hd x y h1 h2 k hk hb
theorem d_pass {f : Nat → Nat} {now : Nat} (d : DM) (hd : DIs f now d) (a : Sp) (ha : vldS a) : Spec Tryz.prog 54 [ptrH d.p, ekS a] (DLH now d) (fun r H' => r = .tuple #[.bool (decide (f (plS a) ≤ now)), .int .i64 0] ∧ H' = DLH now d) := by
 obtain ⟨x, y, h1, h2, rfl, e⟩ := vld_nat ha
 rw [e]
 exact dpass_ok d hd x y h1 h2
theorem d_clear {f : Nat → Nat} {now : Nat} (d : DM) (hd : DIs f now d) (n : Int) (h1 : 0 ≤ n) (h2 : n < 128) (hb : d.m.g.n + 2 < 9000000000000000000) : Spec Tryz.prog 44 [ptrH d.p, .int .i64 n] (DLH now d) (fun r H' => ∃ d' : DM, r = .int .i64 0 ∧ H' = DLH now d' ∧ d'.p = d.p ∧ d'.m.g.n ≤ d.m.g.n + 2 ∧ DIs (clrF f n.toNat 2) now d') := by
 have e : n = ((n.toNat : Nat) : Int) := by omega
 have := dclear_ok d hd n.toNat (by omega) hb
 rw [← e] at this
 exact this
theorem d_now {f : Nat → Nat} {now : Nat} (d : DM) (hd : DIs f now d) : Spec Tryz.prog 78 [ptrH d.p] (DLH now d) (fun r H' => r = .int .u64 (now : Int) ∧ H' = DLH now d) := dnow_ok d hd
theorem d_next {f : Nat → Nat} {now : Nat} (d : DM) (hd : DIs f now d) : Spec Tryz.prog 79 [ptrH d.p] (DLH now d) (fun r H' => ∃ k : Nat, r = .int .u64 (k : Int) ∧ H' = DLH now d ∧ IsNx f now k) := (dnext_ok d hd).mono fun r H' ⟨h1, h2⟩ => ⟨_, h1, h2, hd.r.next⟩
theorem d_copy {f : Nat → Nat} {now : Nat} (d : DM) (hd : DIs f now d) : Spec Tryz.prog 81 [ptrH d.p] (DLH now d) (fun r H' => ∃ d' : DM, r = ptrH d'.p ∧ H' = DLH now d' ++ DLH now d ∧ d'.m.g.n = d.m.g.n ∧ DIs f now d') := dcopy_ok d hd
def advE11 (now to : Nat) : Int := if to = 18446744073709551615 then 2 else if to < now then 3 else 0
def advN11 (now to : Nat) : Nat := if advE11 now to = 0 then to else now
def LapR11 (f : Nat → Nat) (now to : Nat) (l : List Lp) : Prop := if advE11 now to = 0 then IsLap f now to l else l = []
theorem LapR11.one {f : Nat → Nat} {now to : Nat} {A B : List Lp} (ha : LapR11 f now to A) (hb : LapR11 f now to B) : A = B := by
 unfold LapR11 at *
 split at ha
 ·rename_i h; rw [if_pos h] at hb; exact ha.one hb
 ·rename_i h; rw [if_neg h] at hb; rw [ha, hb]
theorem d_adv {f : Nat → Nat} {now : Nat} (d : DM) (hd : DIs f now d) (to : Nat) (hto : to ≤ 18446744073709551615) : Spec Tryz.prog 50 [ptrH d.p, .int .u64 (to : Int)] (DLH now d)
  (fun r H' => ∃ (l : List Lp) (ob : Option Nat) (c : Nat) (tl : List Value) (d' : DM), r = .tuple #[slV ob l.length c, .int .i64 (advE11 now to)] ∧ Own ob l.length c 3 (l.flatMap encLp) tl ∧ LapR11 f now to l ∧ l.length ≤ 1024 ∧ H' = ⟨ob, cl (l.flatMap encLp ++ tl) 117⟩ :: DLH (advN11 now to) d' ∧ d'.p = d.p ∧ d'.m.g.n = d.m.g.n ∧ DIs f (advN11 now to) d') := by
 by_cases h1 : to = 18446744073709551615
 ·have e : advE11 now to = 2 := by unfold advE11; rw [if_pos h1]
  have e2 : advN11 now to = now := by unfold advN11; rw [e, if_neg (by decide)]
  have e3 : LapR11 f now to [] := by unfold LapR11; rw [e, if_neg (by decide)]
  rw [e, e2]
  subst h1
  refine (Spec.none 117 ((dadv_never d hd).mono fun r H' ⟨q1, q2⟩ => ⟨⟨none, cl [] 117⟩, ⟨rfl, rfl⟩, ?_⟩))
  exact ⟨[], none, 0, [], d, q1, Own.empty 3, e3, Nat.zero_le _, by rw [q2]; rfl, rfl, rfl, hd⟩
 ·by_cases h2 : to < now
  ·have e : advE11 now to = 3 := by unfold advE11; rw [if_neg h1, if_pos h2]
   have e2 : advN11 now to = now := by unfold advN11; rw [e, if_neg (by decide)]
   have e3 : LapR11 f now to [] := by unfold LapR11; rw [e, if_neg (by decide)]
   rw [e, e2]
   refine (Spec.none 117 ((dadv_past d hd to h2).mono fun r H' ⟨q1, q2⟩ => ⟨⟨none, cl [] 117⟩, ⟨rfl, rfl⟩, ?_⟩))
   exact ⟨[], none, 0, [], d, q1, Own.empty 3, e3, Nat.zero_le _, by rw [q2]; rfl, rfl, rfl, hd⟩
  ·have e : advE11 now to = 0 := by unfold advE11; rw [if_neg h1, if_neg h2]
   have e2 : advN11 now to = to := by unfold advN11; rw [e, if_pos rfl]
   rw [e, e2]
   refine (dadv_ok d hd to (by omega) (by omega)).mono fun r H' ⟨l, ob, c, tl, d', q1, q2, q3, q4, q5, q6, q7, q8⟩ => ⟨l, ob, c, tl, d', q1, q2, ?_, q4, q5, q6, q7, q8⟩
   unfold LapR11; rw [e, if_pos rfl]; exact q3
section
variable {N : Nat} {s : PS} (l : PkM) (hl : PkIs N s l)
include hl
theorem p_state (i : Int) : Spec Tryz.prog 58 [ptrQ l.p, .int .i64 i] (PKH l) (fun r H' => r = .tuple #[.int .i64 (stR s.sm i).1, .int .i64 (stR s.sm i).2] ∧ H' = PKH l) := pk_state N s l hl i
theorem p_ready : Spec Tryz.prog 51 [ptrQ l.p] (PKH l) (fun r H' => ∃ ob c' tl', r = slV ob s.qm.length c' ∧ Own ob s.qm.length c' 1 (ivs s.qm) tl' ∧ H' = ⟨ob, cl (ivs s.qm ++ tl') 3⟩ :: PKH l) := pk_ready N s l hl
theorem p_start (hN : N < 890000) (i : Int) : Spec Tryz.prog 46 [ptrQ l.p, .int .i64 i] (PKH l) (fun r H' => ∃ l' : PkM, r = .int .i64 (stepR s.sm s.qm 0 1 i).1 ∧ H' = PKH l' ∧ l'.p = l.p ∧ PkIs (N + 1) (s.step 0 1 i) l') := pk_start N s l hl (by omega) i
theorem p_fin (hN : N < 890000) (i : Int) : Spec Tryz.prog 56 [ptrQ l.p, .int .i64 i] (PKH l) (fun r H' => ∃ l' : PkM, r = .int .i64 (stepR s.sm s.qm 1 0 i).1 ∧ H' = PKH l' ∧ l'.p = l.p ∧ PkIs (N + 1) (s.step 1 0 i) l') := pk_fin N s l hl (by omega) i
theorem p_turn (hN : N < 890000) (i : Int) : Spec Tryz.prog 57 [ptrQ l.p, .int .i64 i] (PKH l) (fun r H' => ∃ l' : PkM, r = .int .i64 (stepR s.sm s.qm 1 1 i).1 ∧ H' = PKH l' ∧ l'.p = l.p ∧ PkIs (N + 1) (s.step 1 1 i) l') := pk_turn N s l hl (by omega) i
theorem p_where (i : Int) : Spec Tryz.prog 52 [ptrQ l.p, .int .i64 i] (PKH l) (fun r H' => r = .tuple #[ekS (s.whr i).1, .int .i64 (s.whr i).2] ∧ H' = PKH l) := pk_where N s l hl i
theorem p_park (hN : N < 890000) (i : Int) (a : Sp) : Spec Tryz.prog 48 [ptrQ l.p, .int .i64 i, ekS a] (PKH l) (fun r H' => ∃ l' : PkM, r = .int .i64 (s.parkE i a) ∧ H' = PKH l' ∧ l'.p = l.p ∧ PkIs (N + 1) (s.park i a) l') := pk_park N s l hl (by omega) i a
theorem p_wake (hN : N < 890000) (a : Sp) : Spec Tryz.prog 55 [ptrQ l.p, ekS a] (PKH l) (fun r H' => ∃ l' : PkM, r = .tuple #[.int .i64 (s.wakeR a).1, .int .i64 (s.wakeR a).2] ∧ H' = PKH l' ∧ l'.p = l.p ∧ PkIs (N + 1) (s.wake a) l') := pk_wake N s l hl (by omega) a
theorem p_wakeall (hN : N < 890000) (a : Sp) : Spec Tryz.prog 90 [ptrQ l.p, ekS a] (PKH l) (fun r H' => ∃ (l' : PkM) (ob : Option Nat) (c' : Nat) (tl' : List Value), r = .tuple #[slV ob (s.waiting a).length c', .int .i64 (spE a)] ∧ Own ob (s.waiting a).length c' 1 (ivs (s.waiting a)) tl' ∧ H' = ⟨ob, cl (ivs (s.waiting a) ++ tl') 3⟩ :: PKH l' ∧ l'.p = l.p ∧ PkIs (N + (s.waiting a).length) (s.wakeAll a) l') := pk_wakeall0 N s l hl (by omega) a
theorem p_copy : Spec Tryz.prog 82 [ptrQ l.p] (PKH l) (fun r H' => ∃ l2 : PkM, r = ptrQ l2.p ∧ H' = PKH l2 ++ PKH l ∧ PkIs N s l2) := pk_copy N s l hl
end
theorem p_new (m : Nat) (h1 : 1 ≤ m) (h2 : m ≤ 64) : Spec Tryz.prog 38 [.int .i64 (m : Int)] [] (fun r H' => ∃ l : PkM, r = .tuple #[ptrQ l.p, .int .i64 0] ∧ H' = PKH l ∧ PkIs 0 ⟨List.replicate m 0, [], []⟩ l) := pnew_ok m h1 h2
end Go.Proofs.YtbkdebnkoidicaaGreat
end
section
namespace Go.Proofs.YtbkdebnkoidicaaGreat
section
variable {X : Ctx} {E : Env} {H : Heap} {o : Oper} {ob : Option Nat} {b : Nat}
theorem R_idxO {t u : TypeId} {x y : Operand} {n c sz i : Nat} {kk : IntKind} (hob : ob = some b) (ho : o.op = .indexAddr t x y) (hu : X.P.underlying t = some (.slice u)) (hs : ∀ w, (sizeOf u).run X.P w = .ok sz w)
    (hx : ev E x = some (slV ob n c)) (hy : ev E y = some (.int kk (i : Int))) (hi : i < n) : Runs X o E H (.pointer (some ⟨b, 0 + i * sz, none⟩)) := by
  subst hob
  exact R_indexAddrN ho hu hs hx hy hi
theorem R_loadO {t : TypeId} {x : Operand} {k : Nat} {cs : List Value} {e : TypeId} {v : Value} (hob : ob = some b) (ho : o.op = .load t x) (ht : Sc X.P t) (hx : ev E x = some (.pointer (some ⟨b, k, none⟩)))
    (hm : (⟨ob, cl cs e⟩ : Ent) ∈ H) (hv : cs[k]? = some v) : Runs X o E H v := by
  subst hob
  exact R_load ho ht hx hm hv
theorem R_loadAO {t : TypeId} {x : Operand} {k n : Nat} {cs : List Value} {e : TypeId} {vs : List Value} (hob : ob = some b) (ho : o.op = .load t x) (ht : Ag X.P t n) (hx : ev E x = some (.pointer (some ⟨b, k, none⟩)))
    (hm : (⟨ob, cl cs e⟩ : Ent) ∈ H) (hn : vs.length = n) (hv : At cs k vs) : Runs X o E H (.agg vs.toArray) := by
  subst hob
  exact R_loadA ho ht hx hm hn hv
end
end Go.Proofs.YtbkdebnkoidicaaGreat
end
