/-
  An append of a slice that may be nil.
-/
import Derived.Test.YtbkdebnkoidicaaGreatY01
import Derived.Test.YtbkdebnkoidicaaGreatRows
import Derived.Laws.StructEq
section
set_option linter.unusedVariables false
set_option maxRecDepth 20000
namespace Go.Proofs.YtbkdebnkoidicaaGreat
structure Nd where
 v : Int
 before : Nat
 next : Nat
abbrev ekQ (n : Nat) : Value := .int .u64 (n : Int)
abbrev evQ (x : Nd) : Value := .agg #[.int .i64 x.v, .int .u64 (x.before : Int), .int .u64 (x.next : Int)]
theorem ekQ_key (k : Nat) : MapKept.IsKey (.int .u64) (ekQ k) := rfl
theorem ekQ_inj (a b : Nat) (h : ekQ a = ekQ b) : a = b := by
 simp only [ekQ, Value.int.injEq] at h; omega
def hd (q : Nat) : List (Nat × Int) → Nat
 | [] => q
 | (t, _) :: _ => t
def lst (p : Nat) : List (Nat × Int) → Nat
 | [] => p
 | (t, _) :: r => lst t r
def nds (p q : Nat) : List (Nat × Int) → List (Nat × Nd)
 | [] => []
 | (t, v) :: r => (t, ⟨v, p, hd q r⟩) :: nds t q r
theorem hd_append (q : Nat) : ∀ (A B : List (Nat × Int)), hd q (A ++ B) = hd (hd q B) A
 | [], _ => rfl
 | (_, _) :: _, _ => rfl
theorem lst_append (p : Nat) : ∀ (A B : List (Nat × Int)), lst p (A ++ B) = lst (lst p A) B
 | [], _ => rfl
 | (t, _) :: r, B => lst_append t r B
theorem nds_append (q : Nat) : ∀ (A B : List (Nat × Int)) (p : Nat), nds p q (A ++ B) = nds p (hd q B) A ++ nds (lst p A) q B
 | [], _, _ => rfl
 | (t, v) :: r, B, p => by
  simp only [List.cons_append, nds, lst, nds_append q r B t, hd_append]
theorem nds_keys (q : Nat) : ∀ (l : List (Nat × Int)) (p : Nat), (nds p q l).map (·.1) = l.map (·.1)
 | [], _ => rfl
 | (t, v) :: r, p => by simp only [nds, List.map_cons, nds_keys q r t]
theorem nds_len (p q : Nat) (l : List (Nat × Int)) : (nds p q l).length = l.length := by
 have := congrArg List.length (nds_keys q l p)
 simpa using this
theorem lst_mem : ∀ (l : List (Nat × Int)) (p : Nat), l ≠ [] → lst p l ∈ l.map (·.1)
 | [], _, h => absurd rfl h
 | [(t, v)], p, _ => by simp [lst]
 | (t, v) :: x :: r, p, _ => by
  have := lst_mem (x :: r) t (by simp)
  exact List.mem_cons_of_mem _ this
theorem lst_in (q : Nat) : ∀ (l : List (Nat × Int)) (p : Nat), l ≠ [] → ∃ w bq, (lst p l, (⟨w, bq, q⟩ : Nd)) ∈ nds p q l
 | [], _, h => absurd rfl h
 | [(t, v)], p, _ => ⟨v, p, List.mem_cons_self ..⟩
 | (t, v) :: x :: r, p, _ => by
  obtain ⟨w, bq, h⟩ := lst_in q (x :: r) t (by simp)
  exact ⟨w, bq, List.mem_cons_of_mem _ h⟩
theorem hd_in (q : Nat) (p : Nat) : ∀ (l : List (Nat × Int)), l ≠ [] → ∃ w nq, (hd q l, (⟨w, p, nq⟩ : Nd)) ∈ nds p q l
 | [], h => absurd rfl h
 | (t, v) :: r, _ => ⟨v, hd q r, List.mem_cons_self ..⟩
theorem setL_append {A B : List (Nat × Nd)} (k : Nat) (a : Nd) : setL (A ++ B) k a = setL A k a ++ setL B k a := List.map_append
theorem setL_out {A : List (Nat × Nd)} {k : Nat} {a : Nd} (h : k ∉ A.map (·.1)) : setL A k a = A := setL_same fun x hx e => h (List.mem_map.2 ⟨x, hx, e⟩)
theorem setL_last (q q' : Nat) : ∀ (l : List (Nat × Int)) (p : Nat) (w : Int) (bq : Nat), l ≠ [] → (l.map (·.1)).Nodup → (lst p l, (⟨w, bq, q⟩ : Nd)) ∈ nds p q l → setL (nds p q l) (lst p l) ⟨w, bq, q'⟩ = nds p q' l
 | [], _, _, _, h, _, _ => absurd rfl h
 | [(t, v)], p, w, bq, _, _, hm => by
  simp only [nds, lst, hd, List.mem_singleton, Prod.mk.injEq, Nd.mk.injEq, true_and, and_true] at hm
  obtain ⟨rfl, rfl⟩ := hm
  simp [nds, lst, hd, setL]
 | (t, v) :: x :: r, p, w, bq, _, hn, hm => by
  rw [List.map_cons, List.nodup_cons] at hn
  have hne : t ≠ lst t (x :: r) := fun e => hn.1 (by
   have := lst_mem (x :: r) t (by simp)
   rw [← e] at this; exact this)
  have hm2 : (lst t (x :: r), (⟨w, bq, q⟩ : Nd)) ∈ nds t q (x :: r) := by
   rcases List.mem_cons.1 hm with e | h
   ·exact absurd (congrArg Prod.fst e).symm hne
   ·exact h
  have ih := setL_last q q' (x :: r) t w bq (by simp) hn.2 hm2
  show setL ((t, ⟨v, p, hd q (x :: r)⟩) :: nds t q (x :: r)) (lst t (x :: r)) ⟨w, bq, q'⟩ = (t, ⟨v, p, hd q' (x :: r)⟩) :: nds t q' (x :: r)
  have e1 : ∀ Y, setL ((t, (⟨v, p, hd q (x :: r)⟩ : Nd)) :: Y) (lst t (x :: r)) ⟨w, bq, q'⟩ = (t, ⟨v, p, hd q (x :: r)⟩) :: setL Y (lst t (x :: r)) ⟨w, bq, q'⟩ := fun Y => by
   show (if t = lst t (x :: r) then _ else _) :: _ = _
   rw [if_neg hne]; rfl
  rw [e1, ih]
  rfl
theorem setL_head (p p' q : Nat) (l : List (Nat × Int)) (w : Int) (nq : Nat) (hl : l ≠ []) (hn : (l.map (·.1)).Nodup) (hm : (hd q l, (⟨w, p, nq⟩ : Nd)) ∈ nds p q l) : setL (nds p q l) (hd q l) ⟨w, p', nq⟩ = nds p' q l := by
 cases l with
 | nil => exact absurd rfl hl
 | cons x r =>
  obtain ⟨t, v⟩ := x
  rw [List.map_cons, List.nodup_cons] at hn
  have hnr : t ∉ (nds t q r).map (·.1) := by rw [nds_keys]; exact hn.1
  have e : v = w ∧ hd q r = nq := by
   rcases List.mem_cons.1 hm with e | h
   ·have := congrArg Prod.snd e
    simp only [Nd.mk.injEq] at this
    exact ⟨this.1.symm, this.2.2.symm⟩
   ·exact absurd (List.mem_map.2 ⟨_, h, rfl⟩) hnr
  obtain ⟨rfl, rfl⟩ := e
  show (if t = t then _ else _) :: setL (nds t q r) t _ = _
  rw [if_pos rfl, setL_out hnr]
  rfl
theorem delL_mid (A B : List (Nat × Int)) (t : Nat) (v : Int) (hn : ((A ++ (t, v) :: B).map (·.1)).Nodup) : delL (nds 0 0 (A ++ (t, v) :: B)) t = nds 0 t A ++ nds t 0 B := by
 have hA : ∀ x ∈ nds 0 t A, x.1 ≠ t := fun x hx e => by
  have h1 : x.1 ∈ A.map (·.1) := by rw [← nds_keys t A 0]; exact List.mem_map.2 ⟨x, hx, rfl⟩
  rw [e] at h1
  rw [List.map_append, List.map_cons, List.nodup_append] at hn
  exact hn.2.2 t h1 t (List.mem_cons_self ..) rfl
 have hB : ∀ x ∈ nds t 0 B, x.1 ≠ t := fun x hx e => by
  have h1 : x.1 ∈ B.map (·.1) := by rw [← nds_keys 0 B t]; exact List.mem_map.2 ⟨x, hx, rfl⟩
  rw [e] at h1
  rw [List.map_append, List.map_cons, List.nodup_append] at hn
  exact (List.nodup_cons.1 hn.2.1).1 h1
 rw [nds_append]
 unfold delL
 rw [List.filter_append]
 show List.filter _ (nds 0 t A) ++ List.filter _ ((t, _) :: nds t 0 B) = _
 rw [List.filter_cons_of_neg (by simp), List.filter_eq_self.2 (fun x hx => by simpa using hA x hx), List.filter_eq_self.2 (fun x hx => by simpa using hB x hx)]
theorem hd_ne {q q' : Nat} {l : List (Nat × Int)} (h : l ≠ []) : hd q l = hd q' l := by
 cases l with
 | nil => exact absurd rfl h
 | cons x r => rfl
theorem lst_ne {q q' : Nat} {l : List (Nat × Int)} (h : l ≠ []) : lst q l = lst q' l := by
 cases l with
 | nil => exact absurd rfl h
 | cons x r => rfl
structure Qk (l : List (Nat × Int)) (g : Nat) : Prop where
 pos : ∀ x ∈ l, 1 ≤ x.1 ∧ x.1 ≤ g
 ord : l.Pairwise fun a b => a.1 < b.1
theorem Qk.empty (g : Nat) : Qk [] g := ⟨fun x h => (by cases h), .nil⟩
theorem Qk.nodup {l : List (Nat × Int)} {g : Nat} (h : Qk l g) : (l.map (·.1)).Nodup := by
 rw [List.Nodup, List.pairwise_map]
 exact h.ord.imp fun h => Nat.ne_of_lt h
theorem Qk.push {l : List (Nat × Int)} {g : Nat} (h : Qk l g) (v : Int) : Qk (l ++ [(g + 1, v)]) (g + 1) := by
 refine ⟨fun x hx => ?_, List.pairwise_append.2 ⟨h.ord, by simp, fun a ha b hb => ?_⟩⟩
 ·rcases List.mem_append.1 hx with hx | hx
  ·have := h.pos x hx; omega
  ·rw [List.mem_singleton] at hx; subst hx; dsimp only; omega
 ·rw [List.mem_singleton] at hb; subst hb
  have := h.pos a ha; dsimp only; omega
theorem Qk.rem {A B : List (Nat × Int)} {x : Nat × Int} {g : Nat} (h : Qk (A ++ x :: B) g) : Qk (A ++ B) g := by
 refine ⟨fun y hy => h.pos y ?_, h.ord.sublist (List.Sublist.append_left (List.sublist_cons_self x B) A)⟩
 rcases List.mem_append.1 hy with hy | hy
 ·exact List.mem_append_left _ hy
 ·exact List.mem_append_right _ (List.mem_cons_of_mem _ hy)
theorem Qk.hd0 {l : List (Nat × Int)} {g : Nat} (h : Qk l g) : hd 0 l = 0 ↔ l = [] := by
 cases l with
 | nil => simp [hd]
 | cons x r =>
  have := (h.pos x (List.mem_cons_self ..)).1
  obtain ⟨t, v⟩ := x
  simp only [hd]
  constructor
  ·intro e; dsimp only at this; omega
  ·intro e; cases e
theorem Qk.lst0 {l : List (Nat × Int)} {g : Nat} (h : Qk l g) : lst 0 l = 0 ↔ l = [] := by
 by_cases e : l = []
 ·subst e; simp [lst]
 ·have hm := lst_mem l 0 e
  obtain ⟨x, hx, hx2⟩ := List.mem_map.1 hm
  have := (h.pos x hx).1
  constructor
  ·intro e2; omega
  ·intro e2; exact absurd e2 e
theorem Qk.left {A B : List (Nat × Int)} {g : Nat} (h : Qk (A ++ B) g) : Qk A g := ⟨fun x hx => h.pos x (List.mem_append_left _ hx), (List.pairwise_append.1 h.ord).1⟩
theorem Qk.right {A B : List (Nat × Int)} {g : Nat} (h : Qk (A ++ B) g) : Qk B g := ⟨fun x hx => h.pos x (List.mem_append_right _ hx), (List.pairwise_append.1 h.ord).2.1⟩
theorem Qk.tail {x : Nat × Int} {B : List (Nat × Int)} {g : Nat} (h : Qk (x :: B) g) : Qk B g := ⟨fun y hy => h.pos y (List.mem_cons_of_mem _ hy), (List.pairwise_cons.1 h.ord).2⟩
theorem Qk.new {l : List (Nat × Int)} {g : Nat} (h : Qk l g) : g + 1 ∉ (nds 0 0 l).map (·.1) := by
 rw [nds_keys]
 intro hm
 obtain ⟨x, hx, e⟩ := List.mem_map.1 hm
 have := (h.pos x hx).2
 omega
theorem push_list {l : List (Nat × Int)} {g : Nat} (h : Qk l g) (v : Int) {w : Int} {bq : Nat} (hl : l ≠ []) (hin : (lst 0 l, (⟨w, bq, 0⟩ : Nd)) ∈ nds 0 0 l) :
  (setL ((g + 1, ⟨v, lst 0 l, 0⟩) :: nds 0 0 l) (lst 0 l) ⟨w, bq, g + 1⟩).Perm (nds 0 0 (l ++ [(g + 1, v)])) := by
 have hne : g + 1 ≠ lst 0 l := fun e => h.new (by rw [nds_keys, e]; exact lst_mem l 0 hl)
 have e1 : setL ((g + 1, (⟨v, lst 0 l, 0⟩ : Nd)) :: nds 0 0 l) (lst 0 l) ⟨w, bq, g + 1⟩ = (g + 1, ⟨v, lst 0 l, 0⟩) :: setL (nds 0 0 l) (lst 0 l) ⟨w, bq, g + 1⟩ := by
  show (if g + 1 = lst 0 l then _ else _) :: _ = _
  rw [if_neg hne]; rfl
 rw [e1, setL_last 0 (g + 1) l 0 w bq hl h.nodup hin, nds_append]
 exact (List.perm_append_comm (l₁ := [(g + 1, (⟨v, lst 0 l, 0⟩ : Nd))]))
end Go.Proofs.YtbkdebnkoidicaaGreat
end
section
set_option linter.unusedVariables false
set_option maxRecDepth 20000
set_option maxHeartbeats 1000000
namespace Go.Proofs.YtbkdebnkoidicaaGreat
abbrev ptrQ (p : Nat) : Value := .pointer (some ⟨p, 0, none⟩)
abbrev qR (p mb f la n : Nat) (es : Array MapEntry) (mc : Nat) : Heap := [⟨some p, cl [.int .u64 (f : Int), .int .u64 (la : Int), .int .u64 (n : Int), .map (some mb)] 252⟩, ⟨some mb, .map es mc⟩]
abbrev qH (p mb : Nat) (l : List (Nat × Int)) (n : Nat) (es : Array MapEntry) (mc : Nat) : Heap := qR p mb (hd 0 l) (lst 0 l) n es mc
theorem qnew_ok : Spec Tryz.prog 94 [] [] (fun r H' => ∃ p mb, r = ptrQ p ∧ H' = qH p mb [] 0 #[] 0) := by
 refine Spec.of (E := []) Tryz.func94 rfl (by kernel_rfl) Tryz.ntmps94 rfl rfl (fun w => ?_)
 refine WC_seq (WC_region (WLa rfl (WL_nil (WQ_code (WC_seq (WC_region ?_))))))
 refine WL_do rfl rfl rfl (D_makeMap rfl) ?_
 rintro _ _ ⟨mb, rfl, rfl⟩
 refine WL_val rfl rfl rfl (R_build rfl zv252 pl252 rfl rfl) ?_
 refine WL_do rfl rfl rfl (D_box (cs := [_, _, _, _]) rfl rfl rfl) ?_
 rintro _ _ ⟨b1, rfl, rfl⟩
 refine WLa rfl (WL_nil (WQ_code (WC_ret ?_)))
 refine WQ_ret rfl rfl (.cons (.tmp rfl) .nil) rfl (by
   exact ⟨_, mb, rfl, rfl⟩) (pqZ)
theorem mp_new : Mp (.int .u64) ekQ evQ #[] (nds 0 0 []) := Mp.empty ekQ_key ekQ_inj
theorem qzero_ok (p mb f la n : Nat) (es : Array MapEntry) (mc : Nat) : Spec Tryz.prog 148 [ptrQ p] (qR p mb f la n es mc) (fun r H' => r = .bool false ∧ H' = qR p mb f la n es mc) := by
 refine Spec.of (E := [(0, ptrQ p)]) Tryz.func148 rfl (by kernel_rfl) Tryz.ntmps148 rfl rfl (fun w => ?_)
 refine WC_seq (WC_region (WLa rfl (WL_nil (WQ_code (WC_seq (WC_region (WLa rfl ?_)))))))
 refine WL_val rfl rfl rfl (R_ptrEqNil rfl Tryz.underlying177 rfl) ?_
 refine WLa rfl (WLa rfl (WLa rfl ?_))
 refine WL_val rfl rfl rfl (R_fieldAddr rfl fa252_1 rfl) ?_
 refine WL_val rfl rfl rfl (R_load rfl sc248 rfl (mmZ) rfl) ?_
 refine WL_val rfl rfl rfl (R_mapEqNil rfl Tryz.underlying248 rfl) ?_
 refine WL_set (s := 10) (v := .bool false) rfl (by rfl) ?_
 refine WLa rfl (WLa rfl (WL_nil (WQ_code (WC_ret ?_))))
 refine WQ_ret rfl rfl (.cons (.tmp rfl) .nil) rfl (by
   exact ⟨rfl, rfl⟩) (pqZ)
theorem qzero_nil : Spec Tryz.prog 148 [.pointer none] [] (fun r H' => r = .bool true ∧ H' = []) := by
 refine Spec.of (E := [(0, .pointer none)]) Tryz.func148 rfl (by kernel_rfl) Tryz.ntmps148 rfl rfl (fun w => ?_)
 refine WC_seq (WC_region (WLa rfl (WL_nil (WQ_code (WC_seq (WC_region (WLa rfl ?_)))))))
 refine WL_val rfl rfl rfl (R_ptrEqNil rfl Tryz.underlying177 rfl) ?_
 refine WLa rfl ?_
 refine WL_skip rfl rfl rfl ?_
 refine WL_skip rfl rfl rfl ?_
 refine WL_skip rfl rfl rfl ?_
 refine WL_skip rfl rfl rfl ?_
 refine WL_skip rfl rfl rfl ?_
 refine WLa rfl (WLa rfl (WL_nil (WQ_code (WC_ret ?_))))
 refine WQ_ret rfl rfl (.cons (.tmp rfl) .nil) rfl (by
   exact ⟨rfl, rfl⟩) (pqZ)
theorem qpush_raw (p mb : Nat) (l : List (Nat × Int)) (n : Nat) (es : Array MapEntry) (mc : Nat) (hq : Qk l n) (hM : Mp (.int .u64) ekQ evQ es (nds 0 0 l)) (hl : l.length < 4096) (hn : n < 1000000000000) (v : Int) : Spec Tryz.prog 95 [ptrQ p, .int .i64 v] (qH p mb l n es mc)
  (fun r H' => ∃ es' mc' f la, r = .tuple #[.int .u64 ((n + 1 : Nat) : Int), .int .i64 0] ∧ H' = qR p mb f la (n + 1) es' mc' ∧ f = hd 0 (l ++ [(n + 1, v)]) ∧ la = lst 0 (l ++ [(n + 1, v)]) ∧ Mp (.int .u64) ekQ evQ es' (nds 0 0 (l ++ [(n + 1, v)]))) := by
 refine Spec.of (E := [(0, ptrQ p), (1, .int .i64 v)]) Tryz.func95 rfl (by kernel_rfl) Tryz.ntmps95 rfl rfl (fun w => ?_)
 refine WC_seq (WC_region (WLa rfl (WLa rfl (WL_nil (WQ_code (WC_seq (WC_block (WC_seq (WC_region (WLa rfl ?_))))))))))
 refine WL_do rfl rfl rfl (D_call (qzero_ok p mb _ _ _ es mc) rfl rfl rfl rfl (pqZ)) ?_
 rintro _ _ ⟨_, ⟨rfl, rfl⟩, rfl⟩
 refine WLa rfl (WL_nil (WQ_code ?_))
 refine WC_F rfl ?_
 refine WC_seq (WC_region (WLa rfl (WLa rfl ?_)))
 refine WL_val rfl rfl rfl (R_fieldAddr rfl fa252_1 rfl) ?_
 refine WL_val rfl rfl rfl (R_load rfl sc248 rfl (mmZ) rfl) ?_
 refine WL_val rfl rfl rfl (R_lenMap rfl Tryz.underlying248 rfl (mmZ) hM) ?_
 refine WL_val rfl rfl rfl (R_geq rfl rfl rfl) ?_
 refine WLa rfl (WL_nil (WQ_code ?_))
 refine WC_dF rfl (by rw [nds_len]; omega) ?_
 refine WC_skip (WQ_code (WC_seq (WC_region (WLa rfl (WLa rfl ?_)))))
 refine WL_val rfl rfl rfl (R_fieldAddr rfl fa252_0 rfl) ?_
 refine WL_val rfl rfl rfl (R_fieldAddr rfl fa250_2 rfl) ?_
 refine WL_val rfl rfl rfl (R_load rfl sc27 rfl (mmZ) rfl) ?_
 refine WL_val rfl rfl rfl (R_addR (r := ((n + 1 : Nat) : Int)) rfl rfl rfl (by rw [w64 ⟨by omega, by omega⟩]; omega)) ?_
 refine WLa rfl ?_
 refine WL_val rfl rfl rfl (R_fieldAddr rfl fa252_0 rfl) ?_
 refine WL_val rfl rfl rfl (R_fieldAddr rfl fa250_2 rfl) ?_
 refine WL_do0 rfl rfl (D_store (vs := [_]) rfl Tryz.sizeOf27 rfl rfl rfl rfl rfl (plZ) (Nat.le_of_ble_eq_true rfl)) ?_
 rintro _ _ rfl
 refine WL_nil (WQ_code (WC_seq ?_))
 refine WC_drawR [⟨some mb, _⟩] [(0, true), (1, true), (2, true), (3, true), (4, true), (5, true), (6, true), (7, true), (8, true), (9, true), (10, true), (11, true), (12, true), (13, true), (14, true), (15, true), (16, false)] followsMixed rfl rfl (by kernel_rfl) (pqZ) ?_
 refine WMa rfl (WMa rfl ?_)
 refine WM_val rfl rfl rfl rfl (R_fieldAddr rfl fa252_1 rfl) ?_
 refine WM_val rfl rfl rfl rfl (R_load rfl sc248 rfl (mmZ) rfl) ?_
 refine WMa rfl (WMa rfl ?_)
 refine WM_val rfl rfl rfl rfl (R_fieldAddr rfl fa252_0 rfl) ?_
 refine WM_val rfl rfl rfl rfl (R_fieldAddr rfl fa250_2 rfl) ?_
 refine WM_val rfl rfl rfl rfl (R_load rfl sc27 rfl (mmZ) rfl) ?_
 refine WMa rfl (WMa rfl (WMa rfl ?_))
 refine WM_val rfl rfl rfl rfl (R_fieldAddr rfl fa252_0 rfl) ?_
 refine WM_val rfl rfl rfl rfl (R_fieldAddr rfl fa250_1 rfl) ?_
 refine WM_val rfl rfl rfl rfl (R_load rfl sc27 rfl (mmZ) rfl) ?_
 refine WM_val rfl rfl rfl rfl (R_build rfl zv254 pl254 rfl rfl) ?_
 refine WM_do0 rfl rfl rfl (D_mapAdd (ek := ekQ) (ev := evQ) (k := n + 1) (v := (⟨v, lst 0 l, 0⟩ : Nd)) rfl Tryz.underlying248 Tryz.underlying27 rfl rfl rfl (plZ) hM (hq.new)) ?_
 rintro _ _ ⟨es1, mc1, hM1, rfl⟩
 refine ⟨⟨_, pqZ⟩, ?_⟩
 refine WM_nil (WQ_code (WC_seq (WC_seq (WC_region (WLa rfl (WLa rfl ?_))))))
 refine WL_val rfl rfl rfl (R_fieldAddr rfl fa252_0 rfl) ?_
 refine WL_val rfl rfl rfl (R_fieldAddr rfl fa250_1 rfl) ?_
 refine WL_val rfl rfl rfl (R_load rfl sc27 rfl (mmZ) rfl) ?_
 refine WL_val rfl rfl rfl (R_eql rfl rfl rfl) ?_
 refine WL_nil (WQ_code ?_)
 refine WC_dec rfl (fun c1 => ?_) (fun c1 => ?_)
 ·obtain rfl : l = [] := hq.lst0.1 (by omega)
  refine WC_region (WLa rfl (WLa rfl (WLa rfl ?_)))
  refine WL_val rfl rfl rfl (R_fieldAddr rfl fa252_0 rfl) ?_
  refine WL_val rfl rfl rfl (R_fieldAddr rfl fa250_2 rfl) ?_
  refine WL_val rfl rfl rfl (R_load rfl sc27 rfl (mmZ) rfl) ?_
  refine WLa rfl ?_
  refine WL_val rfl rfl rfl (R_fieldAddr rfl fa252_0 rfl) ?_
  refine WL_val rfl rfl rfl (R_fieldAddr rfl fa250_0 rfl) ?_
  refine WL_do0 rfl rfl (D_store (vs := [_]) rfl Tryz.sizeOf27 rfl rfl rfl rfl rfl (plZ) (Nat.le_of_ble_eq_true rfl)) ?_
  rintro _ _ rfl
  refine WL_nil (WQ_code (WC_seq (WC_region (WLa rfl (WLa rfl (WLa rfl ?_))))))
  refine WL_val rfl rfl rfl (R_fieldAddr rfl fa252_0 rfl) ?_
  refine WL_val rfl rfl rfl (R_fieldAddr rfl fa250_2 rfl) ?_
  refine WL_val rfl rfl rfl (R_load rfl sc27 rfl (mmZ) rfl) ?_
  refine WLa rfl ?_
  refine WL_val rfl rfl rfl (R_fieldAddr rfl fa252_0 rfl) ?_
  refine WL_val rfl rfl rfl (R_fieldAddr rfl fa250_1 rfl) ?_
  refine WL_do0 rfl rfl (D_store (vs := [_]) rfl Tryz.sizeOf27 rfl rfl rfl rfl rfl (plZ) (Nat.le_of_ble_eq_true rfl)) ?_
  rintro _ _ rfl
  refine WL_nil (WQ_code (WC_seq (WC_region (WLa rfl (WLa rfl ?_)))))
  refine WL_val rfl rfl rfl (R_fieldAddr rfl fa252_0 rfl) ?_
  refine WL_val rfl rfl rfl (R_fieldAddr rfl fa250_2 rfl) ?_
  refine WL_val rfl rfl rfl (R_load rfl sc27 rfl (mmZ) rfl) ?_
  refine WLa rfl (WLa rfl (WL_nil (WQ_code (WC_ret ?_))))
  refine WQ_ret rfl rfl (.cons (.tmp rfl) (.cons (.tmp rfl) .nil)) rfl (by
    exact ⟨_, mc1, n + 1, n + 1, rfl, rfl, rfl, rfl, hM1⟩) (pqZ)
 ·have hl0 : l ≠ [] := fun e => c1 (by rw [e]; rfl)
  obtain ⟨w9, bq, hin⟩ := lst_in 0 l 0 hl0
  refine WC_seq ?_
  refine WC_draw _ [(0, true), (1, true), (2, true), (3, true), (4, true), (5, true), (6, true), (7, true), (8, true), (9, true), (10, false), (11, false)] followsMixed rfl rfl (by kernel_rfl) .all ?_
  refine WMa rfl (WMa rfl ?_)
  refine WM_val rfl rfl rfl rfl (R_fieldAddr rfl fa252_1 rfl) ?_
  refine WM_val rfl rfl rfl rfl (R_load rfl sc248 rfl (mmZ) rfl) ?_
  refine WMa rfl (WMa rfl ?_)
  refine WM_val rfl rfl rfl rfl (R_fieldAddr rfl fa252_0 rfl) ?_
  refine WM_val rfl rfl rfl rfl (R_fieldAddr rfl fa250_1 rfl) ?_
  refine WM_val rfl rfl rfl rfl (R_load rfl sc27 rfl (mmZ) rfl) ?_
  refine WM_val rfl rfl rfl rfl (R_look (ek := ekQ) (ev := evQ) (k := lst 0 l) (a := ⟨w9, bq, 0⟩) rfl Tryz.underlying248 Tryz.underlying27 rfl rfl (mmZ) hM1 (List.mem_cons_of_mem _ hin)) ?_
  refine WM_do rfl rfl rfl rfl (D_alloc rfl zv254) ?_
  rintro _ _ ⟨b1, rfl, rfl⟩
  refine ⟨⟨_, pqZ⟩, ?_⟩
  refine WM_do0 rfl rfl rfl (D_store (vs := [_, _, _]) rfl Tryz.sizeOf254 rfl rfl rfl rfl rfl (plZ) (Nat.le_of_ble_eq_true rfl)) ?_
  rintro _ _ rfl
  refine ⟨⟨_, pqZ⟩, ?_⟩
  refine WM_nil (WQ_code (WC_seq (WC_region (WLa rfl (WLa rfl ?_)))))
  refine WL_val rfl rfl rfl (R_fieldAddr rfl fa252_0 rfl) ?_
  refine WL_val rfl rfl rfl (R_fieldAddr rfl fa250_2 rfl) ?_
  refine WL_val rfl rfl rfl (R_load rfl sc27 rfl (mmZ) rfl) ?_
  refine WL_val rfl rfl rfl (R_fieldAddr rfl fa254_2 rfl) ?_
  refine WL_do0 rfl rfl (D_store (vs := [_]) rfl Tryz.sizeOf27 rfl rfl rfl rfl rfl (plZ) (Nat.le_of_ble_eq_true rfl)) ?_
  rintro _ _ rfl
  refine WL_nil (WQ_code ?_)
  refine WC_drawR [⟨some mb, _⟩] [(0, true), (1, true), (2, true), (3, true), (4, true), (5, true), (6, true), (7, true), (8, true), (9, true), (10, false)] followsMixed rfl rfl (by kernel_rfl) (pqZ) ?_
  refine WMa rfl (WMa rfl ?_)
  refine WM_val rfl rfl rfl rfl (R_fieldAddr rfl fa252_1 rfl) ?_
  refine WM_val rfl rfl rfl rfl (R_load rfl sc248 rfl (mmZ) rfl) ?_
  refine WMa rfl (WMa rfl ?_)
  refine WM_val rfl rfl rfl rfl (R_fieldAddr rfl fa252_0 rfl) ?_
  refine WM_val rfl rfl rfl rfl (R_fieldAddr rfl fa250_1 rfl) ?_
  refine WM_val rfl rfl rfl rfl (R_load rfl sc27 rfl (mmZ) rfl) ?_
  refine WM_val rfl rfl rfl rfl (R_loadA (vs := [_, _, _]) rfl ag254 rfl (mmZ) rfl (atZ)) ?_
  refine WM_do0 rfl rfl rfl (D_mapSet (ek := ekQ) (ev := evQ) (k := lst 0 l) (a := ⟨w9, bq, 0⟩) (v := (⟨w9, bq, n + 1⟩ : Nd)) rfl Tryz.underlying248 Tryz.underlying27 rfl rfl rfl (plZ) hM1 (List.mem_cons_of_mem _ hin)) ?_
  rintro _ _ ⟨es2, mc2, hM2, rfl⟩
  refine ⟨⟨_, pqZ⟩, ?_⟩
  refine WM_nil (WQ_code (WC_seq (WC_region (WLa rfl (WLa rfl (WLa rfl ?_))))))
  refine WL_val rfl rfl rfl (R_fieldAddr rfl fa252_0 rfl) ?_
  refine WL_val rfl rfl rfl (R_fieldAddr rfl fa250_2 rfl) ?_
  refine WL_val rfl rfl rfl (R_load rfl sc27 rfl (mmZ) rfl) ?_
  refine WLa rfl ?_
  refine WL_val rfl rfl rfl (R_fieldAddr rfl fa252_0 rfl) ?_
  refine WL_val rfl rfl rfl (R_fieldAddr rfl fa250_1 rfl) ?_
  refine WL_do0 rfl rfl (D_store (vs := [_]) rfl Tryz.sizeOf27 rfl rfl rfl rfl rfl (plZ) (Nat.le_of_ble_eq_true rfl)) ?_
  rintro _ _ rfl
  refine WL_nil (WQ_code (WC_seq (WC_region (WLa rfl (WLa rfl ?_)))))
  refine WL_val rfl rfl rfl (R_fieldAddr rfl fa252_0 rfl) ?_
  refine WL_val rfl rfl rfl (R_fieldAddr rfl fa250_2 rfl) ?_
  refine WL_val rfl rfl rfl (R_load rfl sc27 rfl (mmZ) rfl) ?_
  refine WLa rfl (WLa rfl (WL_nil (WQ_code (WC_ret ?_))))
  refine WQ_ret rfl rfl (.cons (.tmp rfl) (.cons (.tmp rfl) .nil)) rfl (by
    exact ⟨_, mc2, hd 0 l, n + 1, rfl, rfl, by rw [hd_append]; exact hd_ne hl0, by rw [lst_append]; rfl, hM2.to (push_list hq v hl0 hin)⟩) (pqZ)
theorem qpush_ok (p mb : Nat) (l : List (Nat × Int)) (n : Nat) (es : Array MapEntry) (mc : Nat) (hq : Qk l n) (hM : Mp (.int .u64) ekQ evQ es (nds 0 0 l)) (hl : l.length < 4096) (hn : n < 1000000000000) (v : Int) : Spec Tryz.prog 95 [ptrQ p, .int .i64 v] (qH p mb l n es mc)
  (fun r H' => ∃ es' mc', r = .tuple #[.int .u64 ((n + 1 : Nat) : Int), .int .i64 0] ∧ H' = qH p mb (l ++ [(n + 1, v)]) (n + 1) es' mc' ∧ Mp (.int .u64) ekQ evQ es' (nds 0 0 (l ++ [(n + 1, v)]))) :=
 (qpush_raw p mb l n es mc hq hM hl hn v).mono fun r H' ⟨es', mc', f, la, h1, h2, h3, h4, h5⟩ => by subst h3; subst h4; exact ⟨es', mc', h1, h2, h5⟩
theorem out_right {A B : List (Nat × Int)} {x : Nat × Int} {g : Nat} (h : Qk (A ++ x :: B) g) (hA : A ≠ []) : lst 0 A ∉ B.map (·.1) := fun hm => by
 have h1 := h.rem.nodup
 rw [List.map_append, List.nodup_append] at h1
 exact h1.2.2 _ (lst_mem A 0 hA) _ hm rfl
theorem out_left {A B : List (Nat × Int)} {x : Nat × Int} {g : Nat} (h : Qk (A ++ x :: B) g) (hB : B ≠ []) : hd 0 B ∉ A.map (·.1) := fun hm => by
 have h1 := h.rem.nodup
 rw [List.map_append, List.nodup_append] at h1
 obtain ⟨w2, nq, h2⟩ := hd_in 0 0 B hB
 exact h1.2.2 _ hm _ (by rw [← nds_keys 0 B 0]; exact List.mem_map.2 ⟨_, h2, rfl⟩) rfl
theorem qrem_raw (p mb : Nat) (A B : List (Nat × Int)) (t : Nat) (v : Int) (n : Nat) (es : Array MapEntry) (mc : Nat) (hq : Qk (A ++ (t, v) :: B) n) (hM : Mp (.int .u64) ekQ evQ es (nds 0 0 (A ++ (t, v) :: B))) : Spec Tryz.prog 160 [ptrQ p, .int .u64 (t : Int)] (qR p mb (hd t A) (lst t B) n es mc)
  (fun r H' => ∃ es' mc' f la, r = .tuple #[.int .i64 v, .int .i64 0] ∧ H' = qR p mb f la n es' mc' ∧ f = hd 0 (A ++ B) ∧ la = lst 0 (A ++ B) ∧ Mp (.int .u64) ekQ evQ es' (nds 0 (hd 0 B) A ++ nds (lst 0 A) 0 B)) := by
 have hin : (t, (⟨v, lst 0 A, hd 0 B⟩ : Nd)) ∈ nds 0 0 (A ++ (t, v) :: B) := by rw [nds_append]; exact List.mem_append_right _ (List.mem_cons_self ..)
 have hdel := delL_mid A B t v hq.nodup
 have hqA := hq.left
 have hqB := hq.right.tail
 have hnd := hq.rem.nodup
 refine Spec.of (E := [(0, ptrQ p), (1, .int .u64 (t : Int))]) Tryz.func160 rfl (by kernel_rfl) Tryz.ntmps160 rfl rfl (fun w => ?_)
 refine WC_seq (WC_region (WLa rfl (WLa rfl (WL_nil (WQ_code (WC_seq (WC_seq (WC_region (WLa rfl ?_)))))))))
 refine WL_do rfl rfl rfl (D_call (qzero_ok p mb _ _ _ es mc) rfl rfl rfl rfl (pqZ)) ?_
 rintro _ _ ⟨_, ⟨rfl, rfl⟩, rfl⟩
 refine WL_nil (WQ_code ?_)
 refine WC_F rfl ?_
 refine WC_skip (WQ_code (WC_seq (WC_region (WLa rfl (WLa rfl ?_)))))
 refine WL_val rfl rfl rfl (R_fieldAddr rfl fa252_1 rfl) ?_
 refine WL_val rfl rfl rfl (R_load rfl sc248 rfl (mmZ) rfl) ?_
 refine WLa rfl ?_
 refine WL_val rfl rfl rfl (R_lookT (ek := ekQ) (ev := evQ) (k := t) (a := ⟨v, lst 0 A, hd 0 B⟩) rfl Tryz.underlying248 Tryz.underlying27 rfl rfl (mmZ) hM (hin)) ?_
 refine WLa rfl (WLa rfl (WLa rfl ?_))
 refine WL_do rfl rfl rfl (D_alloc rfl zv254) ?_
 rintro _ _ ⟨b1, rfl, rfl⟩
 refine WL_do0 rfl rfl (D_store (vs := [_, _, _]) rfl Tryz.sizeOf254 rfl rfl rfl rfl rfl (plZ) (Nat.le_of_ble_eq_true rfl)) ?_
 rintro _ _ rfl
 refine WLa rfl (WL_nil (WQ_code (WC_seq (WC_seq (WC_region (WLa rfl ?_))))))
 refine WL_val rfl rfl rfl (R_not rfl rfl) ?_
 refine WL_nil (WQ_code ?_)
 refine WC_F rfl ?_
 refine WC_skip (WQ_code (WC_seq (WC_region (WLa rfl (WLa rfl ?_)))))
 refine WL_val rfl rfl rfl (R_fieldAddr rfl fa252_1 rfl) ?_
 refine WL_val rfl rfl rfl (R_load rfl sc248 rfl (mmZ) rfl) ?_
 refine WLa rfl ?_
 refine WL_do0 rfl rfl (D_delete (ek := ekQ) (ev := evQ) (k := t) (a := ⟨v, lst 0 A, hd 0 B⟩) rfl Tryz.underlying248 Tryz.underlying27 rfl rfl (plZ) hM (hin)) ?_
 rintro _ _ ⟨es1, mc1, hM1, rfl⟩
 rw [hdel] at hM1
 refine WL_nil (WQ_code (WC_seq (WC_seq (WC_region ?_))))
 refine WL_val rfl rfl rfl (R_fieldAddr rfl fa254_1 rfl) ?_
 refine WL_val rfl rfl rfl (R_load rfl sc27 rfl (mmZ) rfl) ?_
 refine WL_val rfl rfl rfl (R_eql rfl rfl rfl) ?_
 refine WL_nil (WQ_code ?_)
 refine WC_dec rfl (fun c1 => ?_) (fun c1 => ?_)
 ·have h9 : ((lst 0 A : Nat) : Int) = 0 := c1
  obtain rfl : A = [] := hqA.lst0.1 (by omega)
  refine WC_region (WLa rfl ?_)
  refine WL_val rfl rfl rfl (R_fieldAddr rfl fa254_2 rfl) ?_
  refine WL_val rfl rfl rfl (R_load rfl sc27 rfl (mmZ) rfl) ?_
  refine WLa rfl ?_
  refine WL_val rfl rfl rfl (R_fieldAddr rfl fa252_0 rfl) ?_
  refine WL_val rfl rfl rfl (R_fieldAddr rfl fa250_0 rfl) ?_
  refine WL_do0 rfl rfl (D_store (vs := [_]) rfl Tryz.sizeOf27 rfl rfl rfl rfl rfl (plZ) (Nat.le_of_ble_eq_true rfl)) ?_
  rintro _ _ rfl
  refine WL_nil (WQ_code (WC_seq (WC_seq (WC_region ?_))))
  refine WL_val rfl rfl rfl (R_fieldAddr rfl fa254_2 rfl) ?_
  refine WL_val rfl rfl rfl (R_load rfl sc27 rfl (mmZ) rfl) ?_
  refine WL_val rfl rfl rfl (R_eql rfl rfl rfl) ?_
  refine WL_nil (WQ_code ?_)
  refine WC_dec rfl (fun c2 => ?_) (fun c2 => ?_)
  ·have h8 : ((hd 0 B : Nat) : Int) = 0 := c2
   obtain rfl : B = [] := hqB.hd0.1 (by omega)
   refine WC_region (WLa rfl ?_)
   refine WL_val rfl rfl rfl (R_fieldAddr rfl fa254_1 rfl) ?_
   refine WL_val rfl rfl rfl (R_load rfl sc27 rfl (mmZ) rfl) ?_
   refine WLa rfl ?_
   refine WL_val rfl rfl rfl (R_fieldAddr rfl fa252_0 rfl) ?_
   refine WL_val rfl rfl rfl (R_fieldAddr rfl fa250_1 rfl) ?_
   refine WL_do0 rfl rfl (D_store (vs := [_]) rfl Tryz.sizeOf27 rfl rfl rfl rfl rfl (plZ) (Nat.le_of_ble_eq_true rfl)) ?_
   rintro _ _ rfl
   refine WL_nil (WQ_code (WC_seq (WC_region ?_)))
   refine WL_val rfl rfl rfl (R_fieldAddr rfl fa254_0 rfl) ?_
   refine WL_val rfl rfl rfl (R_load rfl sc3 rfl (mmZ) rfl) ?_
   refine WLa rfl (WLa rfl (WL_nil (WQ_code (WC_ret ?_))))
   refine WQ_ret rfl rfl (.cons (.tmp rfl) (.cons (.tmp rfl) .nil)) rfl (by
     exact ⟨_, mc1, hd 0 [], lst 0 [], rfl, rfl, rfl, rfl, hM1⟩) (pqZ)
  ·have hB : B ≠ [] := fun e => c2 (by rw [e]; rfl)
   obtain ⟨w2, nq, hin2⟩ := hd_in 0 t B hB
   refine WC_seq ?_
   refine WC_draw _ [(0, true), (1, true), (2, true), (3, true), (4, true), (5, true), (6, true), (7, false), (8, false)] followsMixed rfl rfl (by kernel_rfl) .all ?_
   refine WMa rfl (WMa rfl ?_)
   refine WM_val rfl rfl rfl rfl (R_fieldAddr rfl fa252_1 rfl) ?_
   refine WM_val rfl rfl rfl rfl (R_load rfl sc248 rfl (mmZ) rfl) ?_
   refine WM_val rfl rfl rfl rfl (R_fieldAddr rfl fa254_2 rfl) ?_
   refine WM_val rfl rfl rfl rfl (R_load rfl sc27 rfl (mmZ) rfl) ?_
   refine WM_val rfl rfl rfl rfl (R_look (ek := ekQ) (ev := evQ) (k := hd 0 B) (a := ⟨w2, t, nq⟩) rfl Tryz.underlying248 Tryz.underlying27 rfl rfl (mmZ) hM1 (List.mem_append_right _ hin2)) ?_
   refine WM_do rfl rfl rfl rfl (D_alloc rfl zv254) ?_
   rintro _ _ ⟨b2, rfl, rfl⟩
   refine ⟨⟨_, pqZ⟩, ?_⟩
   refine WM_do0 rfl rfl rfl (D_store (vs := [_, _, _]) rfl Tryz.sizeOf254 rfl rfl rfl rfl rfl (plZ) (Nat.le_of_ble_eq_true rfl)) ?_
   rintro _ _ rfl
   refine ⟨⟨_, pqZ⟩, ?_⟩
   refine WM_nil (WQ_code (WC_seq (WC_region ?_)))
   refine WL_val rfl rfl rfl (R_fieldAddr rfl fa254_1 rfl) ?_
   refine WL_val rfl rfl rfl (R_load rfl sc27 rfl (mmZ) rfl) ?_
   refine WL_val rfl rfl rfl (R_fieldAddr rfl fa254_1 rfl) ?_
   refine WL_do0 rfl rfl (D_store (vs := [_]) rfl Tryz.sizeOf27 rfl rfl rfl rfl rfl (plZ) (Nat.le_of_ble_eq_true rfl)) ?_
   rintro _ _ rfl
   refine WL_nil (WQ_code ?_)
   refine WC_drawR [⟨some mb, _⟩] [(0, true), (1, true), (2, true), (3, true), (4, true), (5, true), (6, true), (7, false)] followsMixed rfl rfl (by kernel_rfl) (pqZ) ?_
   refine WMa rfl (WMa rfl ?_)
   refine WM_val rfl rfl rfl rfl (R_fieldAddr rfl fa252_1 rfl) ?_
   refine WM_val rfl rfl rfl rfl (R_load rfl sc248 rfl (mmZ) rfl) ?_
   refine WM_val rfl rfl rfl rfl (R_fieldAddr rfl fa254_2 rfl) ?_
   refine WM_val rfl rfl rfl rfl (R_load rfl sc27 rfl (mmZ) rfl) ?_
   refine WM_val rfl rfl rfl rfl (R_loadA (vs := [_, _, _]) rfl ag254 rfl (mmZ) rfl (atZ)) ?_
   refine WM_do0 rfl rfl rfl (D_mapSet (ek := ekQ) (ev := evQ) (k := hd 0 B) (a := ⟨w2, t, nq⟩) (v := (⟨w2, lst 0 [], nq⟩ : Nd)) rfl Tryz.underlying248 Tryz.underlying27 rfl rfl rfl (plZ) hM1 (List.mem_append_right _ hin2)) ?_
   rintro _ _ ⟨es3, mc3, hM3, rfl⟩
   refine ⟨⟨_, pqZ⟩, ?_⟩
   rw [setL_append, setL_head t (lst 0 []) 0 B w2 nq hB hqB.nodup hin2, setL_out (by rw [nds_keys]; exact out_left hq hB)] at hM3
   refine WM_nil (WQ_code (WC_seq (WC_region ?_)))
   refine WL_val rfl rfl rfl (R_fieldAddr rfl fa254_0 rfl) ?_
   refine WL_val rfl rfl rfl (R_load rfl sc3 rfl (mmZ) rfl) ?_
   refine WLa rfl (WLa rfl (WL_nil (WQ_code (WC_ret ?_))))
   refine WQ_ret rfl rfl (.cons (.tmp rfl) (.cons (.tmp rfl) .nil)) rfl (by
     exact ⟨_, mc3, hd 0 B, lst t B, rfl, rfl, rfl, (by rw [lst_append]; exact lst_ne hB), hM3⟩) (pqZ)
 ·have hA : A ≠ [] := fun e => c1 (by rw [e]; rfl)
  obtain ⟨w1, bq, hin1⟩ := lst_in t A 0 hA
  refine WC_seq ?_
  refine WC_draw _ [(0, true), (1, true), (2, true), (3, true), (4, true), (5, true), (6, true), (7, false), (8, false)] followsMixed rfl rfl (by kernel_rfl) .all ?_
  refine WMa rfl (WMa rfl ?_)
  refine WM_val rfl rfl rfl rfl (R_fieldAddr rfl fa252_1 rfl) ?_
  refine WM_val rfl rfl rfl rfl (R_load rfl sc248 rfl (mmZ) rfl) ?_
  refine WM_val rfl rfl rfl rfl (R_fieldAddr rfl fa254_1 rfl) ?_
  refine WM_val rfl rfl rfl rfl (R_load rfl sc27 rfl (mmZ) rfl) ?_
  refine WM_val rfl rfl rfl rfl (R_look (ek := ekQ) (ev := evQ) (k := lst 0 A) (a := ⟨w1, bq, t⟩) rfl Tryz.underlying248 Tryz.underlying27 rfl rfl (mmZ) hM1 (List.mem_append_left _ hin1)) ?_
  refine WM_do rfl rfl rfl rfl (D_alloc rfl zv254) ?_
  rintro _ _ ⟨b3, rfl, rfl⟩
  refine ⟨⟨_, pqZ⟩, ?_⟩
  refine WM_do0 rfl rfl rfl (D_store (vs := [_, _, _]) rfl Tryz.sizeOf254 rfl rfl rfl rfl rfl (plZ) (Nat.le_of_ble_eq_true rfl)) ?_
  rintro _ _ rfl
  refine ⟨⟨_, pqZ⟩, ?_⟩
  refine WM_nil (WQ_code (WC_seq (WC_region ?_)))
  refine WL_val rfl rfl rfl (R_fieldAddr rfl fa254_2 rfl) ?_
  refine WL_val rfl rfl rfl (R_load rfl sc27 rfl (mmZ) rfl) ?_
  refine WL_val rfl rfl rfl (R_fieldAddr rfl fa254_2 rfl) ?_
  refine WL_do0 rfl rfl (D_store (vs := [_]) rfl Tryz.sizeOf27 rfl rfl rfl rfl rfl (plZ) (Nat.le_of_ble_eq_true rfl)) ?_
  rintro _ _ rfl
  refine WL_nil (WQ_code ?_)
  refine WC_drawR [⟨some mb, _⟩] [(0, true), (1, true), (2, true), (3, true), (4, true), (5, true), (6, true), (7, false)] followsMixed rfl rfl (by kernel_rfl) (pqZ) ?_
  refine WMa rfl (WMa rfl ?_)
  refine WM_val rfl rfl rfl rfl (R_fieldAddr rfl fa252_1 rfl) ?_
  refine WM_val rfl rfl rfl rfl (R_load rfl sc248 rfl (mmZ) rfl) ?_
  refine WM_val rfl rfl rfl rfl (R_fieldAddr rfl fa254_1 rfl) ?_
  refine WM_val rfl rfl rfl rfl (R_load rfl sc27 rfl (mmZ) rfl) ?_
  refine WM_val rfl rfl rfl rfl (R_loadA (vs := [_, _, _]) rfl ag254 rfl (mmZ) rfl (atZ)) ?_
  refine WM_do0 rfl rfl rfl (D_mapSet (ek := ekQ) (ev := evQ) (k := lst 0 A) (a := ⟨w1, bq, t⟩) (v := (⟨w1, bq, hd 0 B⟩ : Nd)) rfl Tryz.underlying248 Tryz.underlying27 rfl rfl rfl (plZ) hM1 (List.mem_append_left _ hin1)) ?_
  rintro _ _ ⟨es2, mc2, hM2, rfl⟩
  refine ⟨⟨_, pqZ⟩, ?_⟩
  rw [setL_append, setL_last t (hd 0 B) A 0 w1 bq hA hqA.nodup hin1, setL_out (by rw [nds_keys]; exact out_right hq hA)] at hM2
  refine WM_nil (WQ_code (WC_seq (WC_seq (WC_region ?_))))
  refine WL_val rfl rfl rfl (R_fieldAddr rfl fa254_2 rfl) ?_
  refine WL_val rfl rfl rfl (R_load rfl sc27 rfl (mmZ) rfl) ?_
  refine WL_val rfl rfl rfl (R_eql rfl rfl rfl) ?_
  refine WL_nil (WQ_code ?_)
  refine WC_dec rfl (fun c3 => ?_) (fun c3 => ?_)
  ·have h8 : ((hd 0 B : Nat) : Int) = 0 := c3
   obtain rfl : B = [] := hqB.hd0.1 (by omega)
   refine WC_region (WLa rfl ?_)
   refine WL_val rfl rfl rfl (R_fieldAddr rfl fa254_1 rfl) ?_
   refine WL_val rfl rfl rfl (R_load rfl sc27 rfl (mmZ) rfl) ?_
   refine WLa rfl ?_
   refine WL_val rfl rfl rfl (R_fieldAddr rfl fa252_0 rfl) ?_
   refine WL_val rfl rfl rfl (R_fieldAddr rfl fa250_1 rfl) ?_
   refine WL_do0 rfl rfl (D_store (vs := [_]) rfl Tryz.sizeOf27 rfl rfl rfl rfl rfl (plZ) (Nat.le_of_ble_eq_true rfl)) ?_
   rintro _ _ rfl
   refine WL_nil (WQ_code (WC_seq (WC_region ?_)))
   refine WL_val rfl rfl rfl (R_fieldAddr rfl fa254_0 rfl) ?_
   refine WL_val rfl rfl rfl (R_load rfl sc3 rfl (mmZ) rfl) ?_
   refine WLa rfl (WLa rfl (WL_nil (WQ_code (WC_ret ?_))))
   refine WQ_ret rfl rfl (.cons (.tmp rfl) (.cons (.tmp rfl) .nil)) rfl (by
     exact ⟨_, mc2, hd t A, lst 0 A, rfl, rfl, (by rw [hd_append]; exact hd_ne hA), (by rw [List.append_nil]), hM2⟩) (pqZ)
  ·have hB : B ≠ [] := fun e => c3 (by rw [e]; rfl)
   obtain ⟨w2, nq, hin2⟩ := hd_in 0 t B hB
   refine WC_seq ?_
   refine WC_draw _ [(0, true), (1, true), (2, true), (3, true), (4, true), (5, true), (6, true), (7, false), (8, false)] followsMixed rfl rfl (by kernel_rfl) .all ?_
   refine WMa rfl (WMa rfl ?_)
   refine WM_val rfl rfl rfl rfl (R_fieldAddr rfl fa252_1 rfl) ?_
   refine WM_val rfl rfl rfl rfl (R_load rfl sc248 rfl (mmZ) rfl) ?_
   refine WM_val rfl rfl rfl rfl (R_fieldAddr rfl fa254_2 rfl) ?_
   refine WM_val rfl rfl rfl rfl (R_load rfl sc27 rfl (mmZ) rfl) ?_
   refine WM_val rfl rfl rfl rfl (R_look (ek := ekQ) (ev := evQ) (k := hd 0 B) (a := ⟨w2, t, nq⟩) rfl Tryz.underlying248 Tryz.underlying27 rfl rfl (mmZ) hM2 (List.mem_append_right _ hin2)) ?_
   refine WM_do rfl rfl rfl rfl (D_alloc rfl zv254) ?_
   rintro _ _ ⟨b4, rfl, rfl⟩
   refine ⟨⟨_, pqZ⟩, ?_⟩
   refine WM_do0 rfl rfl rfl (D_store (vs := [_, _, _]) rfl Tryz.sizeOf254 rfl rfl rfl rfl rfl (plZ) (Nat.le_of_ble_eq_true rfl)) ?_
   rintro _ _ rfl
   refine ⟨⟨_, pqZ⟩, ?_⟩
   refine WM_nil (WQ_code (WC_seq (WC_region ?_)))
   refine WL_val rfl rfl rfl (R_fieldAddr rfl fa254_1 rfl) ?_
   refine WL_val rfl rfl rfl (R_load rfl sc27 rfl (mmZ) rfl) ?_
   refine WL_val rfl rfl rfl (R_fieldAddr rfl fa254_1 rfl) ?_
   refine WL_do0 rfl rfl (D_store (vs := [_]) rfl Tryz.sizeOf27 rfl rfl rfl rfl rfl (plZ) (Nat.le_of_ble_eq_true rfl)) ?_
   rintro _ _ rfl
   refine WL_nil (WQ_code ?_)
   refine WC_drawR [⟨some mb, _⟩] [(0, true), (1, true), (2, true), (3, true), (4, true), (5, true), (6, true), (7, false)] followsMixed rfl rfl (by kernel_rfl) (pqZ) ?_
   refine WMa rfl (WMa rfl ?_)
   refine WM_val rfl rfl rfl rfl (R_fieldAddr rfl fa252_1 rfl) ?_
   refine WM_val rfl rfl rfl rfl (R_load rfl sc248 rfl (mmZ) rfl) ?_
   refine WM_val rfl rfl rfl rfl (R_fieldAddr rfl fa254_2 rfl) ?_
   refine WM_val rfl rfl rfl rfl (R_load rfl sc27 rfl (mmZ) rfl) ?_
   refine WM_val rfl rfl rfl rfl (R_loadA (vs := [_, _, _]) rfl ag254 rfl (mmZ) rfl (atZ)) ?_
   refine WM_do0 rfl rfl rfl (D_mapSet (ek := ekQ) (ev := evQ) (k := hd 0 B) (a := ⟨w2, t, nq⟩) (v := (⟨w2, lst 0 A, nq⟩ : Nd)) rfl Tryz.underlying248 Tryz.underlying27 rfl rfl rfl (plZ) hM2 (List.mem_append_right _ hin2)) ?_
   rintro _ _ ⟨es3, mc3, hM3, rfl⟩
   refine ⟨⟨_, pqZ⟩, ?_⟩
   rw [setL_append, setL_head t (lst 0 A) 0 B w2 nq hB hqB.nodup hin2, setL_out (by rw [nds_keys]; exact out_left hq hB)] at hM3
   refine WM_nil (WQ_code (WC_seq (WC_region ?_)))
   refine WL_val rfl rfl rfl (R_fieldAddr rfl fa254_0 rfl) ?_
   refine WL_val rfl rfl rfl (R_load rfl sc3 rfl (mmZ) rfl) ?_
   refine WLa rfl (WLa rfl (WL_nil (WQ_code (WC_ret ?_))))
   refine WQ_ret rfl rfl (.cons (.tmp rfl) (.cons (.tmp rfl) .nil)) rfl (by
     exact ⟨_, mc3, hd t A, lst t B, rfl, rfl, (by rw [hd_append]; exact hd_ne hA), (by rw [lst_append]; exact lst_ne hB), hM3⟩) (pqZ)
end Go.Proofs.YtbkdebnkoidicaaGreat
end
section
set_option linter.unusedVariables false
set_option maxRecDepth 20000
set_option maxHeartbeats 1000000
namespace Go.Proofs.YtbkdebnkoidicaaGreat
theorem qrem_ok (p mb : Nat) (A B : List (Nat × Int)) (t : Nat) (v : Int) (n : Nat) (es : Array MapEntry) (mc : Nat) (hq : Qk (A ++ (t, v) :: B) n) (hM : Mp (.int .u64) ekQ evQ es (nds 0 0 (A ++ (t, v) :: B))) : Spec Tryz.prog 160 [ptrQ p, .int .u64 (t : Int)] (qH p mb (A ++ (t, v) :: B) n es mc)
  (fun r H' => ∃ es' mc', r = .tuple #[.int .i64 v, .int .i64 0] ∧ H' = qH p mb (A ++ B) n es' mc' ∧ Mp (.int .u64) ekQ evQ es' (nds 0 0 (A ++ B))) := by
 have h := qrem_raw p mb A B t v n es mc hq hM
 have e1 : hd t A = hd 0 (A ++ (t, v) :: B) := by rw [hd_append]; rfl
 have e2 : lst t B = lst 0 (A ++ (t, v) :: B) := by rw [lst_append]; rfl
 rw [e1, e2] at h
 exact h.mono fun r H' ⟨es', mc', f, la, h1, h2, h3, h4, h5⟩ => by subst h3; subst h4; exact ⟨es', mc', h1, h2, by rw [nds_append]; exact h5⟩
theorem ext_clone : Extern.find Tryz.f205 = some Extern.MapsClone.clone := by kernel_rfl
theorem ext_clone_next : Extern.findNext Tryz.f205 = none := by kernel_rfl
theorem ext_clone_name : (Tryz.f205.name == "runtime.NumGoroutine") = false := by kernel_rfl
theorem mclone_ok (mb : Nat) (es : Array MapEntry) (mc : Nat) : Spec Tryz.prog 180 [.map (some mb)] [⟨some mb, .map es mc⟩] (fun r H' => ∃ m2, r = .map (some m2) ∧ H' = [⟨some m2, .map es mc⟩, ⟨some mb, .map es mc⟩]) := by
 refine Spec.of (E := [(0, .map (some mb))]) Tryz.func180 rfl (by kernel_rfl) Tryz.ntmps180 rfl rfl (fun w => ?_)
 refine WC_seq (WC_region (WLa rfl (WL_nil (WQ_code (WC_seq (WC_seq (WC_region (WLa rfl ?_))))))))
 refine WL_val rfl rfl rfl (R_mapEqNil rfl Tryz.underlying248 rfl) ?_
 refine WL_set (s := 4) (v := .bool false) rfl (by rfl) ?_
 refine WL_nil (WQ_code ?_)
 refine WC_F rfl ?_
 refine WC_skip (WQ_code (WC_seq (WC_region (WLa rfl ?_))))
 refine WL_val rfl rfl rfl (R_mkIface rfl Tryz.underlying248 (by intro ms e; cases e) rfl) ?_
 refine WL_do rfl rfl rfl (D_mapsClone Tryz.func205 ext_clone_name rfl ext_clone_next ext_clone rfl rfl (mmZ)) ?_
 rintro _ _ ⟨m2, rfl, rfl⟩
 refine WL_val rfl rfl rfl (R_assert rfl Tryz.underlying248 (by intro ms e; cases e) rfl) ?_
 refine WLa rfl (WL_nil (WQ_code (WC_ret ?_)))
 refine WQ_ret rfl rfl (.cons (.tmp rfl) .nil) rfl (by
   exact ⟨m2, rfl, rfl⟩) (pqZ)
theorem qcopy_ok (p mb : Nat) (l : List (Nat × Int)) (n : Nat) (es : Array MapEntry) (mc : Nat) : Spec Tryz.prog 145 [ptrQ p] (qH p mb l n es mc) (fun r H' => ∃ p2 m2, r = ptrQ p2 ∧ H' = qH p2 m2 l n es mc ++ qH p mb l n es mc) := by
 refine Spec.of (E := [(0, ptrQ p)]) Tryz.func145 rfl (by kernel_rfl) Tryz.ntmps145 rfl rfl (fun w => ?_)
 refine WC_seq (WC_region (WLa rfl (WL_nil (WQ_code (WC_seq (WC_seq (WC_region (WLa rfl ?_))))))))
 refine WL_do rfl rfl rfl (D_call (qzero_ok p mb _ _ _ es mc) rfl rfl rfl rfl (pqZ)) ?_
 rintro _ _ ⟨_, ⟨rfl, rfl⟩, rfl⟩
 refine WL_nil (WQ_code ?_)
 refine WC_F rfl ?_
 refine WC_skip (WQ_code (WC_seq ?_))
 refine WC_draw _ [(0, true), (1, true), (2, true), (3, true), (4, true), (5, true), (6, true), (7, true), (8, false), (9, true), (10, false), (11, true)] followsMixed rfl rfl (by kernel_rfl) .all ?_
 refine WMa rfl (WMa rfl ?_)
 refine WM_val rfl rfl rfl rfl (R_fieldAddr rfl fa252_0 rfl) ?_
 refine WM_val rfl rfl rfl rfl (R_loadA (vs := [_, _, _]) rfl ag250 rfl (mmZ) rfl (atZ)) ?_
 refine WMa rfl (WMa rfl ?_)
 refine WM_val rfl rfl rfl rfl (R_fieldAddr rfl fa252_1 rfl) ?_
 refine WM_val rfl rfl rfl rfl (R_load rfl sc248 rfl (mmZ) rfl) ?_
 refine WM_do rfl rfl rfl rfl (D_call (mclone_ok mb es mc) rfl rfl rfl rfl (pqZ)) ?_
 rintro _ _ ⟨_, ⟨m2, rfl, rfl⟩, rfl⟩
 refine ⟨⟨_, pqZ⟩, ?_⟩
 refine WM_val rfl rfl rfl rfl (R_build rfl zv252 pl252 rfl rfl) ?_
 refine WM_do rfl rfl rfl rfl (D_box (cs := [_, _, _, _]) rfl rfl rfl) ?_
 rintro _ _ ⟨b1, rfl, rfl⟩
 refine ⟨⟨_, pqZ⟩, ?_⟩
 refine WMa rfl (WM_nil (WQ_code (WC_ret ?_)))
 refine WQ_ret rfl rfl (.cons (.tmp rfl) .nil) rfl (by
   exact ⟨_, m2, rfl, rfl⟩) (pqZ)
theorem qcopy_nil : Spec Tryz.prog 145 [.pointer none] [] (fun r H' => r = .pointer none ∧ H' = []) := by
 refine Spec.of (E := [(0, .pointer none)]) Tryz.func145 rfl (by kernel_rfl) Tryz.ntmps145 rfl rfl (fun w => ?_)
 refine WC_seq (WC_region (WLa rfl (WL_nil (WQ_code (WC_seq (WC_seq (WC_region (WLa rfl ?_))))))))
 refine WL_do rfl rfl rfl (D_call (qzero_nil) rfl rfl rfl rfl (pqZ)) ?_
 rintro _ _ ⟨_, ⟨rfl, rfl⟩, rfl⟩
 refine WL_nil (WQ_code ?_)
 refine WC_T rfl ?_
 refine WC_seq (WC_region (WLa rfl (WL_nil (WQ_code (WC_ret ?_)))))
 refine WQ_ret rfl rfl (.cons (.tmp rfl) .nil) rfl (by
   exact ⟨rfl, rfl⟩) (pqZ)
theorem qall_ok (p mb : Nat) (l : List (Nat × Int)) (n : Nat) (es : Array MapEntry) (mc : Nat) : Spec Tryz.prog 159 [ptrQ p] (qH p mb l n es mc) (fun r H' => ∃ bc p2 m2, r = .func (.func 200) #[] #[ptrQ bc] ∧ H' = ⟨some bc, cl [ptrQ p2] 177⟩ :: (qH p2 m2 l n es mc ++ qH p mb l n es mc)) := by
 refine Spec.of (E := [(0, ptrQ p)]) Tryz.func159 rfl (by kernel_rfl) Tryz.ntmps159 rfl rfl (fun w => ?_)
 refine WC_seq (WC_region (WLa rfl (WL_nil (WQ_code (WC_seq (WC_region (WLa rfl ?_)))))))
 refine WL_do rfl rfl rfl (D_call (qcopy_ok p mb l n es mc) rfl rfl rfl rfl (pqZ)) ?_
 rintro _ _ ⟨_, ⟨p2, m2, rfl, rfl⟩, rfl⟩
 refine WL_do rfl rfl rfl (D_alloc rfl zv177) ?_
 rintro _ _ ⟨b1, rfl, rfl⟩
 refine WL_do0 rfl rfl (D_store (vs := [_]) rfl Tryz.sizeOf177 rfl rfl rfl rfl rfl (plZ) (Nat.le_of_ble_eq_true rfl)) ?_
 rintro _ _ rfl
 refine WL_nil (WQ_code (WC_seq (WC_region ?_)))
 refine WL_val rfl rfl rfl (R_makeFunc rfl rfl rfl) ?_
 refine WLa rfl (WL_nil (WQ_code (WC_ret ?_)))
 refine WQ_ret rfl rfl (.cons (.tmp rfl) .nil) rfl (by
   exact ⟨_, p2, m2, rfl, rfl⟩) (pqZ)
theorem qall_nil : Spec Tryz.prog 159 [.pointer none] [] (fun r H' => ∃ bc, r = .func (.func 200) #[] #[ptrQ bc] ∧ H' = [⟨some bc, cl [.pointer none] 177⟩]) := by
 refine Spec.of (E := [(0, .pointer none)]) Tryz.func159 rfl (by kernel_rfl) Tryz.ntmps159 rfl rfl (fun w => ?_)
 refine WC_seq (WC_region (WLa rfl (WL_nil (WQ_code (WC_seq (WC_region (WLa rfl ?_)))))))
 refine WL_do rfl rfl rfl (D_call (qcopy_nil) rfl rfl rfl rfl (pqZ)) ?_
 rintro _ _ ⟨_, ⟨rfl, rfl⟩, rfl⟩
 refine WL_do rfl rfl rfl (D_alloc rfl zv177) ?_
 rintro _ _ ⟨b1, rfl, rfl⟩
 refine WL_do0 rfl rfl (D_store (vs := [_]) rfl Tryz.sizeOf177 rfl rfl rfl rfl rfl (plZ) (Nat.le_of_ble_eq_true rfl)) ?_
 rintro _ _ rfl
 refine WL_nil (WQ_code (WC_seq (WC_region ?_)))
 refine WL_val rfl rfl rfl (R_makeFunc rfl rfl rfl) ?_
 refine WLa rfl (WL_nil (WQ_code (WC_ret ?_)))
 refine WQ_ret rfl rfl (.cons (.tmp rfl) .nil) rfl (by
   exact ⟨_, rfl, rfl⟩) (pqZ)
def encQ (x : Nat × Int) : List Value := [.int .u64 (x.1 : Int), .int .i64 x.2]
theorem qiter_none (bc : Nat) : IterSpec Tryz.prog 200 [ptrQ bc] [⟨some bc, cl [.pointer none] 177⟩] encQ [] := by
 intro lp J Jx hY hj h0
 refine Spec.of (E := [(0, yieldV lp), (1, ptrQ bc)]) Tryz.func200 rfl (by kernel_rfl) Tryz.ntmps200 rfl rfl (fun w => ?_)
 refine WC_seq (WC_seq (WC_region ?_))
 refine WL_val rfl rfl rfl (R_load rfl sc177 rfl (mmZ) rfl) ?_
 refine WL_val rfl rfl rfl (R_ptrEqNil rfl Tryz.underlying177 rfl) ?_
 refine WL_nil (WQ_code ?_)
 refine WC_T rfl ?_
 refine WC_ret ?_
 refine WQ_ret rfl rfl .nil rfl (by
   exact ⟨_, .inl h0, rfl⟩) (pqZ)
theorem qiter_ok (bc : Nat) (p mb : Nat) (l : List (Nat × Int)) (n : Nat) (es : Array MapEntry) (mc : Nat) (hq : Qk l n) (hM : Mp (.int .u64) ekQ evQ es (nds 0 0 l)) : IterSpec Tryz.prog 200 [ptrQ bc] (⟨some bc, cl [ptrQ p] 177⟩ :: qH p mb l n es mc) encQ l := by
 intro lp J Jx hY hj h0
 refine Spec.of (E := [(0, yieldV lp), (1, ptrQ bc)]) Tryz.func200 rfl (by kernel_rfl) Tryz.ntmps200 rfl rfl (fun w => ?_)
 refine WC_seq (WC_seq (WC_region ?_))
 refine WL_val rfl rfl rfl (R_load rfl sc177 rfl (mmZ) rfl) ?_
 refine WL_val rfl rfl rfl (R_ptrEqNil rfl Tryz.underlying177 rfl) ?_
 refine WL_nil (WQ_code ?_)
 refine WC_F rfl ?_
 refine WC_skip (WQ_code (WC_seq (WC_region ?_)))
 refine WL_val rfl rfl rfl (R_load rfl sc177 rfl (mmZ) rfl) ?_
 refine WLa rfl ?_
 refine WL_val rfl rfl rfl (R_fieldAddr rfl fa252_0 rfl) ?_
 refine WL_val rfl rfl rfl (R_fieldAddr rfl fa250_0 rfl) ?_
 refine WL_val rfl rfl rfl (R_load rfl sc27 rfl (mmZ) rfl) ?_
 refine WLa rfl (WL_nil (WQ_code (WC_block ?_)))
 refine WC_loopH (G := List (Nat × Int) × List (Nat × Int) × Heap) [3, 11, 12, 13, 14, 15, 16, 17, 18, 19, 20, 21, 22, 23, 24, 25, 26, 27, 28, 29, 30] (fun g => l = g.1 ++ g.2.1 ∧ J g.1 g.2.2) (fun g => [(3, .int .u64 ((hd 0 g.2.1 : Nat) : Int))]) (fun g => ⟨some bc, cl [ptrQ p] 177⟩ :: (qH p mb l n es mc ++ g.2.2)) (fun g => g.2.1.length) (([], l, hj)) (⟨rfl, h0⟩) leZ (pqZ) ?_
 rintro g ⟨hl, hJ⟩
 obtain ⟨pre, r, hj⟩ := g
 simp only at hl hJ ⊢
 refine WC_seq (WC_seq (WC_region (WLa rfl ?_)))
 refine WL_val rfl rfl rfl (R_neq rfl rfl rfl) ?_
 refine WL_nil (WQ_code ?_)
 refine WC_dec rfl (fun c1 => ?_) (fun c1 => ?_)
 ·obtain ⟨⟨t, v⟩, r, rfl⟩ : ∃ x r2, r = x :: r2 := by cases r with | nil => exact absurd rfl c1 | cons x r2 => exact ⟨x, r2, rfl⟩
  have hin : (t, (⟨v, lst 0 pre, hd 0 r⟩ : Nd)) ∈ nds 0 0 l := by rw [hl, nds_append]; exact List.mem_append_right _ (List.mem_cons_self ..)
  refine WC_skip (WQ_code (WC_seq (WC_block (WC_seq (WC_region (WLa rfl (WLa rfl ?_)))))))
  refine WL_val rfl rfl rfl (R_load rfl sc177 rfl (mmZ) rfl) ?_
  refine WLa rfl ?_
  refine WL_val rfl rfl rfl (R_fieldAddr rfl fa252_1 rfl) ?_
  refine WL_val rfl rfl rfl (R_load rfl sc248 rfl (mmZ) rfl) ?_
  refine WLa rfl ?_
  refine WL_val rfl rfl rfl (R_look (ek := ekQ) (ev := evQ) (k := t) (a := ⟨v, lst 0 pre, hd 0 r⟩) rfl Tryz.underlying248 Tryz.underlying27 rfl rfl (mmZ) hM (hin)) ?_
  refine WL_val rfl rfl rfl (R_field rfl Tryz.underlying254 rfl rfl sc3 rfl rfl) ?_
  refine WL_do rfl rfl rfl (D_yield (F := [_, _, _]) (hY pre (t, v) r hj hl hJ) rfl rfl rfl rfl (List.Perm.refl _)) ?_
  rintro _ _ ⟨hj2, (⟨rfl, hJ2⟩ | ⟨rfl, hJ2⟩), rfl⟩
  ·refine WL_val rfl rfl rfl (R_not rfl rfl) ?_
   refine WL_nil (WQ_code ?_)
   refine WC_F rfl ?_
   refine WC_skip (WQ_code (WC_region ?_))
   refine WL_val rfl rfl rfl (R_load rfl sc177 rfl (mmZ) rfl) ?_
   refine WLa rfl ?_
   refine WL_val rfl rfl rfl (R_fieldAddr rfl fa252_1 rfl) ?_
   refine WL_val rfl rfl rfl (R_load rfl sc248 rfl (mmZ) rfl) ?_
   refine WLa rfl ?_
   refine WL_val rfl rfl rfl (R_look (ek := ekQ) (ev := evQ) (k := t) (a := ⟨v, lst 0 pre, hd 0 r⟩) rfl Tryz.underlying248 Tryz.underlying27 rfl rfl (mmZ) hM (hin)) ?_
   refine WL_val rfl rfl rfl (R_field rfl Tryz.underlying254 rfl rfl sc27 rfl rfl) ?_
   refine WLa rfl (WL_nil ?_)
   refine WQ_nextH (gg := (pre, (t, v) :: r, hj)) ((pre ++ [(t, v)], r, hj2)) (⟨by (show l = (pre ++ [(t, v)]) ++ r); rw [hl, List.append_assoc]; rfl, hJ2⟩) (by (show r.length < r.length + 1); omega) leZ (psZ) rfl (pqZ)
  ·refine WL_val rfl rfl rfl (R_not rfl rfl) ?_
   refine WL_nil (WQ_code ?_)
   refine WC_T rfl ?_
   refine WC_ret ?_
   refine WQ_ret rfl rfl .nil rfl (by
     first | exact ⟨_, .inr ⟨_, hJ2⟩, rfl⟩ | (rw [hr, List.append_nil] at hl; rw [← hl] at hJ; exact ⟨_, .inl hJ, rfl⟩)) (pqZ)
 ·have hr : r = [] := by cases r with | nil => rfl | cons x r2 => exact absurd (show ((hd 0 (x :: r2) : Nat) : Int) ≠ 0 from by have h8 := (hq.pos x (by rw [hl]; exact List.mem_append_right _ (List.mem_cons_self ..))).1; obtain ⟨x1, x2⟩ := x; (show ((x1 : Nat) : Int) ≠ 0); dsimp only at h8; omega) c1
  refine WC_exit ?_
  refine WQ_ret rfl rfl .nil rfl (by
    first | exact ⟨_, .inr ⟨_, hJ2⟩, rfl⟩ | (rw [hr, List.append_nil] at hl; rw [← hl] at hJ; exact ⟨_, .inl hJ, rfl⟩)) (pqZ)
end Go.Proofs.YtbkdebnkoidicaaGreat
end
section
set_option linter.unusedVariables false
set_option maxRecDepth 20000
set_option maxHeartbeats 1000000
namespace Go.Proofs.YtbkdebnkoidicaaGreat
def encE (x : Int × Nat) : List Value := [.int .i64 x.1, .int .u64 (x.2 : Int)]
theorem encE2 (x : Int × Nat) : (encE x).length = 2 := rfl
theorem encE_one (x : Int × Nat) : (encE x).all Value.oneCell' = true := rfl
abbrev tR (p pe pq : Nat) (S : List (Int × Nat)) (c : Nat) (tl : List Value) : Heap := [⟨some p, cl [.slice (some ⟨pe, 0, none⟩) S.length c, ptrQ pq] 239⟩, ⟨some pe, cl (S.flatMap encE ++ tl) 269⟩]
abbrev tH (p pe pq pm : Nat) (S : List (Int × Nat)) (c : Nat) (tl : List Value) (Q : List (Nat × Int)) (n : Nat) (es : Array MapEntry) (mc : Nat) : Heap := tR p pe pq S c tl ++ qH pq pm Q n es mc
structure Tk (S : List (Int × Nat)) (Q : List (Nat × Int)) (n : Nat) : Prop where
 len : 1 ≤ S.length ∧ S.length ≤ 64
 qk : Qk Q n
 ready : ∀ (i : Nat) (t : Nat), S[i]? = some (1, t) → (t, (i : Int)) ∈ Q
 back : ∀ t v, (t, v) ∈ Q → ∃ i : Nat, v = (i : Int) ∧ S[i]? = some (1, t)
 stt : ∀ (i : Nat) (x : Int) (t : Nat), S[i]? = some (x, t) → x = 0 ∨ x = 1 ∨ x = 2
abbrev OfP (k fr to : Int) : Prop := (k = 0 ∧ fr = 0 ∧ to = 1) ∨ (k = 1 ∧ fr = 1 ∧ to = 2) ∨ (k = 2 ∧ fr = 2 ∧ to = 1) ∨ (k = 3 ∧ fr = 1 ∧ to = 0) ∨ (k = 4 ∧ fr = 1 ∧ to = 1)
theorem of0 : Spec Tryz.prog 182 [.int .i64 0] [] (fun r H' => r = .agg #[.int .i64 0, .int .i64 1] ∧ H' = []) := by
 refine Spec.of (E := [(0, .int .i64 0)]) Tryz.func182 rfl (by kernel_rfl) Tryz.ntmps182 rfl rfl (fun w => ?_)
 refine WC_seq (WC_region ?_)
 refine WL_do rfl rfl rfl (D_alloc rfl zv296) ?_
 rintro _ _ ⟨b1, rfl, rfl⟩
 refine WL_nil (WQ_code (WC_seq (WC_region ?_)))
 refine WL_val rfl rfl rfl (R_build rfl zv296 pl296 rfl rfl) ?_
 refine WL_val rfl rfl rfl (R_build rfl zv296 pl296 rfl rfl) ?_
 refine WL_val rfl rfl rfl (R_build rfl zv296 pl296 rfl rfl) ?_
 refine WL_val rfl rfl rfl (R_build rfl zv296 pl296 rfl rfl) ?_
 refine WL_val rfl rfl rfl (R_build rfl zv296 pl296 rfl rfl) ?_
 refine WL_val rfl rfl rfl (R_buildArr rfl Tryz.underlying321 Tryz.sizeOf296 zv321 rfl rfl) ?_
 refine WLa rfl ?_
 refine WL_val rfl rfl rfl (R_indexArrA (vs := [_, _]) rfl Tryz.underlying321 ag296 rfl rfl (by decide) rfl (atZ)) ?_
 refine WL_do0 rfl rfl (D_store (vs := [_, _]) rfl Tryz.sizeOf296 rfl rfl rfl rfl rfl (plZ) (Nat.le_of_ble_eq_true rfl)) ?_
 rintro _ _ rfl
 refine WL_nil (WQ_code (WC_ret ?_))
 refine WQ_ret rfl rfl (.cons (.cell (vs := [_, _]) rfl ag296 (mmZ) rfl (atZ)) .nil) rfl (by
   exact ⟨rfl, rfl⟩) (pqZ)
theorem of1 : Spec Tryz.prog 182 [.int .i64 1] [] (fun r H' => r = .agg #[.int .i64 1, .int .i64 2] ∧ H' = []) := by
 refine Spec.of (E := [(0, .int .i64 1)]) Tryz.func182 rfl (by kernel_rfl) Tryz.ntmps182 rfl rfl (fun w => ?_)
 refine WC_seq (WC_region ?_)
 refine WL_do rfl rfl rfl (D_alloc rfl zv296) ?_
 rintro _ _ ⟨b1, rfl, rfl⟩
 refine WL_nil (WQ_code (WC_seq (WC_region ?_)))
 refine WL_val rfl rfl rfl (R_build rfl zv296 pl296 rfl rfl) ?_
 refine WL_val rfl rfl rfl (R_build rfl zv296 pl296 rfl rfl) ?_
 refine WL_val rfl rfl rfl (R_build rfl zv296 pl296 rfl rfl) ?_
 refine WL_val rfl rfl rfl (R_build rfl zv296 pl296 rfl rfl) ?_
 refine WL_val rfl rfl rfl (R_build rfl zv296 pl296 rfl rfl) ?_
 refine WL_val rfl rfl rfl (R_buildArr rfl Tryz.underlying321 Tryz.sizeOf296 zv321 rfl rfl) ?_
 refine WLa rfl ?_
 refine WL_val rfl rfl rfl (R_indexArrA (vs := [_, _]) rfl Tryz.underlying321 ag296 rfl rfl (by decide) rfl (atZ)) ?_
 refine WL_do0 rfl rfl (D_store (vs := [_, _]) rfl Tryz.sizeOf296 rfl rfl rfl rfl rfl (plZ) (Nat.le_of_ble_eq_true rfl)) ?_
 rintro _ _ rfl
 refine WL_nil (WQ_code (WC_ret ?_))
 refine WQ_ret rfl rfl (.cons (.cell (vs := [_, _]) rfl ag296 (mmZ) rfl (atZ)) .nil) rfl (by
   exact ⟨rfl, rfl⟩) (pqZ)
theorem of2 : Spec Tryz.prog 182 [.int .i64 2] [] (fun r H' => r = .agg #[.int .i64 2, .int .i64 1] ∧ H' = []) := by
 refine Spec.of (E := [(0, .int .i64 2)]) Tryz.func182 rfl (by kernel_rfl) Tryz.ntmps182 rfl rfl (fun w => ?_)
 refine WC_seq (WC_region ?_)
 refine WL_do rfl rfl rfl (D_alloc rfl zv296) ?_
 rintro _ _ ⟨b1, rfl, rfl⟩
 refine WL_nil (WQ_code (WC_seq (WC_region ?_)))
 refine WL_val rfl rfl rfl (R_build rfl zv296 pl296 rfl rfl) ?_
 refine WL_val rfl rfl rfl (R_build rfl zv296 pl296 rfl rfl) ?_
 refine WL_val rfl rfl rfl (R_build rfl zv296 pl296 rfl rfl) ?_
 refine WL_val rfl rfl rfl (R_build rfl zv296 pl296 rfl rfl) ?_
 refine WL_val rfl rfl rfl (R_build rfl zv296 pl296 rfl rfl) ?_
 refine WL_val rfl rfl rfl (R_buildArr rfl Tryz.underlying321 Tryz.sizeOf296 zv321 rfl rfl) ?_
 refine WLa rfl ?_
 refine WL_val rfl rfl rfl (R_indexArrA (vs := [_, _]) rfl Tryz.underlying321 ag296 rfl rfl (by decide) rfl (atZ)) ?_
 refine WL_do0 rfl rfl (D_store (vs := [_, _]) rfl Tryz.sizeOf296 rfl rfl rfl rfl rfl (plZ) (Nat.le_of_ble_eq_true rfl)) ?_
 rintro _ _ rfl
 refine WL_nil (WQ_code (WC_ret ?_))
 refine WQ_ret rfl rfl (.cons (.cell (vs := [_, _]) rfl ag296 (mmZ) rfl (atZ)) .nil) rfl (by
   exact ⟨rfl, rfl⟩) (pqZ)
theorem of3 : Spec Tryz.prog 182 [.int .i64 3] [] (fun r H' => r = .agg #[.int .i64 1, .int .i64 0] ∧ H' = []) := by
 refine Spec.of (E := [(0, .int .i64 3)]) Tryz.func182 rfl (by kernel_rfl) Tryz.ntmps182 rfl rfl (fun w => ?_)
 refine WC_seq (WC_region ?_)
 refine WL_do rfl rfl rfl (D_alloc rfl zv296) ?_
 rintro _ _ ⟨b1, rfl, rfl⟩
 refine WL_nil (WQ_code (WC_seq (WC_region ?_)))
 refine WL_val rfl rfl rfl (R_build rfl zv296 pl296 rfl rfl) ?_
 refine WL_val rfl rfl rfl (R_build rfl zv296 pl296 rfl rfl) ?_
 refine WL_val rfl rfl rfl (R_build rfl zv296 pl296 rfl rfl) ?_
 refine WL_val rfl rfl rfl (R_build rfl zv296 pl296 rfl rfl) ?_
 refine WL_val rfl rfl rfl (R_build rfl zv296 pl296 rfl rfl) ?_
 refine WL_val rfl rfl rfl (R_buildArr rfl Tryz.underlying321 Tryz.sizeOf296 zv321 rfl rfl) ?_
 refine WLa rfl ?_
 refine WL_val rfl rfl rfl (R_indexArrA (vs := [_, _]) rfl Tryz.underlying321 ag296 rfl rfl (by decide) rfl (atZ)) ?_
 refine WL_do0 rfl rfl (D_store (vs := [_, _]) rfl Tryz.sizeOf296 rfl rfl rfl rfl rfl (plZ) (Nat.le_of_ble_eq_true rfl)) ?_
 rintro _ _ rfl
 refine WL_nil (WQ_code (WC_ret ?_))
 refine WQ_ret rfl rfl (.cons (.cell (vs := [_, _]) rfl ag296 (mmZ) rfl (atZ)) .nil) rfl (by
   exact ⟨rfl, rfl⟩) (pqZ)
theorem of4 : Spec Tryz.prog 182 [.int .i64 4] [] (fun r H' => r = .agg #[.int .i64 1, .int .i64 1] ∧ H' = []) := by
 refine Spec.of (E := [(0, .int .i64 4)]) Tryz.func182 rfl (by kernel_rfl) Tryz.ntmps182 rfl rfl (fun w => ?_)
 refine WC_seq (WC_region ?_)
 refine WL_do rfl rfl rfl (D_alloc rfl zv296) ?_
 rintro _ _ ⟨b1, rfl, rfl⟩
 refine WL_nil (WQ_code (WC_seq (WC_region ?_)))
 refine WL_val rfl rfl rfl (R_build rfl zv296 pl296 rfl rfl) ?_
 refine WL_val rfl rfl rfl (R_build rfl zv296 pl296 rfl rfl) ?_
 refine WL_val rfl rfl rfl (R_build rfl zv296 pl296 rfl rfl) ?_
 refine WL_val rfl rfl rfl (R_build rfl zv296 pl296 rfl rfl) ?_
 refine WL_val rfl rfl rfl (R_build rfl zv296 pl296 rfl rfl) ?_
 refine WL_val rfl rfl rfl (R_buildArr rfl Tryz.underlying321 Tryz.sizeOf296 zv321 rfl rfl) ?_
 refine WLa rfl ?_
 refine WL_val rfl rfl rfl (R_indexArrA (vs := [_, _]) rfl Tryz.underlying321 ag296 rfl rfl (by decide) rfl (atZ)) ?_
 refine WL_do0 rfl rfl (D_store (vs := [_, _]) rfl Tryz.sizeOf296 rfl rfl rfl rfl rfl (plZ) (Nat.le_of_ble_eq_true rfl)) ?_
 rintro _ _ rfl
 refine WL_nil (WQ_code (WC_ret ?_))
 refine WQ_ret rfl rfl (.cons (.cell (vs := [_, _]) rfl ag296 (mmZ) rfl (atZ)) .nil) rfl (by
   exact ⟨rfl, rfl⟩) (pqZ)
theorem of_ok {k fr to : Int} (h : OfP k fr to) : Spec Tryz.prog 182 [.int .i64 k] [] (fun r H' => r = .agg #[.int .i64 fr, .int .i64 to] ∧ H' = []) := by
 rcases h with ⟨rfl, rfl, rfl⟩ | ⟨rfl, rfl, rfl⟩ | ⟨rfl, rfl, rfl⟩ | ⟨rfl, rfl, rfl⟩ | ⟨rfl, rfl, rfl⟩
 ·exact of0
 ·exact of1
 ·exact of2
 ·exact of3
 ·exact of4
theorem check_ok (p pe pq : Nat) (S : List (Int × Nat)) (c : Nat) (tl : List Value) (i : Int) : Spec Tryz.prog 162 [ptrQ p, .int .i64 i] (tR p pe pq S c tl) (fun r H' => r = .int .i64 (if i < 0 ∨ (S.length : Int) ≤ i then 2 else 0) ∧ H' = tR p pe pq S c tl) := by
 refine Spec.of (E := [(0, ptrQ p), (1, .int .i64 i)]) Tryz.func162 rfl (by kernel_rfl) Tryz.ntmps162 rfl rfl (fun w => ?_)
 refine WC_seq (WC_region (WLa rfl (WL_nil (WQ_code (WC_seq (WC_block (WC_seq (WC_region (WLa rfl ?_)))))))))
 refine WL_val rfl rfl rfl (R_ptrEqNil rfl Tryz.underlying148 rfl) ?_
 refine WLa rfl (WLa rfl (WLa rfl ?_))
 refine WL_val rfl rfl rfl (R_fieldAddr rfl fa239_1 rfl) ?_
 refine WL_val rfl rfl rfl (R_load rfl sc177 rfl (mmZ) rfl) ?_
 refine WL_val rfl rfl rfl (R_ptrEqNil rfl Tryz.underlying177 rfl) ?_
 refine WLa rfl (WLa rfl (WL_nil (WQ_code ?_)))
 refine WC_F rfl ?_
 refine WC_seq (WC_region (WLa rfl ?_))
 refine WL_val rfl rfl rfl (R_lss rfl rfl rfl) ?_
 refine WLa rfl ?_
 refine WL_splitD (s := 18) rfl (fun c1 => ?_) (fun c1 => ?_)
 ·refine WL_skip rfl rfl rfl ?_
  refine WL_skip rfl rfl rfl ?_
  refine WL_skip rfl rfl rfl ?_
  refine WL_skip rfl rfl rfl ?_
  refine WL_skip rfl rfl rfl ?_
  refine WL_skip rfl rfl rfl ?_
  refine WL_skip rfl rfl rfl ?_
  refine WLa rfl (WLa rfl (WL_nil (WQ_code ?_)))
  refine WC_T rfl ?_
  refine WC_seq (WC_region (WLa rfl (WL_nil (WQ_code (WC_ret ?_)))))
  refine WQ_ret rfl rfl (.cons (.tmp rfl) .nil) rfl (by
    exact ⟨congrArg (Value.int .i64) (by split <;> omega), rfl⟩) (pqZ)
 ·refine WLa rfl (WLa rfl (WLa rfl ?_))
  refine WL_val rfl rfl rfl (R_fieldAddr rfl fa239_0 rfl) ?_
  refine WL_val rfl rfl rfl (R_load rfl sc237 rfl (mmZ) rfl) ?_
  refine WL_val rfl rfl rfl (R_len rfl Tryz.underlying237 rfl) ?_
  refine WL_val rfl rfl rfl (R_geq rfl rfl rfl) ?_
  refine WLa rfl (WLa rfl (WL_nil (WQ_code ?_)))
  refine WC_dec rfl (fun c2 => ?_) (fun c2 => ?_)
  ·refine WC_seq (WC_region (WLa rfl (WL_nil (WQ_code (WC_ret ?_)))))
   refine WQ_ret rfl rfl (.cons (.tmp rfl) .nil) rfl (by
     exact ⟨congrArg (Value.int .i64) (by split <;> omega), rfl⟩) (pqZ)
  ·refine WC_skip (WQ_code (WC_seq (WC_region (WLa rfl (WL_nil (WQ_code (WC_ret ?_)))))))
   refine WQ_ret rfl rfl (.cons (.tmp rfl) .nil) rfl (by
     exact ⟨congrArg (Value.int .i64) (by split <;> omega), rfl⟩) (pqZ)
theorem tnew_bad (m : Int) (h : m < 1 ∨ 64 < m) : Spec Tryz.prog 84 [.int .i64 m] [] (fun r H' => r = .tuple #[.pointer none, .int .i64 2] ∧ H' = []) := by
 refine Spec.of (E := [(0, .int .i64 m)]) Tryz.func84 rfl (by kernel_rfl) Tryz.ntmps84 rfl rfl (fun w => ?_)
 refine WC_seq (WC_region (WLa rfl (WLa rfl (WL_nil (WQ_code (WC_seq (WC_seq (WC_region (WLa rfl ?_)))))))))
 refine WL_val rfl rfl rfl (R_lss rfl rfl rfl) ?_
 refine WLa rfl ?_
 refine WL_splitD (s := 6) rfl (fun c1 => ?_) (fun c1 => ?_)
 ·refine WL_skip rfl rfl rfl ?_
  refine WL_skip rfl rfl rfl ?_
  refine WLa rfl (WL_nil (WQ_code ?_))
  refine WC_T rfl ?_
  refine WC_seq (WC_region (WLa rfl (WLa rfl (WL_nil (WQ_code (WC_ret ?_))))))
  refine WQ_ret rfl rfl (.cons (.tmp rfl) (.cons (.tmp rfl) .nil)) rfl (by
    exact ⟨rfl, rfl⟩) (pqZ)
 ·refine WLa rfl ?_
  refine WL_val rfl rfl rfl (R_gtr rfl rfl rfl) ?_
  refine WLa rfl (WL_nil (WQ_code ?_))
  refine WC_dec rfl (fun c2 => ?_) (fun c2 => ?_)
  ·refine WC_seq (WC_region (WLa rfl (WLa rfl (WL_nil (WQ_code (WC_ret ?_))))))
   refine WQ_ret rfl rfl (.cons (.tmp rfl) (.cons (.tmp rfl) .nil)) rfl (by
     exact ⟨rfl, rfl⟩) (pqZ)
  ·exfalso; revert h; simp_all <;> omega
def idle (m : Nat) : List (Int × Nat) := List.replicate m (0, 0)
theorem tnew_ok (m : Nat) (h1 : 1 ≤ m) (h2 : m ≤ 64) : Spec Tryz.prog 84 [.int .i64 (m : Int)] [] (fun r H' => ∃ p pe pq pm, r = .tuple #[ptrQ p, .int .i64 0] ∧ H' = tH p pe pq pm (idle m) m [] [] 0 #[] 0) := by
 refine Spec.of (E := [(0, .int .i64 (m : Int))]) Tryz.func84 rfl (by kernel_rfl) Tryz.ntmps84 rfl rfl (fun w => ?_)
 refine WC_seq (WC_region (WLa rfl (WLa rfl (WL_nil (WQ_code (WC_seq (WC_seq (WC_region (WLa rfl ?_)))))))))
 refine WL_val rfl rfl rfl (R_lss rfl rfl rfl) ?_
 refine WLa rfl ?_
 refine WL_set (s := 6) (v := .bool false) rfl (by simp; omega) ?_
 refine WLa rfl ?_
 refine WL_val rfl rfl rfl (R_gtr rfl rfl rfl) ?_
 refine WLa rfl (WL_nil (WQ_code ?_))
 refine WC_dF rfl (by omega) ?_
 refine WC_skip (WQ_code (WC_seq ?_))
 refine WC_drawB _ [(0, .q), (2, .n [1]), (1, .b []), (3, .q), (4, .b []), (5, .q), (6, .q)] followsMixed rfl rfl (by kernel_rfl) .all ?_
 refine WB_val rfl rfl rfl rfl (R_move rfl rfl) ?_
 refine WB_do rfl rfl rfl rfl (.cons rfl rfl (B_make (n := m) rfl si237 rfl rfl (by omega) (by omega)) .nil) (fun _ => D_call (qnew_ok) rfl rfl rfl rfl (pqZ)) ?_
 rintro _ _ ⟨_, ⟨pq, pm, rfl, rfl⟩, rfl⟩
 refine ⟨⟨_, pqZ⟩, ?_⟩
 refine WB_birth rfl rfl rfl rfl .nil (B_make (n := m) rfl si237 rfl rfl (by omega) (by omega)) (fun b1 => ?_)
 rw [show (List.replicate m [Value.int .i64 0, .int .u64 0]).flatten = (idle m).flatMap encE ++ [] from by rw [List.append_nil, idle, ← fm_rep]; rfl, show Value.slice (some ⟨b1, 0, none⟩) m m = Value.slice (some ⟨b1, 0, none⟩) (idle m).length m from by rw [idle, List.length_replicate]]
 refine WB_val rfl rfl rfl rfl (R_build rfl zv239 pl239 rfl rfl) ?_
 refine WB_birth rfl rfl rfl rfl .nil (B_box (cs := [_, _]) rfl rfl rfl) (fun b2 => ?_)
 refine WB_val rfl rfl rfl rfl (R_assign rfl rfl) ?_
 refine WB_val rfl rfl rfl rfl (R_assign rfl rfl) ?_
 refine WB_nil (WQ_code (WC_ret ?_))
 refine WQ_ret rfl rfl (.cons (.tmp rfl) (.cons (.tmp rfl) .nil)) rfl (by
   exact ⟨_, b1, pq, pm, rfl, rfl⟩) (pqZ)
theorem tk_idle {m : Nat} (h1 : 1 ≤ m) (h2 : m ≤ 64) : Tk (idle m) [] 0 := by
 refine ⟨by simp [idle]; omega, Qk.empty 0, fun i t h => ?_, fun t v h => (by cases h), fun i x t h => ?_⟩
 ·have := (List.mem_replicate.1 (List.mem_of_getElem? h)).2
  cases this
 ·have := (List.mem_replicate.1 (List.mem_of_getElem? h)).2
  cases this; exact .inl rfl
end Go.Proofs.YtbkdebnkoidicaaGreat
end
section
set_option linter.unusedVariables false
set_option maxRecDepth 20000
namespace Go.Proofs.YtbkdebnkoidicaaGreat
theorem Tk.room {S : List (Int × Nat)} {Q : List (Nat × Int)} {n : Nat} (h : Tk S Q n) : Q.length ≤ 64 := by
 have h1 : (Q.map fun x => x.2.toNat).Nodup := by
  rw [List.Nodup, List.pairwise_map]
  refine (List.Pairwise.and_mem.1 h.qk.ord).imp fun {a b} ⟨ha, hb, hlt⟩ e => ?_
  obtain ⟨i, hi, h1⟩ := h.back a.1 a.2 ha
  obtain ⟨j, hj, h2⟩ := h.back b.1 b.2 hb
  have : i = j := by rw [hi, hj] at e; simpa using e
  subst this
  rw [h1] at h2
  simp only [Option.some.injEq, Prod.mk.injEq, true_and] at h2
  omega
 have h2 := pigeon _ (List.range S.length) h1 (fun k hk => by
  obtain ⟨x, hx, rfl⟩ := List.mem_map.1 hk
  obtain ⟨i, hi, h1⟩ := h.back x.1 x.2 hx
  rw [hi, Int.toNat_natCast]
  exact List.mem_range.2 (List.getElem?_eq_some_iff.1 h1).1)
 rw [List.length_map, List.length_range] at h2
 have := h.len.2
 omega
theorem Tk.only {S : List (Int × Nat)} {A B : List (Nat × Int)} {n t i : Nat} (h : Tk S (A ++ (t, (i : Int)) :: B) n) : ∀ x ∈ A ++ B, x.2 ≠ (i : Int) := fun x hx e => by
 obtain ⟨i', hi', h1⟩ := h.back t i (List.mem_append_right _ (List.mem_cons_self ..))
 obtain rfl : i = i' := by omega
 have hx' : x ∈ A ++ (t, (i : Int)) :: B := by
  rcases List.mem_append.1 hx with hx | hx
  ·exact List.mem_append_left _ hx
  ·exact List.mem_append_right _ (List.mem_cons_of_mem _ hx)
 obtain ⟨j, hj, h2⟩ := h.back x.1 x.2 hx'
 have : j = i := by rw [hj] at e; omega
 subst this
 rw [h1] at h2
 simp only [Option.some.injEq, Prod.mk.injEq, true_and] at h2
 have hn := h.qk.nodup
 have hp := ((List.perm_middle (l₁ := A) (a := (t, (j : Int))) (l₂ := B)).map (fun x : Nat × Int => x.1)).nodup_iff.1 hn
 rw [List.map_cons, List.nodup_cons] at hp
 exact hp.1 (List.mem_map.2 ⟨x, hx, h2.symm⟩)
theorem tk_leave {S : List (Int × Nat)} {A B : List (Nat × Int)} {n t i : Nat} {to : Int} (h : Tk S (A ++ (t, (i : Int)) :: B) n) (hto : to = 0 ∨ to = 2) (u : Nat) : Tk (S.set i (to, u)) (A ++ B) n := by
 have hin : ∀ x ∈ A ++ B, x ∈ A ++ (t, (i : Int)) :: B := fun x hx => by
  rcases List.mem_append.1 hx with hx | hx
  ·exact List.mem_append_left _ hx
  ·exact List.mem_append_right _ (List.mem_cons_of_mem _ hx)
 refine ⟨by rw [List.length_set]; exact h.len, h.qk.rem, fun j t' hj => ?_, fun t' v hv => ?_, fun j x t' hj => ?_⟩
 ·rw [List.getElem?_set] at hj
  split at hj
  ·rename_i e
   split at hj
   ·simp only [Option.some.injEq, Prod.mk.injEq] at hj; omega
   ·cases hj
  ·rename_i e
   have h1 := h.ready j t' hj
   rcases List.mem_append.1 h1 with h1 | h1
   ·exact List.mem_append_left _ h1
   ·rcases List.mem_cons.1 h1 with h1 | h1
    ·simp only [Prod.mk.injEq] at h1; omega
    ·exact List.mem_append_right _ h1
 ·obtain ⟨j, hj, h1⟩ := h.back t' v (hin _ hv)
  have hne := h.only _ hv
  refine ⟨j, hj, ?_⟩
  rw [List.getElem?_set, if_neg (fun e => hne (by rw [hj, e]))]
  exact h1
 ·rw [List.getElem?_set] at hj
  split at hj
  ·split at hj
   ·simp only [Option.some.injEq, Prod.mk.injEq] at hj; omega
   ·cases hj
  ·exact h.stt j x t' hj
theorem tk_enter {S : List (Int × Nat)} {Q : List (Nat × Int)} {n i : Nat} {x : Int} {t : Nat} (h : Tk S Q n) (hi : S[i]? = some (x, t)) (hx : x ≠ 1) : Tk (S.set i (1, n + 1)) (Q ++ [(n + 1, (i : Int))]) (n + 1) := by
 have hlt := (List.getElem?_eq_some_iff.1 hi).1
 refine ⟨by rw [List.length_set]; exact h.len, h.qk.push _, fun j t' hj => ?_, fun t' v hv => ?_, fun j y t' hj => ?_⟩
 ·rw [List.getElem?_set] at hj
  split at hj
  ·rename_i e
   subst e
   simp only [Option.some.injEq, Prod.mk.injEq, true_and] at hj
   subst hj
   exact List.mem_append_right _ (List.mem_cons_self ..)
  ·exact List.mem_append_left _ (h.ready j t' hj)
 ·rcases List.mem_append.1 hv with hv | hv
  ·obtain ⟨j, hj, h1⟩ := h.back t' v hv
   refine ⟨j, hj, ?_⟩
   rw [List.getElem?_set, if_neg (fun e => ?_)]
   ·exact h1
   ·subst e
    rw [hi] at h1
    simp only [Option.some.injEq, Prod.mk.injEq] at h1
    exact hx h1.1
  ·rw [List.mem_singleton] at hv
   simp only [Prod.mk.injEq] at hv
   obtain ⟨rfl, rfl⟩ := hv
   exact ⟨i, rfl, by rw [List.getElem?_set, if_pos rfl, if_pos hlt]⟩
 ·rw [List.getElem?_set] at hj
  split at hj
  ·simp only [Option.some.injEq, Prod.mk.injEq] at hj; omega
  ·exact h.stt j y t' hj
theorem vals_rem {S : List (Int × Nat)} {A B : List (Nat × Int)} {n t i : Nat} (h : Tk S (A ++ (t, (i : Int)) :: B) n) : ((A ++ (t, (i : Int)) :: B).map (·.2)).filter (fun v => decide (v ≠ (i : Int))) = (A ++ B).map (·.2) := by
 rw [List.map_append, List.map_cons, List.filter_append, List.filter_cons_of_neg (by simp), ← List.filter_append, ← List.map_append]
 exact List.filter_eq_self.2 fun v hv => by
  obtain ⟨x, hx, rfl⟩ := List.mem_map.1 hv
  simpa using h.only x hx
theorem vals_same {S : List (Int × Nat)} {Q : List (Nat × Int)} {n i : Nat} {x : Int} {t : Nat} (h : Tk S Q n) (hi : S[i]? = some (x, t)) (hx : x ≠ 1) : (Q.map (·.2)).filter (fun v => decide (v ≠ (i : Int))) = Q.map (·.2) :=
 List.filter_eq_self.2 fun v hv => by
  obtain ⟨y, hy, rfl⟩ := List.mem_map.1 hv
  obtain ⟨j, hj, h1⟩ := h.back y.1 y.2 hy
  simp only [decide_eq_true_eq]
  intro e
  have : j = i := by rw [hj] at e; omega
  subst this
  rw [hi] at h1
  simp only [Option.some.injEq, Prod.mk.injEq] at h1
  exact hx h1.1
def DoQ (S : List (Int × Nat)) (Q : List (Nat × Int)) (n : Nat) (fr to task e : Int) (S' : List (Int × Nat)) (Q' : List (Nat × Int)) (n' : Nat) : Prop :=
 n' ≤ n + 1 ∧ S'.length = S.length ∧ Tk S' Q' n' ∧
 (((task < 0 ∨ (S.length : Int) ≤ task) ∧ e = 2 ∧ S' = S ∧ Q' = Q) ∨
  ∃ (i : Nat) (x : Int) (t : Nat), task = (i : Int) ∧ S[i]? = some (x, t) ∧ ((x ≠ fr ∧ e = 8 ∧ S' = S ∧ Q' = Q) ∨
   (x = fr ∧ e = 0 ∧ S'.map (·.1) = (S.map (·.1)).set i to ∧ Q'.map (·.2) = (Q.map (·.2)).filter (fun v => decide (v ≠ (i : Int))) ++ (if to = 1 then [(i : Int)] else []))))
end Go.Proofs.YtbkdebnkoidicaaGreat
end
section
set_option linter.unusedVariables false
set_option maxRecDepth 20000
set_option maxHeartbeats 1000000
namespace Go.Proofs.YtbkdebnkoidicaaGreat
theorem lt_of3 {α : Type} {T : List α} {i : Nat} {x : α} (h : T[i]? = some x) : i < T.length := (List.getElem?_eq_some_iff.1 h).1
theorem do_ok (p pe pq pm : Nat) (S : List (Int × Nat)) (c : Nat) (tl : List Value) (Q : List (Nat × Int)) (n : Nat) (es : Array MapEntry) (mc : Nat) (hk : Tk S Q n) (hM : Mp (.int .u64) ekQ evQ es (nds 0 0 Q)) (hn : n < 1000000) (k fr to : Int) (hof : OfP k fr to) (i : Int) : Spec Tryz.prog 147 [ptrQ p, .int .i64 i, .int .i64 k] (tH p pe pq pm S c tl Q n es mc)
  (fun r H' => ∃ e S' Q' n' es' mc' tl', r = .int .i64 e ∧ H' = tH p pe pq pm S' c tl' Q' n' es' mc' ∧ Mp (.int .u64) ekQ evQ es' (nds 0 0 Q') ∧ DoQ S Q n fr to i e S' Q' n') := by
 have hlen := hk.len
 have hroom := hk.room
 refine Spec.of (E := [(0, ptrQ p), (1, .int .i64 i), (2, .int .i64 k)]) Tryz.func147 rfl (by kernel_rfl) Tryz.ntmps147 rfl rfl (fun w => ?_)
 refine WC_seq (WC_region (WLa rfl (WL_nil (WQ_code (WC_seq (WC_seq (WC_region (WLa rfl (WLa rfl ?_)))))))))
 refine WL_do rfl rfl rfl (D_call (check_ok p pe pq S c tl i) rfl rfl rfl rfl (pqZ)) ?_
 rintro _ _ ⟨_, ⟨rfl, rfl⟩, rfl⟩
 refine WLa rfl (WL_nil (WQ_code (WC_seq (WC_region (WLa rfl ?_)))))
 refine WL_val rfl rfl rfl (R_neq rfl rfl rfl) ?_
 refine WL_nil (WQ_code ?_)
 refine WC_dec rfl (fun c1 => ?_) (fun c1 => ?_)
 ·have hr : i < 0 ∨ (S.length : Int) ≤ i := by by_cases h9 : i < 0 ∨ (S.length : Int) ≤ i; exact h9; exact absurd (if_neg h9) c1
  refine WC_seq (WC_region (WLa rfl (WLa rfl (WL_nil (WQ_code (WC_ret ?_))))))
  refine WQ_ret rfl rfl (.cons (.tmp rfl) .nil) rfl (by
    exact ⟨_, S, Q, n, es, mc, tl, rfl, rfl, hM, by omega, rfl, hk, .inl ⟨hr, if_pos hr, rfl, rfl⟩⟩) (pqZ)
 ·have hr : ¬ (i < 0 ∨ (S.length : Int) ≤ i) := fun h9 => c1 (by rw [if_pos h9]; decide)
  obtain ⟨i, rfl⟩ := Int.eq_ofNat_of_zero_le (show 0 ≤ i by omega)
  obtain ⟨⟨x, t⟩, hi⟩ := exE (T := S) (i := i) (by omega)
  refine WC_skip (WQ_code (WC_seq ?_))
  refine WC_drawBR [] [(0, .q), (1, .q), (2, .q), (3, .q), (4, .q), (5, .q), (6, .q), (7, .n [8]), (8, .b []), (9, .q), (10, .n [])] followsMixed rfl rfl (by kernel_rfl) (pqZ) ?_
  refine WB_val rfl rfl rfl rfl (R_move rfl rfl) ?_
  refine WB_val rfl rfl rfl rfl (R_nilCheck rfl rfl) ?_
  refine WB_val rfl rfl rfl rfl (R_fieldAddr rfl fa239_0 rfl) ?_
  refine WB_val rfl rfl rfl rfl (R_load rfl sc237 rfl (mmZ) rfl) ?_
  refine WB_val rfl rfl rfl rfl (R_move rfl rfl) ?_
  refine WB_val rfl rfl rfl rfl (R_indexAddrN rfl Tryz.underlying237 Tryz.sizeOf269 rfl rfl (by omega)) ?_
  refine WB_val rfl rfl rfl rfl (R_move rfl rfl) ?_
  refine WB_do rfl rfl rfl rfl (.cons rfl rfl (B_alloc rfl zv296) .nil) (fun _ => D_call (of_ok hof) rfl rfl rfl rfl (pqZ)) ?_
  rintro _ _ ⟨_, ⟨rfl, rfl⟩, rfl⟩
  refine ⟨⟨_, pqZ⟩, ?_⟩
  refine WB_birth rfl rfl rfl rfl .nil (B_alloc rfl zv296) (fun b1 => ?_)
  refine WB_val rfl rfl rfl rfl (R_assign rfl rfl) ?_
  refine WB_do0 rfl rfl rfl .nil (fun _ => D_store (vs := [_, _]) rfl Tryz.sizeOf296 rfl rfl rfl rfl rfl (plZ) (Nat.le_of_ble_eq_true rfl)) ?_
  rintro _ _ rfl
  refine ⟨⟨_, pqZ⟩, ?_⟩
  refine WB_nil (WQ_code (WC_seq (WC_seq ?_)))
  refine WC_draw _ [(0, true), (1, true), (2, true), (3, true), (4, true), (5, true), (6, true), (7, true), (8, true)] followsMixed rfl rfl (by kernel_rfl) .all ?_
  refine WMa rfl (WMa rfl ?_)
  refine WM_val rfl rfl rfl rfl (R_fieldAddr rfl fa269_0 rfl) ?_
  refine WM_val rfl rfl rfl rfl (R_load rfl sc64 rfl (mmZ) (fm_get0 encE2 hi (j := 0) (by omega))) ?_
  refine WM_val rfl rfl rfl rfl (R_fieldAddr rfl fa296_1 rfl) ?_
  refine WM_val rfl rfl rfl rfl (R_load rfl sc64 rfl (mmZ) rfl) ?_
  refine WM_val rfl rfl rfl rfl (R_build rfl zv296 pl296 rfl rfl) ?_
  refine WM_val rfl rfl rfl rfl (R_loadA (vs := [_, _]) rfl ag296 rfl (mmZ) rfl (atZ)) ?_
  refine WM_val rfl rfl rfl rfl (R_sne296 rfl rfl rfl rfl) ?_
  refine WM_nil (WQ_code ?_)
  refine WC_dec rfl (fun c2 => ?_) (fun c2 => ?_)
  ·have hxf : x ≠ fr := fun e9 => c2 ⟨e9, rfl⟩
   refine WC_seq (WC_region (WLa rfl (WL_nil (WQ_code (WC_ret ?_)))))
   refine WQ_ret rfl rfl (.cons (.tmp rfl) .nil) rfl (by
     exact ⟨_, S, Q, n, es, mc, tl, rfl, rfl, hM, by omega, rfl, hk, .inr ⟨i, x, t, rfl, hi, .inl ⟨hxf, rfl, rfl, rfl⟩⟩⟩) (pqZ)
  ·have hxf : x = fr := (Decidable.not_not.1 c2).1
   refine WC_skip (WQ_code (WC_seq (WC_seq (WC_region (WLa rfl (WLa rfl ?_))))))
   refine WL_val rfl rfl rfl (R_fieldAddr rfl fa269_0 rfl) ?_
   refine WL_val rfl rfl rfl (R_load rfl sc64 rfl (mmZ) (fm_get0 encE2 hi (j := 0) (by omega))) ?_
   refine WL_val rfl rfl rfl (R_eql rfl rfl rfl) ?_
   refine WL_nil (WQ_code ?_)
   refine WC_dec rfl (fun c3 => ?_) (fun c3 => ?_)
   ·have hx1 : x = 1 := c3
    obtain ⟨A, B, rfl⟩ := List.append_of_mem (hk.ready i t (by rw [hi, hx1]))
    refine WC_drawR [⟨some pq, _⟩, ⟨some pm, _⟩] [(0, true), (1, true), (2, true), (3, true), (4, true), (5, true), (6, true), (7, true), (8, false)] followsMixed rfl rfl (by kernel_rfl) (pqZ) ?_
    refine WMa rfl (WMa rfl ?_)
    refine WM_val rfl rfl rfl rfl (R_fieldAddr rfl fa239_1 rfl) ?_
    refine WM_val rfl rfl rfl rfl (R_load rfl sc177 rfl (mmZ) rfl) ?_
    refine WMa rfl (WMa rfl ?_)
    refine WM_val rfl rfl rfl rfl (R_fieldAddr rfl fa269_1 rfl) ?_
    refine WM_val rfl rfl rfl rfl (R_load rfl sc27 rfl (mmZ) (fm_get0 encE2 hi (j := 1) (by omega))) ?_
    refine WM_do rfl rfl rfl rfl (D_call (qrem_ok pq pm A B t (i : Int) n es mc hk.qk hM) rfl rfl rfl rfl (pqZ)) ?_
    rintro _ _ ⟨_, ⟨es1, mc1, rfl, rfl, hM1⟩, rfl⟩
    refine ⟨⟨_, pqZ⟩, ?_⟩
    refine WM_nil (WQ_code (WC_seq (WC_region (WLa rfl ?_))))
    refine WL_val rfl rfl rfl (R_fieldAddr rfl fa296_1 rfl) ?_
    refine WL_val rfl rfl rfl (R_load rfl sc64 rfl (mmZ) rfl) ?_
    refine WL_val rfl rfl rfl (R_build rfl zv269 pl269 rfl rfl) ?_
    refine WLa rfl ?_
    refine WL_do0 rfl rfl (D_store (vs := [_, _]) rfl Tryz.sizeOf269 rfl rfl rfl rfl rfl (plZ) (by exact fm_room0 encE2 (lt_of3 hi) (j := 0) (by omega))) ?_
    rintro _ _ rfl
    have hput := fm_put0 encE2 (to, 0) hi (j := 0) (vs := [.int .i64 to, .int .u64 0]) (by simp) rfl (tl := tl)
    rw [Nat.add_zero] at hput
    rw [hput, show S.length = (S.set i (to, 0)).length from List.length_set.symm]
    refine WL_nil (WQ_code (WC_seq (WC_seq (WC_region ?_))))
    refine WL_val rfl rfl rfl (R_fieldAddr rfl fa296_1 rfl) ?_
    refine WL_val rfl rfl rfl (R_load rfl sc64 rfl (mmZ) rfl) ?_
    refine WL_val rfl rfl rfl (R_eql rfl rfl rfl) ?_
    refine WL_nil (WQ_code ?_)
    refine WC_dec rfl (fun c4 => ?_) (fun c4 => ?_)
    ·have hto : to = 1 := c4
     have hk2 := tk_enter (i := i) (x := 0) (t := 0) (tk_leave hk (.inl rfl) 0) (by simp [lt_of3 hi]) (by decide)
     rw [List.set_set] at hk2
     refine WC_region (WLa rfl (WLa rfl (WLa rfl ?_)))
     refine WL_val rfl rfl rfl (R_fieldAddr rfl fa239_1 rfl) ?_
     refine WL_val rfl rfl rfl (R_load rfl sc177 rfl (mmZ) rfl) ?_
     refine WLa rfl ?_
     refine WL_do rfl rfl rfl (D_call (qpush_ok pq pm (A ++ B) n es1 mc1 hk.qk.rem hM1 (by simp at hroom ⊢; omega) (by omega) (i : Int)) rfl rfl rfl rfl (pqZ)) ?_
     rintro _ _ ⟨_, ⟨es2, mc2, rfl, rfl, hM2⟩, rfl⟩
     refine WLa rfl (WLa rfl (WLa rfl (WLa rfl ?_)))
     refine WL_val rfl rfl rfl (R_fieldAddr rfl fa269_1 rfl) ?_
     refine WL_do0 rfl rfl (D_store (vs := [_]) rfl Tryz.sizeOf27 rfl rfl rfl rfl rfl (plZ) (by exact fm_room0 encE2 (by rw [List.length_set]; exact lt_of3 hi) (j := 1) (by omega))) ?_
     rintro _ _ rfl
     have hput2 := fm_put0 encE2 (to, n + 1) (show (S.set i (to, 0))[i]? = some (to, 0) by simp [lt_of3 hi]) (j := 1) (vs := [.int .u64 ((n + 1 : Nat) : Int)]) (by simp) rfl (tl := tl)
     rw [List.set_set] at hput2
     rw [hput2, hto, show (S.set i (1, 0)).length = (S.set i (1, n + 1)).length from by rw [List.length_set, List.length_set]]
     refine WL_nil (WQ_code (WC_seq (WC_region (WLa rfl (WL_nil (WQ_code (WC_ret ?_)))))))
     refine WQ_ret rfl rfl (.cons (.tmp rfl) .nil) rfl (by
       exact ⟨_, S.set i (1, n + 1), (A ++ B) ++ [(n + 1, (i : Int))], n + 1, es2, mc2, tl, rfl, rfl, hM2, Nat.le_refl _, List.length_set, hk2, .inr ⟨i, x, t, rfl, hi, .inr ⟨hxf, rfl, by rw [List.map_set], by rw [List.map_append, vals_rem hk, if_pos rfl]; rfl⟩⟩⟩) (pqZ)
    ·have hto : to ≠ 1 := c4
     have hk2 := tk_leave (to := to) hk (by rcases hof with h | h | h | h | h <;> omega) 0
     refine WC_skip (WQ_code (WC_seq (WC_region (WLa rfl (WL_nil (WQ_code (WC_ret ?_)))))))
     refine WQ_ret rfl rfl (.cons (.tmp rfl) .nil) rfl (by
       exact ⟨_, S.set i (to, 0), A ++ B, n, es1, mc1, tl, rfl, rfl, hM1, by omega, List.length_set, hk2, .inr ⟨i, x, t, rfl, hi, .inr ⟨hxf, rfl, by rw [List.map_set], by rw [vals_rem hk, if_neg hto, List.append_nil]⟩⟩⟩) (pqZ)
   ·have hx1 : x ≠ 1 := c3
    refine WC_skip (WQ_code (WC_seq (WC_region (WLa rfl ?_))))
    refine WL_val rfl rfl rfl (R_fieldAddr rfl fa296_1 rfl) ?_
    refine WL_val rfl rfl rfl (R_load rfl sc64 rfl (mmZ) rfl) ?_
    refine WL_val rfl rfl rfl (R_build rfl zv269 pl269 rfl rfl) ?_
    refine WLa rfl ?_
    refine WL_do0 rfl rfl (D_store (vs := [_, _]) rfl Tryz.sizeOf269 rfl rfl rfl rfl rfl (plZ) (by exact fm_room0 encE2 (lt_of3 hi) (j := 0) (by omega))) ?_
    rintro _ _ rfl
    have hput := fm_put0 encE2 (to, 0) hi (j := 0) (vs := [.int .i64 to, .int .u64 0]) (by simp) rfl (tl := tl)
    rw [Nat.add_zero] at hput
    rw [hput, show S.length = (S.set i (to, 0)).length from List.length_set.symm]
    refine WL_nil (WQ_code (WC_seq (WC_seq (WC_region ?_))))
    refine WL_val rfl rfl rfl (R_fieldAddr rfl fa296_1 rfl) ?_
    refine WL_val rfl rfl rfl (R_load rfl sc64 rfl (mmZ) rfl) ?_
    refine WL_val rfl rfl rfl (R_eql rfl rfl rfl) ?_
    refine WL_nil (WQ_code ?_)
    refine WC_dec rfl (fun c5 => ?_) (fun c5 => ?_)
    ·have hto : to = 1 := c5
     have hk2 := tk_enter hk hi hx1
     refine WC_region (WLa rfl (WLa rfl (WLa rfl ?_)))
     refine WL_val rfl rfl rfl (R_fieldAddr rfl fa239_1 rfl) ?_
     refine WL_val rfl rfl rfl (R_load rfl sc177 rfl (mmZ) rfl) ?_
     refine WLa rfl ?_
     refine WL_do rfl rfl rfl (D_call (qpush_ok pq pm Q n es mc hk.qk hM (by omega) (by omega) (i : Int)) rfl rfl rfl rfl (pqZ)) ?_
     rintro _ _ ⟨_, ⟨es2, mc2, rfl, rfl, hM2⟩, rfl⟩
     refine WLa rfl (WLa rfl (WLa rfl (WLa rfl ?_)))
     refine WL_val rfl rfl rfl (R_fieldAddr rfl fa269_1 rfl) ?_
     refine WL_do0 rfl rfl (D_store (vs := [_]) rfl Tryz.sizeOf27 rfl rfl rfl rfl rfl (plZ) (by exact fm_room0 encE2 (by rw [List.length_set]; exact lt_of3 hi) (j := 1) (by omega))) ?_
     rintro _ _ rfl
     have hput2 := fm_put0 encE2 (to, n + 1) (show (S.set i (to, 0))[i]? = some (to, 0) by simp [lt_of3 hi]) (j := 1) (vs := [.int .u64 ((n + 1 : Nat) : Int)]) (by simp) rfl (tl := tl)
     rw [List.set_set] at hput2
     rw [hput2, hto, show (S.set i (1, 0)).length = (S.set i (1, n + 1)).length from by rw [List.length_set, List.length_set]]
     refine WL_nil (WQ_code (WC_seq (WC_region (WLa rfl (WL_nil (WQ_code (WC_ret ?_)))))))
     refine WQ_ret rfl rfl (.cons (.tmp rfl) .nil) rfl (by
       exact ⟨_, S.set i (1, n + 1), Q ++ [(n + 1, (i : Int))], n + 1, es2, mc2, tl, rfl, rfl, hM2, Nat.le_refl _, List.length_set, hk2, .inr ⟨i, x, t, rfl, hi, .inr ⟨hxf, rfl, by rw [List.map_set], by rw [List.map_append, vals_same hk hi hx1, if_pos rfl]; rfl⟩⟩⟩) (pqZ)
    ·exfalso; have hto : to ≠ 1 := c5; rcases hof with h | h | h | h | h <;> omega
end Go.Proofs.YtbkdebnkoidicaaGreat
end
section
set_option linter.unusedVariables false
set_option maxRecDepth 20000
set_option maxHeartbeats 1000000
namespace Go.Proofs.YtbkdebnkoidicaaGreat
theorem start_ok (p pe pq pm : Nat) (S : List (Int × Nat)) (c : Nat) (tl : List Value) (Q : List (Nat × Int)) (n : Nat) (es : Array MapEntry) (mc : Nat) (hk : Tk S Q n) (hM : Mp (.int .u64) ekQ evQ es (nds 0 0 Q)) (hn : n < 1000000) (i : Int) : Spec Tryz.prog 92 [ptrQ p, .int .i64 i] (tH p pe pq pm S c tl Q n es mc)
  (fun r H' => ∃ e S' Q' n' es' mc' tl', r = .int .i64 e ∧ H' = tH p pe pq pm S' c tl' Q' n' es' mc' ∧ Mp (.int .u64) ekQ evQ es' (nds 0 0 Q') ∧ DoQ S Q n 0 1 i e S' Q' n') := by
 refine Spec.of (E := [(0, ptrQ p), (1, .int .i64 i)]) Tryz.func92 rfl (by kernel_rfl) Tryz.ntmps92 rfl rfl (fun w => ?_)
 refine WC_seq (WC_region (WLa rfl (WL_nil (WQ_code (WC_seq (WC_region (WLa rfl (WLa rfl ?_))))))))
 refine WL_do rfl rfl rfl (D_call (do_ok p pe pq pm S c tl Q n es mc hk hM hn 0 0 1 (by decide) i) rfl rfl rfl rfl (pqZ)) ?_
 rintro _ _ ⟨_, ⟨e, S', Q', n', es', mc', tl', rfl, rfl, hM', hd⟩, rfl⟩
 refine WLa rfl (WL_nil (WQ_code (WC_ret ?_)))
 refine WQ_ret rfl rfl (.cons (.tmp rfl) .nil) rfl (by
   exact ⟨e, S', Q', n', es', mc', tl', rfl, rfl, hM', hd⟩) (pqZ)
theorem park_ok (p pe pq pm : Nat) (S : List (Int × Nat)) (c : Nat) (tl : List Value) (Q : List (Nat × Int)) (n : Nat) (es : Array MapEntry) (mc : Nat) (hk : Tk S Q n) (hM : Mp (.int .u64) ekQ evQ es (nds 0 0 Q)) (hn : n < 1000000) (i : Int) : Spec Tryz.prog 96 [ptrQ p, .int .i64 i] (tH p pe pq pm S c tl Q n es mc)
  (fun r H' => ∃ e S' Q' n' es' mc' tl', r = .int .i64 e ∧ H' = tH p pe pq pm S' c tl' Q' n' es' mc' ∧ Mp (.int .u64) ekQ evQ es' (nds 0 0 Q') ∧ DoQ S Q n 1 2 i e S' Q' n') := by
 refine Spec.of (E := [(0, ptrQ p), (1, .int .i64 i)]) Tryz.func96 rfl (by kernel_rfl) Tryz.ntmps96 rfl rfl (fun w => ?_)
 refine WC_seq (WC_region (WLa rfl (WL_nil (WQ_code (WC_seq (WC_region (WLa rfl (WLa rfl ?_))))))))
 refine WL_do rfl rfl rfl (D_call (do_ok p pe pq pm S c tl Q n es mc hk hM hn 1 1 2 (by decide) i) rfl rfl rfl rfl (pqZ)) ?_
 rintro _ _ ⟨_, ⟨e, S', Q', n', es', mc', tl', rfl, rfl, hM', hd⟩, rfl⟩
 refine WLa rfl (WL_nil (WQ_code (WC_ret ?_)))
 refine WQ_ret rfl rfl (.cons (.tmp rfl) .nil) rfl (by
   exact ⟨e, S', Q', n', es', mc', tl', rfl, rfl, hM', hd⟩) (pqZ)
theorem wake_ok (p pe pq pm : Nat) (S : List (Int × Nat)) (c : Nat) (tl : List Value) (Q : List (Nat × Int)) (n : Nat) (es : Array MapEntry) (mc : Nat) (hk : Tk S Q n) (hM : Mp (.int .u64) ekQ evQ es (nds 0 0 Q)) (hn : n < 1000000) (i : Int) : Spec Tryz.prog 161 [ptrQ p, .int .i64 i] (tH p pe pq pm S c tl Q n es mc)
  (fun r H' => ∃ e S' Q' n' es' mc' tl', r = .int .i64 e ∧ H' = tH p pe pq pm S' c tl' Q' n' es' mc' ∧ Mp (.int .u64) ekQ evQ es' (nds 0 0 Q') ∧ DoQ S Q n 2 1 i e S' Q' n') := by
 refine Spec.of (E := [(0, ptrQ p), (1, .int .i64 i)]) Tryz.func161 rfl (by kernel_rfl) Tryz.ntmps161 rfl rfl (fun w => ?_)
 refine WC_seq (WC_region (WLa rfl (WL_nil (WQ_code (WC_seq (WC_region (WLa rfl (WLa rfl ?_))))))))
 refine WL_do rfl rfl rfl (D_call (do_ok p pe pq pm S c tl Q n es mc hk hM hn 2 2 1 (by decide) i) rfl rfl rfl rfl (pqZ)) ?_
 rintro _ _ ⟨_, ⟨e, S', Q', n', es', mc', tl', rfl, rfl, hM', hd⟩, rfl⟩
 refine WLa rfl (WL_nil (WQ_code (WC_ret ?_)))
 refine WQ_ret rfl rfl (.cons (.tmp rfl) .nil) rfl (by
   exact ⟨e, S', Q', n', es', mc', tl', rfl, rfl, hM', hd⟩) (pqZ)
theorem finish_ok (p pe pq pm : Nat) (S : List (Int × Nat)) (c : Nat) (tl : List Value) (Q : List (Nat × Int)) (n : Nat) (es : Array MapEntry) (mc : Nat) (hk : Tk S Q n) (hM : Mp (.int .u64) ekQ evQ es (nds 0 0 Q)) (hn : n < 1000000) (i : Int) : Spec Tryz.prog 116 [ptrQ p, .int .i64 i] (tH p pe pq pm S c tl Q n es mc)
  (fun r H' => ∃ e S' Q' n' es' mc' tl', r = .int .i64 e ∧ H' = tH p pe pq pm S' c tl' Q' n' es' mc' ∧ Mp (.int .u64) ekQ evQ es' (nds 0 0 Q') ∧ DoQ S Q n 1 0 i e S' Q' n') := by
 refine Spec.of (E := [(0, ptrQ p), (1, .int .i64 i)]) Tryz.func116 rfl (by kernel_rfl) Tryz.ntmps116 rfl rfl (fun w => ?_)
 refine WC_seq (WC_region (WLa rfl (WL_nil (WQ_code (WC_seq (WC_region (WLa rfl (WLa rfl ?_))))))))
 refine WL_do rfl rfl rfl (D_call (do_ok p pe pq pm S c tl Q n es mc hk hM hn 3 1 0 (by decide) i) rfl rfl rfl rfl (pqZ)) ?_
 rintro _ _ ⟨_, ⟨e, S', Q', n', es', mc', tl', rfl, rfl, hM', hd⟩, rfl⟩
 refine WLa rfl (WL_nil (WQ_code (WC_ret ?_)))
 refine WQ_ret rfl rfl (.cons (.tmp rfl) .nil) rfl (by
   exact ⟨e, S', Q', n', es', mc', tl', rfl, rfl, hM', hd⟩) (pqZ)
theorem turn_ok (p pe pq pm : Nat) (S : List (Int × Nat)) (c : Nat) (tl : List Value) (Q : List (Nat × Int)) (n : Nat) (es : Array MapEntry) (mc : Nat) (hk : Tk S Q n) (hM : Mp (.int .u64) ekQ evQ es (nds 0 0 Q)) (hn : n < 1000000) (i : Int) : Spec Tryz.prog 117 [ptrQ p, .int .i64 i] (tH p pe pq pm S c tl Q n es mc)
  (fun r H' => ∃ e S' Q' n' es' mc' tl', r = .int .i64 e ∧ H' = tH p pe pq pm S' c tl' Q' n' es' mc' ∧ Mp (.int .u64) ekQ evQ es' (nds 0 0 Q') ∧ DoQ S Q n 1 1 i e S' Q' n') := by
 refine Spec.of (E := [(0, ptrQ p), (1, .int .i64 i)]) Tryz.func117 rfl (by kernel_rfl) Tryz.ntmps117 rfl rfl (fun w => ?_)
 refine WC_seq (WC_region (WLa rfl (WL_nil (WQ_code (WC_seq (WC_region (WLa rfl (WLa rfl ?_))))))))
 refine WL_do rfl rfl rfl (D_call (do_ok p pe pq pm S c tl Q n es mc hk hM hn 4 1 1 (by decide) i) rfl rfl rfl rfl (pqZ)) ?_
 rintro _ _ ⟨_, ⟨e, S', Q', n', es', mc', tl', rfl, rfl, hM', hd⟩, rfl⟩
 refine WLa rfl (WL_nil (WQ_code (WC_ret ?_)))
 refine WQ_ret rfl rfl (.cons (.tmp rfl) .nil) rfl (by
   exact ⟨e, S', Q', n', es', mc', tl', rfl, rfl, hM', hd⟩) (pqZ)
end Go.Proofs.YtbkdebnkoidicaaGreat
end
section
set_option linter.unusedVariables false
set_option maxRecDepth 20000
set_option maxHeartbeats 1000000
namespace Go.Proofs.YtbkdebnkoidicaaGreat
theorem state_ok (p pe pq : Nat) (S : List (Int × Nat)) (c : Nat) (tl : List Value) (hl : S.length ≤ 64) (i : Int) : Spec Tryz.prog 118 [ptrQ p, .int .i64 i] (tR p pe pq S c tl)
  (fun r H' => ∃ s e, r = .tuple #[.int .i64 s, .int .i64 e] ∧ H' = tR p pe pq S c tl ∧ (((i < 0 ∨ (S.length : Int) ≤ i) ∧ s = 0 ∧ e = 2) ∨ ∃ (j : Nat) (t : Nat), i = (j : Int) ∧ S[j]? = some (s, t) ∧ e = 0)) := by
 refine Spec.of (E := [(0, ptrQ p), (1, .int .i64 i)]) Tryz.func118 rfl (by kernel_rfl) Tryz.ntmps118 rfl rfl (fun w => ?_)
 refine WC_seq (WC_region (WLa rfl (WLa rfl (WL_nil (WQ_code (WC_seq (WC_seq (WC_region (WLa rfl (WLa rfl ?_))))))))))
 refine WL_do rfl rfl rfl (D_call (check_ok p pe pq S c tl i) rfl rfl rfl rfl (pqZ)) ?_
 rintro _ _ ⟨_, ⟨rfl, rfl⟩, rfl⟩
 refine WLa rfl (WL_nil (WQ_code (WC_seq (WC_region (WLa rfl ?_)))))
 refine WL_val rfl rfl rfl (R_neq rfl rfl rfl) ?_
 refine WL_nil (WQ_code ?_)
 refine WC_dec rfl (fun c1 => ?_) (fun c1 => ?_)
 ·have hr : i < 0 ∨ (S.length : Int) ≤ i := by by_cases h9 : i < 0 ∨ (S.length : Int) ≤ i; exact h9; exact absurd (if_neg h9) c1
  refine WC_seq (WC_region (WLa rfl (WLa rfl (WLa rfl (WL_nil (WQ_code (WC_ret ?_)))))))
  refine WQ_ret rfl rfl (.cons (.tmp rfl) (.cons (.tmp rfl) .nil)) rfl (by
    exact ⟨_, _, rfl, rfl, .inl ⟨hr, rfl, if_pos hr⟩⟩) (pqZ)
 ·have hr : ¬ (i < 0 ∨ (S.length : Int) ≤ i) := fun h9 => c1 (by rw [if_pos h9]; decide)
  obtain ⟨i, rfl⟩ := Int.eq_ofNat_of_zero_le (show 0 ≤ i by omega)
  obtain ⟨⟨x, t⟩, hi⟩ := exE (T := S) (i := i) (by omega)
  refine WC_skip (WQ_code (WC_seq (WC_region (WLa rfl (WLa rfl ?_)))))
  refine WL_val rfl rfl rfl (R_fieldAddr rfl fa239_0 rfl) ?_
  refine WL_val rfl rfl rfl (R_load rfl sc237 rfl (mmZ) rfl) ?_
  refine WLa rfl ?_
  refine WL_val rfl rfl rfl (R_indexAddrN rfl Tryz.underlying237 Tryz.sizeOf269 rfl rfl (by omega)) ?_
  refine WL_val rfl rfl rfl (R_fieldAddr rfl fa269_0 rfl) ?_
  refine WL_val rfl rfl rfl (R_load rfl sc64 rfl (mmZ) (fm_get0 encE2 hi (j := 0) (by omega))) ?_
  refine WLa rfl (WLa rfl (WL_nil (WQ_code (WC_ret ?_))))
  refine WQ_ret rfl rfl (.cons (.tmp rfl) (.cons (.tmp rfl) .nil)) rfl (by
    exact ⟨x, _, rfl, rfl, .inr ⟨i, t, rfl, hi, rfl⟩⟩) (pqZ)
structure RS where
 l : List Int
 ob : Option Nat
 c : Nat
 tl : List Value
theorem ready_ok (p pe pq pm : Nat) (S : List (Int × Nat)) (c : Nat) (tl : List Value) (Q : List (Nat × Int)) (n : Nat) (es : Array MapEntry) (mc : Nat) (hk : Tk S Q n) (hM : Mp (.int .u64) ekQ evQ es (nds 0 0 Q)) : Spec Tryz.prog 112 [ptrQ p] (tH p pe pq pm S c tl Q n es mc)
  (fun r H' => ∃ ob c' tl', r = slV ob Q.length c' ∧ Own ob Q.length c' 1 (ivs (Q.map (·.2))) tl' ∧ H' = ⟨ob, cl (ivs (Q.map (·.2)) ++ tl') 3⟩ :: (tH p pe pq pm S c tl Q n es mc)) := by
 have hroom := hk.room
 refine Spec.ofM (E := [(0, ptrQ p)]) Tryz.func112 rfl (by kernel_rfl) Tryz.ntmps112 rfl rfl (fun w => ?_)
 refine WC_seq (WC_region (WLa rfl (WL_nil (WQ_code (WC_seq (WC_seq (WC_region (WLa rfl ?_))))))))
 refine WL_val rfl rfl rfl (R_ptrEqNil rfl Tryz.underlying148 rfl) ?_
 refine WL_nil (WQ_code ?_)
 refine WC_F rfl ?_
 refine WC_skip (WQ_code (WC_seq (WC_region ?_)))
 refine WL_do rfl rfl rfl (D_alloc rfl zv34) ?_
 rintro _ _ ⟨b1, rfl, rfl⟩
 refine WL_nil (WQ_code (WC_seq (WC_seq (WC_region (WLa rfl (WLa rfl ?_))))))
 refine WL_val rfl rfl rfl (R_fieldAddr rfl fa239_1 rfl) ?_
 refine WL_val rfl rfl rfl (R_load rfl sc177 rfl (mmZ) rfl) ?_
 refine WL_do rfl rfl rfl (D_call (qall_ok pq pm Q n es mc) rfl rfl rfl rfl (pqZ)) ?_
 rintro _ _ ⟨_, ⟨bc, p2, m2, rfl, rfl⟩, rfl⟩
 refine WL_nil (WQ_code (WC_block ?_))
 refine WC_none 3 ?_
 refine WC_range (G := RS) (GX := Unit) (qiter_ok bc p2 m2 Q n es mc hk.qk hM) rfl rfl (fun _ => rfl) rfl (fun pre g => g.l = pre.map (·.2) ∧ pre.length ≤ Q.length ∧ Own g.ob g.l.length g.c 1 (ivs g.l) g.tl) (fun g => [⟨some b1, cl [slV g.ob g.l.length g.c] 34⟩, ⟨g.ob, cl (ivs g.l ++ g.tl) 3⟩]) (fun _ _ _ => False) (fun _ => []) (⟨[], none, 0, []⟩) (⟨rfl, Nat.zero_le _, Own.empty 1⟩) (pqZ) (pqZ) ?_ ?_ ?_
 ·intro l pre x suf gg hx hI w2
  obtain ⟨hgl, hgn, hown⟩ := hI
  have hlt : pre.length < Q.length := by rw [hx, List.length_append, List.length_cons]; omega
  have hgl2 : gg.l.length = pre.length := by rw [hgl, List.length_map]
  refine WC_region (WLa rfl (WL_nil ?_))
  refine WQ_begin (fun w3 => ?_)
  refine WC_block (WC_region ?_)
  refine WL_val rfl rfl rfl (R_load rfl sc34 rfl (mmZ) rfl) ?_
  refine WLa rfl ?_
  refine WL_do rfl rfl rfl (D_buildSlice rfl si34 rfl rfl rfl) ?_
  rintro _ _ ⟨b2, rfl, rfl⟩
  refine WL_do rfl rfl rfl (D_append rfl si34 rfl (hown) (plZ) rfl (mmZ) ((atZ : At _ 0 [_])) (rfl) (rfl) (by omega) (by omega)) ?_
  rintro _ _ ⟨ob3, cap3, tl3, rfl, own3, rfl⟩
  have hsn : ivs gg.l ++ [Value.int .i64 x.2] = ivs (gg.l ++ [x.2]) := by simp
  rw [hsn] at own3 ⊢
  refine WL_do0 rfl rfl (D_store (vs := [_]) rfl Tryz.sizeOf34 rfl rfl rfl rfl rfl (plZ) (Nat.le_of_ble_eq_true rfl)) ?_
  rintro _ _ rfl
  refine WL_nil ?_
  rw [show gg.l.length + 1 = (gg.l ++ [x.2]).length from by rw [List.length_append, List.length_singleton]]
  refine WQ_rnd (⟨gg.l ++ [x.2], ob3, cap3, tl3⟩) ?_ (pqZ)
  exact (⟨by rw [hgl, List.map_append]; rfl, by rw [List.length_append, List.length_singleton]; omega, by rw [List.length_append, List.length_singleton]; exact own3⟩)
 ·intro dl gg hI
  obtain ⟨hgl, hgn, hown⟩ := hI
  have hgl2 : gg.l.length = Q.length := by rw [hgl, List.length_map]
  rw [hgl2, hgl]
  rw [hgl2, hgl] at hown
  refine WQ_code (WC_seq (WC_region ?_))
  refine WL_val rfl rfl rfl (R_load rfl sc34 rfl (mmZ) rfl) ?_
  refine WLa rfl (WL_nil (WQ_code (WC_ret ?_)))
  refine WQ_retM rfl (plZ) rfl (.cons (.tmp rfl) .nil) rfl (by
    exact ⟨gg.ob, gg.c, gg.tl, rfl, hown, rfl⟩) (pqZ)
 ·intro dl c pre gx hIx
  exact hIx.elim
def nxt (Q : List (Nat × Int)) : Int × Int := match Q with
 | [] => (0, 9)
 | (_, v) :: _ => (v, 0)
theorem clone_ok (pe c : Nat) (tl : List Value) (S : List (Int × Nat)) (hl : 1 ≤ S.length ∧ S.length ≤ 64) : Spec Tryz.prog 179 [.slice (some ⟨pe, 0, none⟩) S.length c] [⟨some pe, cl (S.flatMap encE ++ tl) 269⟩]
  (fun r H' => ∃ b c2 tl2, r = .slice (some ⟨b, 0, none⟩) S.length c2 ∧ H' = [⟨some b, cl (S.flatMap encE ++ tl2) 269⟩, ⟨some pe, cl (S.flatMap encE ++ tl) 269⟩]) := by
 refine Spec.of (E := [(0, .slice (some ⟨pe, 0, none⟩) S.length c)]) Tryz.func179 rfl (by kernel_rfl) Tryz.ntmps179 rfl rfl (fun w => ?_)
 refine WC_seq (WC_region (WLa rfl (WL_nil (WQ_code (WC_seq (WC_seq (WC_region (WLa rfl ?_))))))))
 refine WL_val rfl rfl rfl (R_sliceEqNil rfl Tryz.underlying237 rfl) ?_
 refine WL_nil (WQ_code ?_)
 refine WC_F rfl ?_
 refine WC_skip (WQ_code (WC_seq (WC_region ?_)))
 refine WL_do rfl rfl rfl (D_buildSlice rfl si237 rfl rfl rfl) ?_
 rintro _ _ ⟨b1, rfl, rfl⟩
 refine WLa rfl ?_
 refine WL_do rfl rfl rfl (D_append rfl si237 rfl ((⟨by simp, by simp, by simp, by simp, fun h => by cases h⟩ : Own (some b1) 0 0 2 [] [])) (plZ) rfl (mmZ) ((fun j v hj => by rw [Nat.zero_add, List.getElem?_append_left (List.getElem?_eq_some_iff.1 hj).1]; exact hj : At (S.flatMap encE ++ tl) 0 (S.flatMap encE))) (fm_length encE2 S) (fm_all encE_one S) (by omega) (by omega)) ?_
 rintro _ _ ⟨ob2, cap2, tl2, rfl, own2, rfl⟩
 obtain ⟨b9, rfl⟩ := own2.some_of (by omega)
 rw [show 0 + S.length = S.length from by omega, List.nil_append]
 refine WLa rfl (WL_nil (WQ_code (WC_ret ?_)))
 refine WQ_ret rfl rfl (.cons (.tmp rfl) .nil) rfl (by
   exact ⟨b9, cap2, tl2, rfl, rfl⟩) (pqZ)
theorem copy_ok (p pe pq pm : Nat) (S : List (Int × Nat)) (c : Nat) (tl : List Value) (Q : List (Nat × Int)) (n : Nat) (es : Array MapEntry) (mc : Nat) (hl : 1 ≤ S.length ∧ S.length ≤ 64) : Spec Tryz.prog 143 [ptrQ p] (tH p pe pq pm S c tl Q n es mc) (fun r H' => ∃ p2 pe2 pq2 pm2 c2 tl2, r = ptrQ p2 ∧ H' = tH p2 pe2 pq2 pm2 S c2 tl2 Q n es mc ++ tH p pe pq pm S c tl Q n es mc) := by
 refine Spec.of (E := [(0, ptrQ p)]) Tryz.func143 rfl (by kernel_rfl) Tryz.ntmps143 rfl rfl (fun w => ?_)
 refine WC_seq (WC_region (WLa rfl (WL_nil (WQ_code (WC_seq (WC_seq (WC_region (WLa rfl ?_))))))))
 refine WL_val rfl rfl rfl (R_ptrEqNil rfl Tryz.underlying148 rfl) ?_
 refine WLa rfl (WLa rfl (WLa rfl ?_))
 refine WL_val rfl rfl rfl (R_fieldAddr rfl fa239_1 rfl) ?_
 refine WL_val rfl rfl rfl (R_load rfl sc177 rfl (mmZ) rfl) ?_
 refine WL_val rfl rfl rfl (R_ptrEqNil rfl Tryz.underlying177 rfl) ?_
 refine WLa rfl (WL_nil (WQ_code ?_))
 refine WC_F rfl ?_
 refine WC_skip (WQ_code (WC_seq ?_))
 refine WC_draw _ [(0, true), (1, true), (2, true), (3, true), (5, true), (6, true), (7, true), (8, true), (4, false), (9, false), (10, true), (11, false), (12, true)] followsMixed rfl rfl (by kernel_rfl) .all ?_
 refine WMa rfl (WMa rfl ?_)
 refine WM_val rfl rfl rfl rfl (R_fieldAddr rfl fa239_0 rfl) ?_
 refine WM_val rfl rfl rfl rfl (R_load rfl sc237 rfl (mmZ) rfl) ?_
 refine WMa rfl (WMa rfl ?_)
 refine WM_val rfl rfl rfl rfl (R_fieldAddr rfl fa239_1 rfl) ?_
 refine WM_val rfl rfl rfl rfl (R_load rfl sc177 rfl (mmZ) rfl) ?_
 refine WM_do rfl rfl rfl rfl (D_call (clone_ok pe c tl S hl) rfl rfl rfl rfl (pqZ)) ?_
 rintro _ _ ⟨_, ⟨pe2, c2, tl2, rfl, rfl⟩, rfl⟩
 refine ⟨⟨_, pqZ⟩, ?_⟩
 refine WM_do rfl rfl rfl rfl (D_call (qcopy_ok pq pm Q n es mc) rfl rfl rfl rfl (pqZ)) ?_
 rintro _ _ ⟨_, ⟨pq2, pm2, rfl, rfl⟩, rfl⟩
 refine ⟨⟨_, pqZ⟩, ?_⟩
 refine WM_val rfl rfl rfl rfl (R_build rfl zv239 pl239 rfl rfl) ?_
 refine WM_do rfl rfl rfl rfl (D_box (cs := [_, _]) rfl rfl rfl) ?_
 rintro _ _ ⟨b1, rfl, rfl⟩
 refine ⟨⟨_, pqZ⟩, ?_⟩
 refine WMa rfl (WM_nil (WQ_code (WC_ret ?_)))
 refine WQ_ret rfl rfl (.cons (.tmp rfl) .nil) rfl (by
   exact ⟨_, pe2, pq2, pm2, c2, tl2, rfl, rfl⟩) (pqZ)
theorem same_ok (l : List Int) (hl : l.length ≤ 1000000) (o1 : Option Nat) (c1 : Nat) (t1 : List Value) (o2 : Option Nat) (c2 : Nat) (t2 : List Value) (h1 : Own o1 l.length c1 1 (ivs l) t1) (h2 : Own o2 l.length c2 1 (ivs l) t2) :
  Spec Tryz.prog 20 [slV o1 l.length c1, slV o2 l.length c2] [⟨o1, cl (ivs l ++ t1) 3⟩, ⟨o2, cl (ivs l ++ t2) 3⟩] (fun r H' => r = .bool true ∧ H' = [⟨o1, cl (ivs l ++ t1) 3⟩, ⟨o2, cl (ivs l ++ t2) 3⟩]) := by
 refine Spec.of (E := [(0, slV o1 l.length c1), (1, slV o2 l.length c2)]) Tryz.func20 rfl (by kernel_rfl) Tryz.ntmps20 rfl rfl (fun w => ?_)
 refine WC_seq (WC_region (WLa rfl (WL_nil (WQ_code (WC_seq (WC_seq (WC_region (WLa rfl ?_))))))))
 refine WL_val rfl rfl rfl (R_len rfl Tryz.underlying34 rfl) ?_
 refine WLa rfl ?_
 refine WL_val rfl rfl rfl (R_len rfl Tryz.underlying34 rfl) ?_
 refine WL_val rfl rfl rfl (R_neq rfl rfl rfl) ?_
 refine WL_nil (WQ_code ?_)
 refine WC_dF rfl (by simp) ?_
 refine WC_skip (WQ_code (WC_seq (WC_seq (WC_region (WLa rfl (WL_nil (WQ_code (WC_block ?_))))))))
 refine WC_loopF (G := Nat) [4, 5, 11, 12, 13, 14, 15, 16, 17, 18, 19, 20, 21, 22, 23, 24, 25] (fun k => k ≤ l.length) (fun k => [(5, .int .i64 (k : Int))]) (fun k => []) (fun k => l.length - k) (0) (Nat.zero_le _) leZ (pqZ) ?_
 rintro k hk
 refine WC_seq (WC_seq (WC_region (WLa rfl (WLa rfl ?_))))
 refine WL_val rfl rfl rfl (R_len rfl Tryz.underlying34 rfl) ?_
 refine WL_val rfl rfl rfl (R_lss rfl rfl rfl) ?_
 refine WL_nil (WQ_code ?_)
 refine WC_dec rfl (fun c1 => ?_) (fun c1 => ?_)
 ·refine WC_skip (WQ_code (WC_seq (WC_block (WC_seq ?_))))
  refine WC_draw _ [(0, true), (1, true), (2, true), (3, true), (4, true), (5, true), (6, true), (7, true), (8, true)] followsMixed rfl rfl (by kernel_rfl) .all ?_
  refine WMa rfl (WMa rfl ?_)
  obtain ⟨x, hx⟩ := exE (T := l) (i := k) (by omega)
  obtain ⟨wb1, rfl⟩ := h1.some_of (by omega)
  obtain ⟨wb2, rfl⟩ := h2.some_of (by omega)
  refine WM_val rfl rfl rfl rfl (R_indexAddrN rfl Tryz.underlying34 Tryz.sizeOf3 rfl rfl (by omega)) ?_
  refine WM_val rfl rfl rfl rfl (R_load (v := .int .i64 x) rfl sc3 rfl (mmZ) (fm_get0 encI1 hx (j := 0) (by omega))) ?_
  refine WMa rfl (WMa rfl ?_)
  refine WM_val rfl rfl rfl rfl (R_indexAddrN rfl Tryz.underlying34 Tryz.sizeOf3 rfl rfl (by omega)) ?_
  refine WM_val rfl rfl rfl rfl (R_load (v := .int .i64 x) rfl sc3 rfl (mmZ) (fm_get0 encI1 hx (j := 0) (by omega))) ?_
  refine WM_val rfl rfl rfl rfl (R_neq rfl rfl rfl) ?_
  refine WM_nil (WQ_code ?_)
  refine WC_dF rfl (by simp) ?_
  refine WC_skip (WQ_code (WC_region (WLa rfl ?_)))
  refine WL_val rfl rfl rfl (R_add rfl rfl rfl (by omega)) ?_
  refine WLa rfl (WL_nil ?_)
  refine WQ_nextF (k + 1) (by omega) (by omega) leZ (psZ) rfl (pqZ)
 ·refine WC_exit (WQ_code (WC_seq (WC_region (WLa rfl (WL_nil (WQ_code (WC_ret ?_)))))))
  refine WQ_ret rfl rfl (.cons (.tmp rfl) .nil) rfl (by
    exact ⟨rfl, rfl⟩) (pqZ)
end Go.Proofs.YtbkdebnkoidicaaGreat
end
section
set_option linter.unusedVariables false
set_option maxRecDepth 20000
set_option maxHeartbeats 1000000
namespace Go.Proofs.YtbkdebnkoidicaaGreat
structure Tw (sm qm : List Int) (S : List (Int × Nat)) (Q : List (Nat × Int)) (n : Nat) (es : Array MapEntry) : Prop where
 tk : Tk S Q n
 mp : Mp (.int .u64) ekQ evQ es (nds 0 0 Q)
 sm : S.map (·.1) = sm
 qm : Q.map (·.2) = qm
theorem tw_idle {m : Nat} (h1 : 1 ≤ m) (h2 : m ≤ 64) : Tw (List.replicate m 0) [] (idle m) [] 0 #[] := ⟨tk_idle h1 h2, mp_new, by simp [idle], rfl⟩
theorem doq_run {S S' : List (Int × Nat)} {Q Q' : List (Nat × Int)} {n n' i : Nat} {fr to e : Int} {sm qm : List Int} {es es' : Array MapEntry} (hw : Tw sm qm S Q n es) (hM : Mp (.int .u64) ekQ evQ es' (nds 0 0 Q')) (h : DoQ S Q n fr to (i : Int) e S' Q' n') (hi : sm[i]? = some fr) :
  e = 0 ∧ Tw (sm.set i to) (qm.filter (fun v => decide (v ≠ (i : Int))) ++ (if to = 1 then [(i : Int)] else [])) S' Q' n' es' ∧ n' ≤ n + 1 := by
 obtain ⟨h1, h2, h3, h4⟩ := h
 have hi2 : i < S.length := by
  have := (List.getElem?_eq_some_iff.1 hi).1
  rw [← hw.sm, List.length_map] at this; exact this
 rcases h4 with ⟨h4, _⟩ | ⟨j, x, t, hj, hS, h4⟩
 ·omega
 ·obtain rfl : i = j := by omega
  have hx : x = fr := by
   rw [← hw.sm, List.getElem?_map, hS] at hi
   simpa using hi
  rcases h4 with ⟨h4, _⟩ | ⟨_, h5, h6, h7⟩
  ·exact absurd hx h4
  ·exact ⟨h5, ⟨h3, hM, by rw [h6, hw.sm], by rw [h7, hw.qm]⟩, h1⟩
theorem doq_bad {S S' : List (Int × Nat)} {Q Q' : List (Nat × Int)} {n n' i : Nat} {fr to e x : Int} {sm qm : List Int} {es es' : Array MapEntry} (hw : Tw sm qm S Q n es) (hM : Mp (.int .u64) ekQ evQ es' (nds 0 0 Q')) (h : DoQ S Q n fr to (i : Int) e S' Q' n') (hi : sm[i]? = some x) (hx : x ≠ fr) :
  e = 8 ∧ Tw sm qm S' Q' n' es' ∧ n' ≤ n + 1 := by
 obtain ⟨h1, h2, h3, h4⟩ := h
 have hi2 : i < S.length := by
  have := (List.getElem?_eq_some_iff.1 hi).1
  rw [← hw.sm, List.length_map] at this; exact this
 rcases h4 with ⟨h4, _⟩ | ⟨j, y, t, hj, hS, h4⟩
 ·omega
 ·obtain rfl : i = j := by omega
  have hy : y = x := by
   rw [← hw.sm, List.getElem?_map, hS] at hi
   simpa using hi
  rcases h4 with ⟨_, h5, rfl, rfl⟩ | ⟨h4, _⟩
  ·exact ⟨h5, ⟨h3, hM, hw.sm, hw.qm⟩, h1⟩
  ·exact absurd (hy.symm.trans h4) hx
theorem ready_run (p pe pq pm : Nat) (S : List (Int × Nat)) (c : Nat) (tl : List Value) (Q : List (Nat × Int)) (n : Nat) (es : Array MapEntry) (mc : Nat) (sm qm : List Int) (hw : Tw sm qm S Q n es) : Spec Tryz.prog 112 [ptrQ p] (tH p pe pq pm S c tl Q n es mc) (fun r H' => ∃ ob c' tl', r = slV ob qm.length c' ∧ Own ob qm.length c' 1 (ivs qm) tl' ∧ H' = ⟨ob, cl (ivs qm ++ tl') 3⟩ :: (tH p pe pq pm S c tl Q n es mc)) := by
 have h := ready_ok p pe pq pm S c tl Q n es mc hw.tk hw.mp
 rw [hw.qm] at h
 have hl : Q.length = qm.length := by rw [← hw.qm, List.length_map]
 rw [hl] at h
 exact h
theorem state_run (p pe pq pm : Nat) (S : List (Int × Nat)) (c : Nat) (tl : List Value) (Q : List (Nat × Int)) (n : Nat) (es : Array MapEntry) (mc : Nat) (sm qm : List Int) (hw : Tw sm qm S Q n es) (i : Nat) (x : Int) (h : sm[i]? = some x) : Spec Tryz.prog 118 [ptrQ p, .int .i64 (i : Int)] (tR p pe pq S c tl) (fun r H' => r = .tuple #[.int .i64 x, .int .i64 0] ∧ H' = tR p pe pq S c tl) :=
 (state_ok p pe pq S c tl hw.tk.len.2 i).mono fun r H' ⟨s, e, h1, h2, h3⟩ => by
  refine ⟨?_, h2⟩
  have hl : i < S.length := by
   have := (List.getElem?_eq_some_iff.1 h).1
   rw [← hw.sm, List.length_map] at this; exact this
  rcases h3 with ⟨h3, _⟩ | ⟨j, t, hj, hS, rfl⟩
  ·omega
  ·obtain rfl : i = j := by omega
   rw [← hw.sm, List.getElem?_map, hS] at h
   simp only [Option.map_some, Option.some.injEq] at h
   rw [h1, h]
theorem state_out (p pe pq pm : Nat) (S : List (Int × Nat)) (c : Nat) (tl : List Value) (Q : List (Nat × Int)) (n : Nat) (es : Array MapEntry) (mc : Nat) (sm qm : List Int) (hw : Tw sm qm S Q n es) (i : Int) (h : i < 0 ∨ (sm.length : Int) ≤ i) : Spec Tryz.prog 118 [ptrQ p, .int .i64 i] (tR p pe pq S c tl) (fun r H' => r = .tuple #[.int .i64 0, .int .i64 2] ∧ H' = tR p pe pq S c tl) :=
 (state_ok p pe pq S c tl hw.tk.len.2 i).mono fun r H' ⟨s, e, h1, h2, h3⟩ => by
  refine ⟨?_, h2⟩
  have hl : sm.length = S.length := by rw [← hw.sm, List.length_map]
  rcases h3 with ⟨_, rfl, rfl⟩ | ⟨j, t, hj, hS, _⟩
  ·exact h1
  ·have := (List.getElem?_eq_some_iff.1 hS).1; omega
end Go.Proofs.YtbkdebnkoidicaaGreat
end
section
set_option linter.unusedVariables false
set_option maxRecDepth 20000
set_option maxHeartbeats 1000000
namespace Go.Proofs.YtbkdebnkoidicaaGreat
theorem take_get {l : List Int} {k : Nat} {v : Int} (h : l[k]? = some v) : l.take (k + 1) = l.take k ++ [v] := by
 obtain ⟨h1, rfl⟩ := List.getElem?_eq_some_iff.1 h
 rw [List.take_append_getElem]
theorem tw_nodup {sm qm : List Int} {S : List (Int × Nat)} {Q : List (Nat × Int)} {n : Nat} {es : Array MapEntry} (h : Tw sm qm S Q n es) : qm.Nodup := by
 rw [← h.qm, List.Nodup, List.pairwise_map]
 refine (List.Pairwise.and_mem.1 h.tk.qk.ord).imp fun {a b} ⟨ha, hb, hlt⟩ e => ?_
 obtain ⟨i, hi, h1⟩ := h.tk.back a.1 a.2 ha
 obtain ⟨j, hj, h2⟩ := h.tk.back b.1 b.2 hb
 have : i = j := by rw [hi, hj] at e; omega
 subst this
 rw [h1] at h2
 simp only [Option.some.injEq, Prod.mk.injEq, true_and] at h2
 omega
abbrev rV (os : Option Nat) (n c : Nat) (oq : Option Nat) (m d : Nat) : Value := .agg #[slV os n c, slV oq m d]
abbrev rH (os : Option Nat) (sm : List Int) (ts : List Value) (oq : Option Nat) (qm : List Int) (tq : List Value) : Heap := [⟨os, cl (ivs sm ++ ts) 3⟩, ⟨oq, cl (ivs qm ++ tq) 3⟩]
theorem ivs_one (l : List Int) : (ivs l).all Value.oneCell' = true := fm_all (fun _ => rfl) l
def stR (sm : List Int) (i : Int) : Int × Int := if i < 0 ∨ (sm.length : Int) ≤ i then (0, 2) else ((sm[i.toNat]?).getD 0, 0)
theorem stR_out {sm : List Int} {i : Int} (h : i < 0 ∨ (sm.length : Int) ≤ i) : stR sm i = (0, 2) := if_pos h
theorem stR_in {sm : List Int} {j : Nat} {x : Int} (h : sm[j]? = some x) : stR sm j = (x, 0) := by
 have := (List.getElem?_eq_some_iff.1 h).1
 rw [stR, if_neg (by omega), Int.toNat_natCast, h]; rfl
def stepR (sm qm : List Int) (fr to i : Int) : Int × List Int × List Int :=
 if i < 0 ∨ (sm.length : Int) ≤ i then (2, sm, qm)
 else if sm[i.toNat]? = some fr then (0, sm.set i.toNat to, qm.filter (fun v => decide (v ≠ i)) ++ (if to = 1 then [i] else []))
 else (8, sm, qm)
theorem stepR_out {sm qm : List Int} {fr to i : Int} (h : i < 0 ∨ (sm.length : Int) ≤ i) : stepR sm qm fr to i = (2, sm, qm) := if_pos h
theorem stepR_bad {sm qm : List Int} {fr to x : Int} {j : Nat} (h : sm[j]? = some x) (hx : x ≠ fr) : stepR sm qm fr to j = (8, sm, qm) := by
 have := (List.getElem?_eq_some_iff.1 h).1
 rw [stepR, if_neg (by omega), Int.toNat_natCast, h, if_neg (fun e => hx (Option.some.inj e))]
theorem stepR_ok {sm qm : List Int} {fr to : Int} {j : Nat} (h : sm[j]? = some fr) : stepR sm qm fr to j = (0, sm.set j to, qm.filter (fun v => decide (v ≠ (j : Int))) ++ (if to = 1 then [(j : Int)] else [])) := by
 have := (List.getElem?_eq_some_iff.1 h).1
 rw [stepR, if_neg (by omega), Int.toNat_natCast, h, if_pos rfl]
theorem stepR_len (sm qm : List Int) (fr to i : Int) : (stepR sm qm fr to i).2.1.length = sm.length := by
 unfold stepR
 split
 ·rfl
 ·split
  ·exact List.length_set
  ·rfl
abbrev RefIs (sm qm : List Int) (V : Value) (H' : Heap) : Prop := ∃ os sc ts oq qc tq, V = rV os sm.length sc oq qm.length qc ∧ Own os sm.length sc 1 (ivs sm) ts ∧ Own oq qm.length qc 1 (ivs qm) tq ∧ H' = rH os sm ts oq qm tq
theorem rnew_bad (m : Int) (h : m < 1 ∨ 64 < m) : Spec Tryz.prog 119 [.int .i64 m] [] (fun r H' => ∃ V, r = .tuple #[V, .int .i64 2] ∧ V = rV none 0 0 none 0 0 ∧ H' = []) := by
 refine Spec.of (E := [(0, .int .i64 m)]) Tryz.func119 rfl (by kernel_rfl) Tryz.ntmps119 rfl rfl (fun w => ?_)
 refine WC_seq (WC_region ?_)
 refine WL_do rfl rfl rfl (D_alloc rfl zv76) ?_
 rintro _ _ ⟨b1, rfl, rfl⟩
 refine WLa rfl (WL_nil (WQ_code (WC_seq (WC_seq (WC_region (WLa rfl ?_))))))
 refine WL_val rfl rfl rfl (R_lss rfl rfl rfl) ?_
 refine WLa rfl ?_
 refine WL_splitD (s := 6) rfl (fun c1 => ?_) (fun c1 => ?_)
 ·refine WL_skip rfl rfl rfl ?_
  refine WL_skip rfl rfl rfl ?_
  refine WLa rfl (WL_nil (WQ_code ?_))
  refine WC_T rfl ?_
  refine WC_seq (WC_region ?_)
  refine WL_val rfl rfl rfl (R_build rfl zv76 pl76 rfl rfl) ?_
  refine WL_do0 rfl rfl (D_store (vs := [_, _]) rfl Tryz.sizeOf76 rfl rfl rfl rfl rfl (plZ) (Nat.le_of_ble_eq_true rfl)) ?_
  rintro _ _ rfl
  refine WLa rfl (WL_nil (WQ_code (WC_ret ?_)))
  refine WQ_ret rfl rfl (.cons (.cell (vs := [_, _]) rfl ag76 (mmZ) rfl (atZ)) (.cons (.tmp rfl) .nil)) rfl (by
    exact ⟨_, rfl, rfl, rfl⟩) (pqZ)
 ·refine WLa rfl ?_
  refine WL_val rfl rfl rfl (R_gtr rfl rfl rfl) ?_
  refine WLa rfl (WL_nil (WQ_code ?_))
  refine WC_dec rfl (fun c2 => ?_) (fun c2 => ?_)
  ·refine WC_seq (WC_region ?_)
   refine WL_val rfl rfl rfl (R_build rfl zv76 pl76 rfl rfl) ?_
   refine WL_do0 rfl rfl (D_store (vs := [_, _]) rfl Tryz.sizeOf76 rfl rfl rfl rfl rfl (plZ) (Nat.le_of_ble_eq_true rfl)) ?_
   rintro _ _ rfl
   refine WLa rfl (WL_nil (WQ_code (WC_ret ?_)))
   refine WQ_ret rfl rfl (.cons (.cell (vs := [_, _]) rfl ag76 (mmZ) rfl (atZ)) (.cons (.tmp rfl) .nil)) rfl (by
     exact ⟨_, rfl, rfl, rfl⟩) (pqZ)
  ·exfalso; revert h; simp_all <;> omega
theorem rnew_ok (m : Nat) (h1 : 1 ≤ m) (h2 : m ≤ 64) : Spec Tryz.prog 119 [.int .i64 (m : Int)] [] (fun r H' => ∃ V, r = .tuple #[V, .int .i64 0] ∧ RefIs (List.replicate m 0) [] V H') := by
 refine Spec.of (E := [(0, .int .i64 (m : Int))]) Tryz.func119 rfl (by kernel_rfl) Tryz.ntmps119 rfl rfl (fun w => ?_)
 refine WC_seq (WC_region ?_)
 refine WL_do rfl rfl rfl (D_alloc rfl zv76) ?_
 rintro _ _ ⟨b1, rfl, rfl⟩
 refine WLa rfl (WL_nil (WQ_code (WC_seq (WC_seq (WC_region (WLa rfl ?_))))))
 refine WL_val rfl rfl rfl (R_lss rfl rfl rfl) ?_
 refine WLa rfl ?_
 refine WL_set (s := 6) (v := .bool false) rfl (by simp <;> omega) ?_
 refine WLa rfl ?_
 refine WL_val rfl rfl rfl (R_gtr rfl rfl rfl) ?_
 refine WLa rfl (WL_nil (WQ_code ?_))
 refine WC_dF rfl (by omega) ?_
 refine WC_skip (WQ_code (WC_seq (WC_region (WLa rfl ?_))))
 refine WL_do rfl rfl rfl (D_make (n := m) rfl si34 rfl rfl (by omega) (by omega)) ?_
 rintro _ _ ⟨b2, rfl, rfl⟩
 rw [show (List.replicate m [Value.int .i64 0]).flatten = ivs (List.replicate m 0) ++ [] from by rw [List.append_nil]; exact fm_rep (enc := encI) 0 m]
 have own9 : Own (some b2) (List.replicate m (0 : Int)).length m 1 (ivs (List.replicate m 0)) [] := ⟨by rw [fm_length encI1], by rw [fm_length encI1, List.length_replicate]; simp, by rw [List.length_replicate]; omega, by omega, fun h => by cases h⟩
 rw [show Value.slice (some ⟨b2, 0, none⟩) m m = slV (some b2) (List.replicate m (0 : Int)).length m from by rw [List.length_replicate]; rfl]
 refine WL_val rfl rfl rfl (R_build rfl zv76 pl76 rfl rfl) ?_
 refine WL_do0 rfl rfl (D_store (vs := [_, _]) rfl Tryz.sizeOf76 rfl rfl rfl rfl rfl (plZ) (Nat.le_of_ble_eq_true rfl)) ?_
 rintro _ _ rfl
 refine WLa rfl (WL_nil (WQ_code (WC_ret ?_)))
 refine WQ_none 3 ?_
 refine WQ_ret rfl rfl (.cons (.cell (vs := [_, _]) rfl ag76 (mmZ) rfl (atZ)) (.cons (.tmp rfl) .nil)) rfl (by
   exact ⟨_, rfl, some b2, m, [], none, 0, [], rfl, own9, Own.empty 1, rfl⟩) (pqZ)
theorem rstate_ok (sm qm : List Int) (os : Option Nat) (sc : Nat) (ts : List Value) (oq : Option Nat) (qc : Nat) (tq : List Value) (hos : Own os sm.length sc 1 (ivs sm) ts) (hoq : Own oq qm.length qc 1 (ivs qm) tq) (i : Int) : Spec Tryz.prog 74 [rV os sm.length sc oq qm.length qc, .int .i64 i] (rH os sm ts oq qm tq) (fun r H' => r = .tuple #[.int .i64 (stR sm i).1, .int .i64 (stR sm i).2] ∧ H' = rH os sm ts oq qm tq) := by
 have hsc := hos.le
 have hsb := hos.big
 refine Spec.of (E := [(0, rV os sm.length sc oq qm.length qc), (1, .int .i64 i)]) Tryz.func74 rfl (by kernel_rfl) Tryz.ntmps74 rfl rfl (fun w => ?_)
 refine WC_seq (WC_region ?_)
 refine WL_do rfl rfl rfl (D_box (cs := [_, _]) rfl rfl rfl) ?_
 rintro _ _ ⟨b1, rfl, rfl⟩
 refine WLa rfl (WLa rfl (WL_nil (WQ_code (WC_seq (WC_seq (WC_region (WLa rfl ?_)))))))
 refine WL_val rfl rfl rfl (R_lss rfl rfl rfl) ?_
 refine WLa rfl ?_
 refine WL_splitD (s := 8) rfl (fun c1 => ?_) (fun c1 => ?_)
 ·have hr : i < 0 ∨ (sm.length : Int) ≤ i := by omega
  refine WL_skip rfl rfl rfl ?_
  refine WL_skip rfl rfl rfl ?_
  refine WL_skip rfl rfl rfl ?_
  refine WL_skip rfl rfl rfl ?_
  refine WL_skip rfl rfl rfl ?_
  refine WLa rfl (WL_nil (WQ_code ?_))
  refine WC_T rfl ?_
  refine WC_seq (WC_region (WLa rfl (WLa rfl (WL_nil (WQ_code (WC_ret ?_))))))
  refine WQ_ret rfl rfl (.cons (.tmp rfl) (.cons (.tmp rfl) .nil)) rfl (by
    exact ⟨by rw [stR_out hr]; rfl, rfl⟩) (pqZ)
 ·refine WLa rfl ?_
  refine WL_val rfl rfl rfl (R_fieldAddr rfl fa76_0 rfl) ?_
  refine WL_val rfl rfl rfl (R_load rfl sc34 rfl (mmZ) rfl) ?_
  refine WL_val rfl rfl rfl (R_len rfl Tryz.underlying34 rfl) ?_
  refine WL_val rfl rfl rfl (R_geq rfl rfl rfl) ?_
  refine WLa rfl (WL_nil (WQ_code ?_))
  refine WC_dec rfl (fun c2 => ?_) (fun c2 => ?_)
  ·have hr : i < 0 ∨ (sm.length : Int) ≤ i := by first | omega | simpa using c2
   refine WC_seq (WC_region (WLa rfl (WLa rfl (WL_nil (WQ_code (WC_ret ?_))))))
   refine WQ_ret rfl rfl (.cons (.tmp rfl) (.cons (.tmp rfl) .nil)) rfl (by
     exact ⟨by rw [stR_out hr]; rfl, rfl⟩) (pqZ)
  ·have hr : ¬ (i < 0 ∨ (sm.length : Int) ≤ i) := by first | omega | simpa using c2
   obtain ⟨i, rfl⟩ := Int.eq_ofNat_of_zero_le (show 0 ≤ i by omega)
   obtain ⟨x, hx⟩ := exE (T := sm) (i := i) (by omega)
   obtain ⟨wb, rfl⟩ := hos.some_of (by omega)
   refine WC_skip (WQ_code (WC_seq (WC_region ?_)))
   refine WL_val rfl rfl rfl (R_fieldAddr rfl fa76_0 rfl) ?_
   refine WL_val rfl rfl rfl (R_load rfl sc34 rfl (mmZ) rfl) ?_
   refine WLa rfl ?_
   refine WL_val rfl rfl rfl (R_indexAddrN rfl Tryz.underlying34 Tryz.sizeOf3 rfl rfl (by omega)) ?_
   refine WL_val rfl rfl rfl (R_load (v := .int .i64 x) rfl sc3 rfl (mmZ) (fm_get0 encI1 hx (j := 0) (by omega))) ?_
   refine WLa rfl (WLa rfl (WL_nil (WQ_code (WC_ret ?_))))
   refine WQ_ret rfl rfl (.cons (.tmp rfl) (.cons (.tmp rfl) .nil)) rfl (by
     exact ⟨by rw [stR_in hx]; rfl, rfl⟩) (pqZ)
theorem filt_yes {x v : Int} (h : x ≠ v) : [x].filter (fun y => decide (y ≠ v)) = [x] := by simp [h]
theorem filt_no {x v : Int} (h : x = v) : [x].filter (fun y => decide (y ≠ v)) = [] := by simp [h]
structure RW where
 k : Nat
 l : List Int
 ob : Option Nat
 c : Nat
 tl : List Value
theorem without_ok (qm : List Int) (oq : Option Nat) (qc : Nat) (tq : List Value) (hoq : Own oq qm.length qc 1 (ivs qm) tq) (hl : qm.length ≤ 64) (v : Int) : Spec Tryz.prog 216 [slV oq qm.length qc, .int .i64 v] [⟨oq, cl (ivs qm ++ tq) 3⟩]
  (fun r H' => ∃ ob c' tl', r = slV ob (qm.filter (fun x => decide (x ≠ v))).length c' ∧ Own ob (qm.filter (fun x => decide (x ≠ v))).length c' 1 (ivs (qm.filter (fun x => decide (x ≠ v)))) tl' ∧ H' = [⟨ob, cl (ivs (qm.filter (fun x => decide (x ≠ v))) ++ tl') 3⟩, ⟨oq, cl (ivs qm ++ tq) 3⟩]) := by
 have hsc := hoq.le
 have hsb := hoq.big
 refine Spec.of (E := [(0, slV oq qm.length qc), (1, .int .i64 v)]) Tryz.func216 rfl (by kernel_rfl) Tryz.ntmps216 rfl rfl (fun w => ?_)
 refine WC_seq (WC_region (WLa rfl (WL_nil (WQ_code (WC_seq (WC_region (WLa rfl (WL_nil (WQ_code (WC_seq (WC_seq (WC_region (WLa rfl (WL_nil (WQ_code (WC_block ?_))))))))))))))))
 refine WC_none 3 ?_
 refine WC_loopF (G := RW) [5, 6, 7, 8, 9, 10, 11, 12, 13, 14, 15, 16, 17, 18, 19, 20, 21, 22, 23, 24, 25] (fun y => y.k ≤ qm.length ∧ y.l = (qm.take y.k).filter (fun x => decide (x ≠ v)) ∧ y.l.length ≤ y.k ∧ Own y.ob y.l.length y.c 1 (ivs y.l) y.tl) (fun y => [(6, .int .i64 (y.k : Int)), (5, slV y.ob y.l.length y.c)]) (fun y => [⟨y.ob, cl (ivs y.l ++ y.tl) 3⟩]) (fun y => qm.length - y.k) (⟨0, [], none, 0, []⟩) (⟨Nat.zero_le _, by simp, Nat.zero_le _, Own.empty 1⟩) leZ (pqZ) ?_
 rintro y ⟨hk, hyl, hyk, hyo⟩
 refine WC_seq (WC_seq (WC_region (WLa rfl (WLa rfl ?_))))
 refine WL_val rfl rfl rfl (R_len rfl Tryz.underlying34 rfl) ?_
 refine WL_val rfl rfl rfl (R_lss rfl rfl rfl) ?_
 refine WL_nil (WQ_code ?_)
 refine WC_dec rfl (fun c1 => ?_) (fun c1 => ?_)
 ·refine WC_skip (WQ_code (WC_seq (WC_block (WC_seq (WC_region (WLa rfl (WLa rfl ?_)))))))
  obtain ⟨x, hx⟩ := exE (T := qm) (i := y.k) (by omega)
  obtain ⟨wq, rfl⟩ := hoq.some_of (by omega)
  refine WL_val rfl rfl rfl (R_indexAddrN rfl Tryz.underlying34 Tryz.sizeOf3 rfl rfl (by omega)) ?_
  refine WL_val rfl rfl rfl (R_load (v := .int .i64 x) rfl sc3 rfl (mmZ) (fm_get0 encI1 hx (j := 0) (by omega))) ?_
  refine WLa rfl ?_
  refine WL_val rfl rfl rfl (R_neq rfl rfl rfl) ?_
  refine WL_nil (WQ_code ?_)
  refine WC_dec rfl (fun c2 => ?_) (fun c2 => ?_)
  ·have hne : x ≠ v := c2
   refine WC_region (WLa rfl (WLa rfl (WLa rfl ?_)))
   refine WL_val rfl rfl rfl (R_indexAddrN rfl Tryz.underlying34 Tryz.sizeOf3 rfl rfl (by omega)) ?_
   refine WL_val rfl rfl rfl (R_load (v := .int .i64 x) rfl sc3 rfl (mmZ) (fm_get0 encI1 hx (j := 0) (by omega))) ?_
   refine WL_do rfl rfl rfl (D_buildSlice rfl si34 rfl rfl rfl) ?_
   rintro _ _ ⟨b1, rfl, rfl⟩
   refine WL_do rfl rfl rfl (D_append rfl si34 rfl (hyo) (plZ) rfl (mmZ) ((atZ : At _ 0 [_])) (rfl) (rfl) (by omega) (by omega)) ?_
   rintro _ _ ⟨ob2, cap2, tl2, rfl, own2, rfl⟩
   have hsn : ivs y.l ++ [Value.int .i64 x] = ivs (y.l ++ [x]) := by simp
   rw [hsn] at own2 ⊢
   refine WLa rfl (WL_nil (WQ_code (WC_region (WLa rfl ?_))))
   refine WL_val rfl rfl rfl (R_add rfl rfl rfl (by omega)) ?_
   refine WLa rfl (WL_nil ?_)
   rw [show y.l.length + 1 = (y.l ++ [x]).length from by rw [List.length_append, List.length_singleton]]
   refine WQ_nextF (⟨y.k + 1, y.l ++ [x], ob2, cap2, tl2⟩) (⟨by dsimp only; omega, by dsimp only; rw [take_get hx, List.filter_append, ← hyl, filt_yes hne], by dsimp only; rw [List.length_append, List.length_singleton]; omega, by dsimp only; rw [List.length_append, List.length_singleton]; exact own2⟩) (by dsimp only; omega) leZ (psZ) rfl (pqZ)
  ·have heq : x = v := Decidable.not_not.1 c2
   refine WC_skip (WQ_code (WC_region (WLa rfl ?_)))
   refine WL_val rfl rfl rfl (R_add rfl rfl rfl (by omega)) ?_
   refine WLa rfl (WL_nil ?_)
   refine WQ_nextF (⟨y.k + 1, y.l, y.ob, y.c, y.tl⟩) (⟨by dsimp only; omega, by dsimp only; rw [take_get hx, List.filter_append, ← hyl, filt_no heq, List.append_nil], by dsimp only; omega, hyo⟩) (by dsimp only; omega) leZ (psZ) rfl (pqZ)
 ·have ek : y.k = qm.length := by omega
  rw [ek, List.take_length] at hyl
  rw [hyl]
  rw [hyl] at hyo
  refine WC_exit (WQ_code (WC_seq (WC_region (WLa rfl (WLa rfl (WL_nil (WQ_code (WC_ret ?_))))))))
  refine WQ_ret rfl rfl (.cons (.tmp rfl) .nil) rfl (by
    exact ⟨y.ob, y.c, y.tl, rfl, hyo, rfl⟩) (pqZ)
end Go.Proofs.YtbkdebnkoidicaaGreat
end
section
set_option linter.unusedVariables false
set_option maxRecDepth 20000
set_option maxHeartbeats 2000000
namespace Go.Proofs.YtbkdebnkoidicaaGreat
theorem own_set1 {ob : Option Nat} {n c : Nat} {l : List Int} {tw : List Value} (h : Own ob n c 1 (ivs l) tw) (j : Nat) (y : Int) : Own ob n c 1 (ivs (l.set j y)) tw := by
 have e : (ivs (l.set j y)).length = (ivs l).length := by rw [fm_length encI1, fm_length encI1, List.length_set]
 exact ⟨by rw [e]; exact h.len, by rw [e]; exact h.cap, h.le, h.big, h.nil⟩
theorem ivs_snoc (l : List Int) (i : Int) : ivs (l ++ [i]) = ivs l ++ [.int .i64 i] := by simp
theorem refIs_mk {sm qm : List Int} {n m : Nat} {xs : List Value} {os : Option Nat} {sc : Nat} {ts : List Value} {oq : Option Nat} {qc : Nat} {tq : List Value} (hs : Own os n sc 1 (ivs sm) ts) (hq : Own oq m qc 1 xs tq) (hn : sm.length = n) (hm : qm.length = m) (hx : ivs qm = xs) :
  RefIs sm qm (rV os n sc oq m qc) [⟨os, cl (ivs sm ++ ts) 3⟩, ⟨oq, cl (xs ++ tq) 3⟩] := by
 subst hn hm hx
 exact ⟨_, _, _, _, _, _, rfl, hs, hq, rfl⟩
theorem change_ok (sm qm : List Int) (os : Option Nat) (sc : Nat) (ts : List Value) (oq : Option Nat) (qc : Nat) (tq : List Value) (hos : Own os sm.length sc 1 (ivs sm) ts) (hoq : Own oq qm.length qc 1 (ivs qm) tq) (hl : sm.length ≤ 64) (hq : qm.length ≤ 64) (i fr to : Int) : Spec Tryz.prog 202 [rV os sm.length sc oq qm.length qc, .int .i64 i, .int .i64 fr, .int .i64 to] (rH os sm ts oq qm tq) (fun r H' => ∃ V', r = .tuple #[V', .int .i64 (stepR sm qm fr to i).1] ∧ RefIs (stepR sm qm fr to i).2.1 (stepR sm qm fr to i).2.2 V' H') := by
 have hsc := hos.le
 have hsb := hos.big
 refine Spec.of (E := [(0, rV os sm.length sc oq qm.length qc), (1, .int .i64 i), (2, .int .i64 fr), (3, .int .i64 to)]) Tryz.func202 rfl (by kernel_rfl) Tryz.ntmps202 rfl rfl (fun w => ?_)
 refine WC_seq (WC_region ?_)
 refine WL_do rfl rfl rfl (D_box (cs := [_, _]) rfl rfl rfl) ?_
 rintro _ _ ⟨b1, rfl, rfl⟩
 refine WL_do rfl rfl rfl (D_alloc rfl zv76) ?_
 rintro _ _ ⟨b2, rfl, rfl⟩
 refine WLa rfl (WL_nil (WQ_code (WC_seq (WC_region ?_))))
 refine WL_val rfl rfl rfl (R_loadA (vs := [_, _]) rfl ag76 rfl (mmZ) rfl (atZ)) ?_
 refine WLa rfl ?_
 refine WL_do rfl rfl rfl (D_call (rstate_ok sm qm os sc ts oq qc tq hos hoq i) rfl rfl rfl rfl (pqZ)) ?_
 rintro _ _ ⟨_, ⟨rfl, rfl⟩, rfl⟩
 refine WLa rfl (WLa rfl (WLa rfl (WLa rfl (WLa rfl (WL_nil (WQ_code (WC_seq (WC_seq (WC_region (WLa rfl ?_))))))))))
 refine WL_val rfl rfl rfl (R_neq rfl rfl rfl) ?_
 refine WL_nil (WQ_code ?_)
 refine WC_dec rfl (fun c1 => ?_) (fun c1 => ?_)
 ·have hr : i < 0 ∨ (sm.length : Int) ≤ i := by by_cases h9 : i < 0 ∨ (sm.length : Int) ≤ i; exact h9; exact absurd (show (stR sm i).2 = 0 by rw [stR, if_neg h9]) c1
  simp only [stR_out hr]
  refine WC_seq (WC_region ?_)
  refine WL_val rfl rfl rfl (R_loadA (vs := [_, _]) rfl ag76 rfl (mmZ) rfl (atZ)) ?_
  refine WLa rfl ?_
  refine WL_do0 rfl rfl (D_store (vs := [_, _]) rfl Tryz.sizeOf76 rfl rfl rfl rfl rfl (plZ) (Nat.le_of_ble_eq_true rfl)) ?_
  rintro _ _ rfl
  refine WLa rfl (WL_nil (WQ_code (WC_ret ?_)))
  refine WQ_ret rfl rfl (.cons (.cell (vs := [_, _]) rfl ag76 (mmZ) rfl (atZ)) (.cons (.tmp rfl) .nil)) rfl (by
    rw [stepR_out hr]
    exact ⟨_, rfl, os, sc, ts, oq, qc, tq, rfl, hos, hoq, rfl⟩) (pqZ)
 ·have hr : ¬ (i < 0 ∨ (sm.length : Int) ≤ i) := fun h9 => c1 (by rw [stR_out h9]; decide)
  obtain ⟨i, rfl⟩ := Int.eq_ofNat_of_zero_le (show 0 ≤ i by omega)
  obtain ⟨x, hx⟩ := exE (T := sm) (i := i) (by omega)
  obtain ⟨wb, rfl⟩ := hos.some_of (by omega)
  simp only [stR_in hx]
  refine WC_skip (WQ_code (WC_seq (WC_seq (WC_region (WLa rfl (WLa rfl ?_))))))
  refine WL_val rfl rfl rfl (R_neq rfl rfl rfl) ?_
  refine WL_nil (WQ_code ?_)
  refine WC_dec rfl (fun c2 => ?_) (fun c2 => ?_)
  ·have hne : x ≠ fr := c2
   refine WC_seq (WC_region ?_)
   refine WL_val rfl rfl rfl (R_loadA (vs := [_, _]) rfl ag76 rfl (mmZ) rfl (atZ)) ?_
   refine WL_do0 rfl rfl (D_store (vs := [_, _]) rfl Tryz.sizeOf76 rfl rfl rfl rfl rfl (plZ) (Nat.le_of_ble_eq_true rfl)) ?_
   rintro _ _ rfl
   refine WLa rfl (WL_nil (WQ_code (WC_ret ?_)))
   refine WQ_ret rfl rfl (.cons (.cell (vs := [_, _]) rfl ag76 (mmZ) rfl (atZ)) (.cons (.tmp rfl) .nil)) rfl (by
     rw [stepR_bad hx hne]
     exact ⟨_, rfl, some wb, sc, ts, oq, qc, tq, rfl, hos, hoq, rfl⟩) (pqZ)
  ·have hfr : x = fr := Decidable.not_not.1 c2
   subst hfr
   refine WC_skip (WQ_code (WC_seq ?_))
   refine WC_drawB _ [(0, .q), (1, .q), (3, .q), (4, .q), (5, .q), (2, .n [8]), (6, .n [8]), (7, .q), (8, .b []), (9, .n [])] followsMixed rfl rfl (by kernel_rfl) .all ?_
   refine WB_val rfl rfl rfl rfl (R_fieldAddr rfl fa76_0 rfl) ?_
   refine WB_val rfl rfl rfl rfl (R_load rfl sc34 rfl (mmZ) rfl) ?_
   refine WB_val rfl rfl rfl rfl (R_fieldAddr rfl fa76_1 rfl) ?_
   refine WB_val rfl rfl rfl rfl (R_load rfl sc34 rfl (mmZ) rfl) ?_
   refine WB_val rfl rfl rfl rfl (R_move rfl rfl) ?_
   refine WB_none 3 ?_
   refine WB_do rfl rfl rfl rfl (.cons rfl rfl (B_alloc rfl zv76) .nil) (fun _ => D_append rfl si34 rfl ((Own.empty 1)) (plZ) rfl (mmZ) ((fun j v hj => by rw [Nat.zero_add, List.getElem?_append_left (List.getElem?_eq_some_iff.1 hj).1]; exact hj : At (ivs sm ++ ts) 0 (ivs sm))) (fm_length encI1 sm) (ivs_one sm) (by omega) (by omega)) ?_
   rintro _ _ ⟨ob3, cap3, tl3, rfl, own3, rfl⟩
   refine ⟨⟨_, pqZ⟩, ?_⟩
   rw [show 0 + sm.length = sm.length from by omega, List.nil_append] at *
   refine WB_do rfl rfl rfl rfl (.cons rfl rfl (B_alloc rfl zv76) .nil) (fun _ => D_call (without_ok qm oq qc tq hoq hq i) rfl rfl rfl rfl (pqZ)) ?_
   rintro _ _ ⟨_, ⟨oq2, qc2, tq2, rfl, own2, rfl⟩, rfl⟩
   refine ⟨⟨_, pqZ⟩, ?_⟩
   refine WB_val rfl rfl rfl rfl (R_build rfl zv76 pl76 rfl rfl) ?_
   refine WB_birth rfl rfl rfl rfl .nil (B_alloc rfl zv76) (fun b4 => ?_)
   refine WB_do0 rfl rfl rfl .nil (fun _ => D_store (vs := [_, _]) rfl Tryz.sizeOf76 rfl rfl rfl rfl rfl (plZ) (Nat.le_of_ble_eq_true rfl)) ?_
   rintro _ _ rfl
   refine ⟨⟨_, pqZ⟩, ?_⟩
   refine WB_nil (WQ_code (WC_seq (WC_region ?_)))
   refine WL_val rfl rfl rfl (R_fieldAddr rfl fa76_0 rfl) ?_
   refine WL_val rfl rfl rfl (R_load rfl sc34 rfl (mmZ) rfl) ?_
   refine WLa rfl (WLa rfl ?_)
   obtain ⟨wb3, rfl⟩ := own3.some_of (by omega)
   refine WL_val rfl rfl rfl (R_indexAddrN rfl Tryz.underlying34 Tryz.sizeOf3 rfl rfl (by omega)) ?_
   refine WL_do0 rfl rfl (D_store (vs := [_]) rfl Tryz.sizeOf3 rfl rfl rfl rfl rfl (plZ) (by exact fm_room0 encI1 (List.getElem?_eq_some_iff.1 hx).1 (j := 0) (by omega))) ?_
   rintro _ _ rfl
   have hput := fm_put0 encI1 to hx (j := 0) (vs := [.int .i64 to]) (by simp) rfl (tl := tl3)
   rw [Nat.add_zero] at hput
   rw [hput]
   refine WL_nil (WQ_code (WC_seq (WC_seq (WC_region (WLa rfl ?_)))))
   refine WL_val rfl rfl rfl (R_eql rfl rfl rfl) ?_
   refine WL_nil (WQ_code ?_)
   refine WC_dec rfl (fun c3 => ?_) (fun c3 => ?_)
   ·have hto : to = 1 := c3
    refine WC_region ?_
    refine WL_val rfl rfl rfl (R_fieldAddr rfl fa76_1 rfl) ?_
    refine WL_val rfl rfl rfl (R_load rfl sc34 rfl (mmZ) rfl) ?_
    refine WLa rfl ?_
    refine WL_do rfl rfl rfl (D_buildSlice rfl si34 rfl rfl rfl) ?_
    rintro _ _ ⟨b5, rfl, rfl⟩
    have hfl := List.length_filter_le (fun y => decide (y ≠ (i : Int))) qm
    refine WL_do rfl rfl rfl (D_append rfl si34 rfl (own2) (plZ) rfl (mmZ) ((atZ : At _ 0 [_])) (rfl) (rfl) (by omega) (by omega)) ?_
    rintro _ _ ⟨ob6, cap6, tl6, rfl, own6, rfl⟩
    refine WL_val rfl rfl rfl (R_fieldAddr rfl fa76_1 rfl) ?_
    refine WL_do0 rfl rfl (D_store (vs := [_]) rfl Tryz.sizeOf34 rfl rfl rfl rfl rfl (plZ) (Nat.le_of_ble_eq_true rfl)) ?_
    rintro _ _ rfl
    refine WL_nil (WQ_code (WC_seq (WC_region ?_)))
    refine WL_val rfl rfl rfl (R_loadA (vs := [_, _]) rfl ag76 rfl (mmZ) rfl (atZ)) ?_
    refine WL_do0 rfl rfl (D_store (vs := [_, _]) rfl Tryz.sizeOf76 rfl rfl rfl rfl rfl (plZ) (Nat.le_of_ble_eq_true rfl)) ?_
    rintro _ _ rfl
    refine WLa rfl (WL_nil (WQ_code (WC_ret ?_)))
    refine WQ_ret rfl rfl (.cons (.cell (vs := [_, _]) rfl ag76 (mmZ) rfl (atZ)) (.cons (.tmp rfl) .nil)) rfl (by
      rw [stepR_ok hx, if_pos hto]
      exact ⟨_, rfl, refIs_mk (own_set1 own3 i to) own6 List.length_set (by rw [List.length_append]; rfl) (ivs_snoc _ _)⟩) (pqZ)
   ·have hto : ¬ to = 1 := c3
    refine WC_skip (WQ_code (WC_seq (WC_region ?_)))
    refine WL_val rfl rfl rfl (R_loadA (vs := [_, _]) rfl ag76 rfl (mmZ) rfl (atZ)) ?_
    refine WL_do0 rfl rfl (D_store (vs := [_, _]) rfl Tryz.sizeOf76 rfl rfl rfl rfl rfl (plZ) (Nat.le_of_ble_eq_true rfl)) ?_
    rintro _ _ rfl
    refine WLa rfl (WL_nil (WQ_code (WC_ret ?_)))
    refine WQ_ret rfl rfl (.cons (.cell (vs := [_, _]) rfl ag76 (mmZ) rfl (atZ)) (.cons (.tmp rfl) .nil)) rfl (by
      rw [stepR_ok hx, if_neg hto, List.append_nil]
      exact ⟨_, rfl, refIs_mk (own_set1 own3 i to) own2 List.length_set rfl rfl⟩) (pqZ)
end Go.Proofs.YtbkdebnkoidicaaGreat
end
section
set_option linter.unusedVariables false
set_option maxRecDepth 20000
set_option maxHeartbeats 1000000
namespace Go.Proofs.YtbkdebnkoidicaaGreat
theorem doq_step {S S' : List (Int × Nat)} {Q Q' : List (Nat × Int)} {n n' : Nat} {i fr to e : Int} {sm qm : List Int} {es es' : Array MapEntry} (hw : Tw sm qm S Q n es) (hM : Mp (.int .u64) ekQ evQ es' (nds 0 0 Q')) (h : DoQ S Q n fr to i e S' Q' n') :
  e = (stepR sm qm fr to i).1 ∧ Tw (stepR sm qm fr to i).2.1 (stepR sm qm fr to i).2.2 S' Q' n' es' ∧ n' ≤ n + 1 := by
 have hl : sm.length = S.length := by rw [← hw.sm, List.length_map]
 by_cases hr : i < 0 ∨ (sm.length : Int) ≤ i
 ·rw [stepR_out hr]
  obtain ⟨h1, h2, h3, h4⟩ := h
  rcases h4 with ⟨_, rfl, rfl, rfl⟩ | ⟨j, x, t, hj, hS, h4⟩
  ·exact ⟨rfl, ⟨h3, hM, hw.sm, hw.qm⟩, h1⟩
  ·have := (List.getElem?_eq_some_iff.1 hS).1
   omega
 ·obtain ⟨i, rfl⟩ := Int.eq_ofNat_of_zero_le (show 0 ≤ i by omega)
  obtain ⟨x, hx⟩ := exE (T := sm) (i := i) (by omega)
  by_cases hf : x = fr
  ·subst hf
   rw [stepR_ok hx]
   exact doq_run hw hM h hx
  ·rw [stepR_bad hx hf]
   exact doq_bad hw hM h hx hf
theorem state_R (p pe pq pm : Nat) (S : List (Int × Nat)) (c : Nat) (tl : List Value) (Q : List (Nat × Int)) (n : Nat) (es : Array MapEntry) (mc : Nat) (sm qm : List Int) (hw : Tw sm qm S Q n es) (i : Int) : Spec Tryz.prog 118 [ptrQ p, .int .i64 i] (tR p pe pq S c tl) (fun r H' => r = .tuple #[.int .i64 (stR sm i).1, .int .i64 (stR sm i).2] ∧ H' = tR p pe pq S c tl) := by
 by_cases hr : i < 0 ∨ (sm.length : Int) ≤ i
 ·rw [stR_out hr]; exact state_out p pe pq pm S c tl Q n es mc sm qm hw i hr
 ·obtain ⟨i, rfl⟩ := Int.eq_ofNat_of_zero_le (show 0 ≤ i by omega)
  obtain ⟨x, hx⟩ := exE (T := sm) (i := i) (by omega)
  rw [stR_in hx]; exact state_run p pe pq pm S c tl Q n es mc sm qm hw i x hx
theorem start_step (p pe pq pm : Nat) (S : List (Int × Nat)) (c : Nat) (tl : List Value) (Q : List (Nat × Int)) (n : Nat) (es : Array MapEntry) (mc : Nat) (sm qm : List Int) (hw : Tw sm qm S Q n es) (hn : n < 1000000) (i : Int) : Spec Tryz.prog 92 [ptrQ p, .int .i64 i] (tH p pe pq pm S c tl Q n es mc) (fun r H' => ∃ S' Q' n' es' mc' tl', r = .int .i64 (stepR sm qm 0 1 i).1 ∧ H' = tH p pe pq pm S' c tl' Q' n' es' mc' ∧ Tw (stepR sm qm 0 1 i).2.1 (stepR sm qm 0 1 i).2.2 S' Q' n' es' ∧ n' ≤ n + 1) :=
 (start_ok p pe pq pm S c tl Q n es mc hw.tk hw.mp hn i).mono fun r H' ⟨e, S', Q', n', es', mc', tl', h4, h5, h6, h7⟩ => by
  obtain ⟨rfl, h8, h9⟩ := doq_step hw h6 h7
  exact ⟨S', Q', n', es', mc', tl', h4, h5, h8, h9⟩
theorem rstart_ok (sm qm : List Int) (os : Option Nat) (sc : Nat) (ts : List Value) (oq : Option Nat) (qc : Nat) (tq : List Value) (hos : Own os sm.length sc 1 (ivs sm) ts) (hoq : Own oq qm.length qc 1 (ivs qm) tq) (hl : sm.length ≤ 64) (hq : qm.length ≤ 64) (i : Int) : Spec Tryz.prog 174 [rV os sm.length sc oq qm.length qc, .int .i64 i] (rH os sm ts oq qm tq) (fun r H' => ∃ V', r = .tuple #[V', .int .i64 (stepR sm qm 0 1 i).1] ∧ RefIs (stepR sm qm 0 1 i).2.1 (stepR sm qm 0 1 i).2.2 V' H') := by
 refine Spec.of (E := [(0, rV os sm.length sc oq qm.length qc), (1, .int .i64 i)]) Tryz.func174 rfl (by kernel_rfl) Tryz.ntmps174 rfl rfl (fun w => ?_)
 refine WC_seq (WC_region ?_)
 refine WL_do rfl rfl rfl (D_box (cs := [_, _]) rfl rfl rfl) ?_
 rintro _ _ ⟨b1, rfl, rfl⟩
 refine WL_do rfl rfl rfl (D_alloc rfl zv76) ?_
 rintro _ _ ⟨b2, rfl, rfl⟩
 refine WLa rfl (WL_nil (WQ_code (WC_seq (WC_region ?_))))
 refine WL_val rfl rfl rfl (R_loadA (vs := [_, _]) rfl ag76 rfl (mmZ) rfl (atZ)) ?_
 refine WLa rfl ?_
 refine WL_do rfl rfl rfl (D_call (change_ok sm qm os sc ts oq qc tq hos hoq hl hq i 0 1) rfl rfl rfl rfl (pqZ)) ?_
 rintro _ _ ⟨_, ⟨V', rfl, os', sc', ts', oq', qc', tq', rfl, hos', hoq', rfl⟩, rfl⟩
 refine WLa rfl (WLa rfl ?_)
 refine WL_do0 rfl rfl (D_store (vs := [_, _]) rfl Tryz.sizeOf76 rfl rfl rfl rfl rfl (plZ) (Nat.le_of_ble_eq_true rfl)) ?_
 rintro _ _ rfl
 refine WLa rfl (WL_nil (WQ_code (WC_ret ?_)))
 refine WQ_ret rfl rfl (.cons (.cell (vs := [_, _]) rfl ag76 (mmZ) rfl (atZ)) (.cons (.tmp rfl) .nil)) rfl (by
   exact ⟨_, rfl, os', sc', ts', oq', qc', tq', rfl, hos', hoq', rfl⟩) (pqZ)
theorem park_step (p pe pq pm : Nat) (S : List (Int × Nat)) (c : Nat) (tl : List Value) (Q : List (Nat × Int)) (n : Nat) (es : Array MapEntry) (mc : Nat) (sm qm : List Int) (hw : Tw sm qm S Q n es) (hn : n < 1000000) (i : Int) : Spec Tryz.prog 96 [ptrQ p, .int .i64 i] (tH p pe pq pm S c tl Q n es mc) (fun r H' => ∃ S' Q' n' es' mc' tl', r = .int .i64 (stepR sm qm 1 2 i).1 ∧ H' = tH p pe pq pm S' c tl' Q' n' es' mc' ∧ Tw (stepR sm qm 1 2 i).2.1 (stepR sm qm 1 2 i).2.2 S' Q' n' es' ∧ n' ≤ n + 1) :=
 (park_ok p pe pq pm S c tl Q n es mc hw.tk hw.mp hn i).mono fun r H' ⟨e, S', Q', n', es', mc', tl', h4, h5, h6, h7⟩ => by
  obtain ⟨rfl, h8, h9⟩ := doq_step hw h6 h7
  exact ⟨S', Q', n', es', mc', tl', h4, h5, h8, h9⟩
theorem rpark_ok (sm qm : List Int) (os : Option Nat) (sc : Nat) (ts : List Value) (oq : Option Nat) (qc : Nat) (tq : List Value) (hos : Own os sm.length sc 1 (ivs sm) ts) (hoq : Own oq qm.length qc 1 (ivs qm) tq) (hl : sm.length ≤ 64) (hq : qm.length ≤ 64) (i : Int) : Spec Tryz.prog 169 [rV os sm.length sc oq qm.length qc, .int .i64 i] (rH os sm ts oq qm tq) (fun r H' => ∃ V', r = .tuple #[V', .int .i64 (stepR sm qm 1 2 i).1] ∧ RefIs (stepR sm qm 1 2 i).2.1 (stepR sm qm 1 2 i).2.2 V' H') := by
 refine Spec.of (E := [(0, rV os sm.length sc oq qm.length qc), (1, .int .i64 i)]) Tryz.func169 rfl (by kernel_rfl) Tryz.ntmps169 rfl rfl (fun w => ?_)
 refine WC_seq (WC_region ?_)
 refine WL_do rfl rfl rfl (D_box (cs := [_, _]) rfl rfl rfl) ?_
 rintro _ _ ⟨b1, rfl, rfl⟩
 refine WL_do rfl rfl rfl (D_alloc rfl zv76) ?_
 rintro _ _ ⟨b2, rfl, rfl⟩
 refine WLa rfl (WL_nil (WQ_code (WC_seq (WC_region ?_))))
 refine WL_val rfl rfl rfl (R_loadA (vs := [_, _]) rfl ag76 rfl (mmZ) rfl (atZ)) ?_
 refine WLa rfl ?_
 refine WL_do rfl rfl rfl (D_call (change_ok sm qm os sc ts oq qc tq hos hoq hl hq i 1 2) rfl rfl rfl rfl (pqZ)) ?_
 rintro _ _ ⟨_, ⟨V', rfl, os', sc', ts', oq', qc', tq', rfl, hos', hoq', rfl⟩, rfl⟩
 refine WLa rfl (WLa rfl ?_)
 refine WL_do0 rfl rfl (D_store (vs := [_, _]) rfl Tryz.sizeOf76 rfl rfl rfl rfl rfl (plZ) (Nat.le_of_ble_eq_true rfl)) ?_
 rintro _ _ rfl
 refine WLa rfl (WL_nil (WQ_code (WC_ret ?_)))
 refine WQ_ret rfl rfl (.cons (.cell (vs := [_, _]) rfl ag76 (mmZ) rfl (atZ)) (.cons (.tmp rfl) .nil)) rfl (by
   exact ⟨_, rfl, os', sc', ts', oq', qc', tq', rfl, hos', hoq', rfl⟩) (pqZ)
theorem wake_step (p pe pq pm : Nat) (S : List (Int × Nat)) (c : Nat) (tl : List Value) (Q : List (Nat × Int)) (n : Nat) (es : Array MapEntry) (mc : Nat) (sm qm : List Int) (hw : Tw sm qm S Q n es) (hn : n < 1000000) (i : Int) : Spec Tryz.prog 161 [ptrQ p, .int .i64 i] (tH p pe pq pm S c tl Q n es mc) (fun r H' => ∃ S' Q' n' es' mc' tl', r = .int .i64 (stepR sm qm 2 1 i).1 ∧ H' = tH p pe pq pm S' c tl' Q' n' es' mc' ∧ Tw (stepR sm qm 2 1 i).2.1 (stepR sm qm 2 1 i).2.2 S' Q' n' es' ∧ n' ≤ n + 1) :=
 (wake_ok p pe pq pm S c tl Q n es mc hw.tk hw.mp hn i).mono fun r H' ⟨e, S', Q', n', es', mc', tl', h4, h5, h6, h7⟩ => by
  obtain ⟨rfl, h8, h9⟩ := doq_step hw h6 h7
  exact ⟨S', Q', n', es', mc', tl', h4, h5, h8, h9⟩
theorem rwake_ok (sm qm : List Int) (os : Option Nat) (sc : Nat) (ts : List Value) (oq : Option Nat) (qc : Nat) (tq : List Value) (hos : Own os sm.length sc 1 (ivs sm) ts) (hoq : Own oq qm.length qc 1 (ivs qm) tq) (hl : sm.length ≤ 64) (hq : qm.length ≤ 64) (i : Int) : Spec Tryz.prog 203 [rV os sm.length sc oq qm.length qc, .int .i64 i] (rH os sm ts oq qm tq) (fun r H' => ∃ V', r = .tuple #[V', .int .i64 (stepR sm qm 2 1 i).1] ∧ RefIs (stepR sm qm 2 1 i).2.1 (stepR sm qm 2 1 i).2.2 V' H') := by
 refine Spec.of (E := [(0, rV os sm.length sc oq qm.length qc), (1, .int .i64 i)]) Tryz.func203 rfl (by kernel_rfl) Tryz.ntmps203 rfl rfl (fun w => ?_)
 refine WC_seq (WC_region ?_)
 refine WL_do rfl rfl rfl (D_box (cs := [_, _]) rfl rfl rfl) ?_
 rintro _ _ ⟨b1, rfl, rfl⟩
 refine WL_do rfl rfl rfl (D_alloc rfl zv76) ?_
 rintro _ _ ⟨b2, rfl, rfl⟩
 refine WLa rfl (WL_nil (WQ_code (WC_seq (WC_region ?_))))
 refine WL_val rfl rfl rfl (R_loadA (vs := [_, _]) rfl ag76 rfl (mmZ) rfl (atZ)) ?_
 refine WLa rfl ?_
 refine WL_do rfl rfl rfl (D_call (change_ok sm qm os sc ts oq qc tq hos hoq hl hq i 2 1) rfl rfl rfl rfl (pqZ)) ?_
 rintro _ _ ⟨_, ⟨V', rfl, os', sc', ts', oq', qc', tq', rfl, hos', hoq', rfl⟩, rfl⟩
 refine WLa rfl (WLa rfl ?_)
 refine WL_do0 rfl rfl (D_store (vs := [_, _]) rfl Tryz.sizeOf76 rfl rfl rfl rfl rfl (plZ) (Nat.le_of_ble_eq_true rfl)) ?_
 rintro _ _ rfl
 refine WLa rfl (WL_nil (WQ_code (WC_ret ?_)))
 refine WQ_ret rfl rfl (.cons (.cell (vs := [_, _]) rfl ag76 (mmZ) rfl (atZ)) (.cons (.tmp rfl) .nil)) rfl (by
   exact ⟨_, rfl, os', sc', ts', oq', qc', tq', rfl, hos', hoq', rfl⟩) (pqZ)
theorem finish_step (p pe pq pm : Nat) (S : List (Int × Nat)) (c : Nat) (tl : List Value) (Q : List (Nat × Int)) (n : Nat) (es : Array MapEntry) (mc : Nat) (sm qm : List Int) (hw : Tw sm qm S Q n es) (hn : n < 1000000) (i : Int) : Spec Tryz.prog 116 [ptrQ p, .int .i64 i] (tH p pe pq pm S c tl Q n es mc) (fun r H' => ∃ S' Q' n' es' mc' tl', r = .int .i64 (stepR sm qm 1 0 i).1 ∧ H' = tH p pe pq pm S' c tl' Q' n' es' mc' ∧ Tw (stepR sm qm 1 0 i).2.1 (stepR sm qm 1 0 i).2.2 S' Q' n' es' ∧ n' ≤ n + 1) :=
 (finish_ok p pe pq pm S c tl Q n es mc hw.tk hw.mp hn i).mono fun r H' ⟨e, S', Q', n', es', mc', tl', h4, h5, h6, h7⟩ => by
  obtain ⟨rfl, h8, h9⟩ := doq_step hw h6 h7
  exact ⟨S', Q', n', es', mc', tl', h4, h5, h8, h9⟩
theorem rfinish_ok (sm qm : List Int) (os : Option Nat) (sc : Nat) (ts : List Value) (oq : Option Nat) (qc : Nat) (tq : List Value) (hos : Own os sm.length sc 1 (ivs sm) ts) (hoq : Own oq qm.length qc 1 (ivs qm) tq) (hl : sm.length ≤ 64) (hq : qm.length ≤ 64) (i : Int) : Spec Tryz.prog 175 [rV os sm.length sc oq qm.length qc, .int .i64 i] (rH os sm ts oq qm tq) (fun r H' => ∃ V', r = .tuple #[V', .int .i64 (stepR sm qm 1 0 i).1] ∧ RefIs (stepR sm qm 1 0 i).2.1 (stepR sm qm 1 0 i).2.2 V' H') := by
 refine Spec.of (E := [(0, rV os sm.length sc oq qm.length qc), (1, .int .i64 i)]) Tryz.func175 rfl (by kernel_rfl) Tryz.ntmps175 rfl rfl (fun w => ?_)
 refine WC_seq (WC_region ?_)
 refine WL_do rfl rfl rfl (D_box (cs := [_, _]) rfl rfl rfl) ?_
 rintro _ _ ⟨b1, rfl, rfl⟩
 refine WL_do rfl rfl rfl (D_alloc rfl zv76) ?_
 rintro _ _ ⟨b2, rfl, rfl⟩
 refine WLa rfl (WL_nil (WQ_code (WC_seq (WC_region ?_))))
 refine WL_val rfl rfl rfl (R_loadA (vs := [_, _]) rfl ag76 rfl (mmZ) rfl (atZ)) ?_
 refine WLa rfl ?_
 refine WL_do rfl rfl rfl (D_call (change_ok sm qm os sc ts oq qc tq hos hoq hl hq i 1 0) rfl rfl rfl rfl (pqZ)) ?_
 rintro _ _ ⟨_, ⟨V', rfl, os', sc', ts', oq', qc', tq', rfl, hos', hoq', rfl⟩, rfl⟩
 refine WLa rfl (WLa rfl ?_)
 refine WL_do0 rfl rfl (D_store (vs := [_, _]) rfl Tryz.sizeOf76 rfl rfl rfl rfl rfl (plZ) (Nat.le_of_ble_eq_true rfl)) ?_
 rintro _ _ rfl
 refine WLa rfl (WL_nil (WQ_code (WC_ret ?_)))
 refine WQ_ret rfl rfl (.cons (.cell (vs := [_, _]) rfl ag76 (mmZ) rfl (atZ)) (.cons (.tmp rfl) .nil)) rfl (by
   exact ⟨_, rfl, os', sc', ts', oq', qc', tq', rfl, hos', hoq', rfl⟩) (pqZ)
theorem turn_step (p pe pq pm : Nat) (S : List (Int × Nat)) (c : Nat) (tl : List Value) (Q : List (Nat × Int)) (n : Nat) (es : Array MapEntry) (mc : Nat) (sm qm : List Int) (hw : Tw sm qm S Q n es) (hn : n < 1000000) (i : Int) : Spec Tryz.prog 117 [ptrQ p, .int .i64 i] (tH p pe pq pm S c tl Q n es mc) (fun r H' => ∃ S' Q' n' es' mc' tl', r = .int .i64 (stepR sm qm 1 1 i).1 ∧ H' = tH p pe pq pm S' c tl' Q' n' es' mc' ∧ Tw (stepR sm qm 1 1 i).2.1 (stepR sm qm 1 1 i).2.2 S' Q' n' es' ∧ n' ≤ n + 1) :=
 (turn_ok p pe pq pm S c tl Q n es mc hw.tk hw.mp hn i).mono fun r H' ⟨e, S', Q', n', es', mc', tl', h4, h5, h6, h7⟩ => by
  obtain ⟨rfl, h8, h9⟩ := doq_step hw h6 h7
  exact ⟨S', Q', n', es', mc', tl', h4, h5, h8, h9⟩
theorem rturn_ok (sm qm : List Int) (os : Option Nat) (sc : Nat) (ts : List Value) (oq : Option Nat) (qc : Nat) (tq : List Value) (hos : Own os sm.length sc 1 (ivs sm) ts) (hoq : Own oq qm.length qc 1 (ivs qm) tq) (hl : sm.length ≤ 64) (hq : qm.length ≤ 64) (i : Int) : Spec Tryz.prog 176 [rV os sm.length sc oq qm.length qc, .int .i64 i] (rH os sm ts oq qm tq) (fun r H' => ∃ V', r = .tuple #[V', .int .i64 (stepR sm qm 1 1 i).1] ∧ RefIs (stepR sm qm 1 1 i).2.1 (stepR sm qm 1 1 i).2.2 V' H') := by
 refine Spec.of (E := [(0, rV os sm.length sc oq qm.length qc), (1, .int .i64 i)]) Tryz.func176 rfl (by kernel_rfl) Tryz.ntmps176 rfl rfl (fun w => ?_)
 refine WC_seq (WC_region ?_)
 refine WL_do rfl rfl rfl (D_box (cs := [_, _]) rfl rfl rfl) ?_
 rintro _ _ ⟨b1, rfl, rfl⟩
 refine WL_do rfl rfl rfl (D_alloc rfl zv76) ?_
 rintro _ _ ⟨b2, rfl, rfl⟩
 refine WLa rfl (WL_nil (WQ_code (WC_seq (WC_region ?_))))
 refine WL_val rfl rfl rfl (R_loadA (vs := [_, _]) rfl ag76 rfl (mmZ) rfl (atZ)) ?_
 refine WLa rfl ?_
 refine WL_do rfl rfl rfl (D_call (change_ok sm qm os sc ts oq qc tq hos hoq hl hq i 1 1) rfl rfl rfl rfl (pqZ)) ?_
 rintro _ _ ⟨_, ⟨V', rfl, os', sc', ts', oq', qc', tq', rfl, hos', hoq', rfl⟩, rfl⟩
 refine WLa rfl (WLa rfl ?_)
 refine WL_do0 rfl rfl (D_store (vs := [_, _]) rfl Tryz.sizeOf76 rfl rfl rfl rfl rfl (plZ) (Nat.le_of_ble_eq_true rfl)) ?_
 rintro _ _ rfl
 refine WLa rfl (WL_nil (WQ_code (WC_ret ?_)))
 refine WQ_ret rfl rfl (.cons (.cell (vs := [_, _]) rfl ag76 (mmZ) rfl (atZ)) (.cons (.tmp rfl) .nil)) rfl (by
   exact ⟨_, rfl, os', sc', ts', oq', qc', tq', rfl, hos', hoq', rfl⟩) (pqZ)
end Go.Proofs.YtbkdebnkoidicaaGreat
end
section
set_option linter.unusedVariables false
set_option maxRecDepth 20000
set_option maxHeartbeats 1000000
namespace Go.Proofs.YtbkdebnkoidicaaGreat
structure TkM where
 p : Nat
 pe : Nat
 pq : Nat
 pm : Nat
 S : List (Int × Nat)
 c : Nat
 tl : List Value
 Q : List (Nat × Int)
 n : Nat
 es : Array MapEntry
 mc : Nat
abbrev tkH (t : TkM) : Heap := tH t.p t.pe t.pq t.pm t.S t.c t.tl t.Q t.n t.es t.mc
abbrev TkIs (sm qm : List Int) (t : TkM) : Prop := Tw sm qm t.S t.Q t.n t.es
theorem TkIs.sl {sm qm : List Int} {t : TkM} (h : TkIs sm qm t) : t.S.length = sm.length := by rw [← h.sm, List.length_map]
theorem TkIs.len {sm qm : List Int} {t : TkM} (h : TkIs sm qm t) : 1 ≤ sm.length ∧ sm.length ≤ 64 := by rw [← h.sl]; exact h.tk.len
theorem tk_new (m : Nat) (h1 : 1 ≤ m) (h2 : m ≤ 64) : Spec Tryz.prog 84 [.int .i64 (m : Int)] [] (fun r H' => ∃ t : TkM, r = .tuple #[ptrQ t.p, .int .i64 0] ∧ H' = tkH t ∧ t.n = 0 ∧ TkIs (List.replicate m 0) [] t) :=
 (tnew_ok m h1 h2).mono fun r H' ⟨p, pe, pq, pm, e1, e2⟩ => ⟨⟨p, pe, pq, pm, idle m, m, [], [], 0, #[], 0⟩, e1, e2, rfl, tw_idle h1 h2⟩
theorem tk_state (t : TkM) (sm qm : List Int) (hw : TkIs sm qm t) (i : Int) : Spec Tryz.prog 118 [ptrQ t.p, .int .i64 i] (tkH t) (fun r H' => r = .tuple #[.int .i64 (stR sm i).1, .int .i64 (stR sm i).2] ∧ H' = tkH t) :=
 ((state_R t.p t.pe t.pq t.pm t.S t.c t.tl t.Q t.n t.es t.mc sm qm hw i).fr (qH t.pq t.pm t.Q t.n t.es t.mc)).mono fun r H' ⟨H1, ⟨e1, e2⟩, e3⟩ => ⟨e1, by rw [e3, e2]⟩
theorem tk_ready (t : TkM) (sm qm : List Int) (hw : TkIs sm qm t) : Spec Tryz.prog 112 [ptrQ t.p] (tkH t) (fun r H' => ∃ ob c' tl', r = slV ob qm.length c' ∧ Own ob qm.length c' 1 (ivs qm) tl' ∧ H' = ⟨ob, cl (ivs qm ++ tl') 3⟩ :: (tkH t)) :=
 ready_run t.p t.pe t.pq t.pm t.S t.c t.tl t.Q t.n t.es t.mc sm qm hw
theorem tk_copy (t : TkM) (sm qm : List Int) (hw : TkIs sm qm t) : Spec Tryz.prog 143 [ptrQ t.p] (tkH t) (fun r H' => ∃ t' : TkM, r = ptrQ t'.p ∧ H' = tkH t' ++ tkH t ∧ t'.n = t.n ∧ TkIs sm qm t') :=
 (copy_ok t.p t.pe t.pq t.pm t.S t.c t.tl t.Q t.n t.es t.mc hw.tk.len).mono fun r H' ⟨p2, pe2, pq2, pm2, c2, tl2, e1, e2⟩ => ⟨⟨p2, pe2, pq2, pm2, t.S, c2, tl2, t.Q, t.n, t.es, t.mc⟩, e1, e2, rfl, hw⟩
theorem tk_start (t : TkM) (sm qm : List Int) (hw : TkIs sm qm t) (hn : t.n < 1000000) (i : Int) : Spec Tryz.prog 92 [ptrQ t.p, .int .i64 i] (tkH t) (fun r H' => ∃ t' : TkM, r = .int .i64 (stepR sm qm 0 1 i).1 ∧ H' = tkH t' ∧ t'.p = t.p ∧ t'.n ≤ t.n + 1 ∧ TkIs (stepR sm qm 0 1 i).2.1 (stepR sm qm 0 1 i).2.2 t') :=
 (start_step t.p t.pe t.pq t.pm t.S t.c t.tl t.Q t.n t.es t.mc sm qm hw hn i).mono fun r H' ⟨S', Q', n', es', mc', tl', e1, e2, e3, e4⟩ => ⟨⟨t.p, t.pe, t.pq, t.pm, S', t.c, tl', Q', n', es', mc'⟩, e1, e2, rfl, e4, e3⟩
theorem tk_park (t : TkM) (sm qm : List Int) (hw : TkIs sm qm t) (hn : t.n < 1000000) (i : Int) : Spec Tryz.prog 96 [ptrQ t.p, .int .i64 i] (tkH t) (fun r H' => ∃ t' : TkM, r = .int .i64 (stepR sm qm 1 2 i).1 ∧ H' = tkH t' ∧ t'.p = t.p ∧ t'.n ≤ t.n + 1 ∧ TkIs (stepR sm qm 1 2 i).2.1 (stepR sm qm 1 2 i).2.2 t') :=
 (park_step t.p t.pe t.pq t.pm t.S t.c t.tl t.Q t.n t.es t.mc sm qm hw hn i).mono fun r H' ⟨S', Q', n', es', mc', tl', e1, e2, e3, e4⟩ => ⟨⟨t.p, t.pe, t.pq, t.pm, S', t.c, tl', Q', n', es', mc'⟩, e1, e2, rfl, e4, e3⟩
theorem tk_wake (t : TkM) (sm qm : List Int) (hw : TkIs sm qm t) (hn : t.n < 1000000) (i : Int) : Spec Tryz.prog 161 [ptrQ t.p, .int .i64 i] (tkH t) (fun r H' => ∃ t' : TkM, r = .int .i64 (stepR sm qm 2 1 i).1 ∧ H' = tkH t' ∧ t'.p = t.p ∧ t'.n ≤ t.n + 1 ∧ TkIs (stepR sm qm 2 1 i).2.1 (stepR sm qm 2 1 i).2.2 t') :=
 (wake_step t.p t.pe t.pq t.pm t.S t.c t.tl t.Q t.n t.es t.mc sm qm hw hn i).mono fun r H' ⟨S', Q', n', es', mc', tl', e1, e2, e3, e4⟩ => ⟨⟨t.p, t.pe, t.pq, t.pm, S', t.c, tl', Q', n', es', mc'⟩, e1, e2, rfl, e4, e3⟩
theorem tk_finish (t : TkM) (sm qm : List Int) (hw : TkIs sm qm t) (hn : t.n < 1000000) (i : Int) : Spec Tryz.prog 116 [ptrQ t.p, .int .i64 i] (tkH t) (fun r H' => ∃ t' : TkM, r = .int .i64 (stepR sm qm 1 0 i).1 ∧ H' = tkH t' ∧ t'.p = t.p ∧ t'.n ≤ t.n + 1 ∧ TkIs (stepR sm qm 1 0 i).2.1 (stepR sm qm 1 0 i).2.2 t') :=
 (finish_step t.p t.pe t.pq t.pm t.S t.c t.tl t.Q t.n t.es t.mc sm qm hw hn i).mono fun r H' ⟨S', Q', n', es', mc', tl', e1, e2, e3, e4⟩ => ⟨⟨t.p, t.pe, t.pq, t.pm, S', t.c, tl', Q', n', es', mc'⟩, e1, e2, rfl, e4, e3⟩
theorem tk_turn (t : TkM) (sm qm : List Int) (hw : TkIs sm qm t) (hn : t.n < 1000000) (i : Int) : Spec Tryz.prog 117 [ptrQ t.p, .int .i64 i] (tkH t) (fun r H' => ∃ t' : TkM, r = .int .i64 (stepR sm qm 1 1 i).1 ∧ H' = tkH t' ∧ t'.p = t.p ∧ t'.n ≤ t.n + 1 ∧ TkIs (stepR sm qm 1 1 i).2.1 (stepR sm qm 1 1 i).2.2 t') :=
 (turn_step t.p t.pe t.pq t.pm t.S t.c t.tl t.Q t.n t.es t.mc sm qm hw hn i).mono fun r H' ⟨S', Q', n', es', mc', tl', e1, e2, e3, e4⟩ => ⟨⟨t.p, t.pe, t.pq, t.pm, S', t.c, tl', Q', n', es', mc'⟩, e1, e2, rfl, e4, e3⟩
end Go.Proofs.YtbkdebnkoidicaaGreat
end
section
set_option linter.unusedVariables false
set_option maxRecDepth 20000
namespace Go.Proofs.YtbkdebnkoidicaaGreat
abbrev Sp := Int × Int
structure Wt where
 i : Nat
 at_ : Sp
def wAt (W : List Wt) (s : Sp) : List Int := (W.filter (fun w => decide (w.at_ = s))).map (fun w => (w.i : Int))
def wOut (W : List Wt) (i : Int) : List Wt := W.filter (fun w => decide ((w.i : Int) ≠ i))
structure PS where
 sm : List Int
 qm : List Int
 W : List Wt
def vldS (s : Sp) : Prop := 0 ≤ s.1 ∧ s.1 < 128 ∧ (s.2 = 0 ∨ s.2 = 1)
instance (s : Sp) : Decidable (vldS s) := inferInstanceAs (Decidable (_ ∧ _ ∧ (_ ∨ _)))
def PS.step (s : PS) (fr to i : Int) : PS := ⟨(stepR s.sm s.qm fr to i).2.1, (stepR s.sm s.qm fr to i).2.2, s.W⟩
def PS.out (s : PS) (i : Int) : PS := ⟨(stepR s.sm s.qm 2 1 i).2.1, (stepR s.sm s.qm 2 1 i).2.2, wOut s.W i⟩
def PS.add (s : PS) (i : Nat) (at_ : Sp) : PS := ⟨(stepR s.sm s.qm 1 2 i).2.1, (stepR s.sm s.qm 1 2 i).2.2, s.W ++ [⟨i, at_⟩]⟩
def PS.parkE (s : PS) (i : Int) (at_ : Sp) : Int := if (stR s.sm i).2 ≠ 0 then (stR s.sm i).2 else if vldS at_ then (if (stR s.sm i).1 = 1 then 0 else 8) else 2
def PS.park (s : PS) (i : Int) (at_ : Sp) : PS := if s.parkE i at_ = 0 then s.add i.toNat at_ else s
def PS.whr (s : PS) (i : Int) : Sp × Int := if (stR s.sm i).2 ≠ 0 then ((0, 0), (stR s.sm i).2) else match s.W.find? (fun w => decide ((w.i : Int) = i)) with
 | some w => (w.at_, 0)
 | none => ((0, 0), 8)
def PS.leave (s : PS) (i : Int) : PS := if (s.whr i).2 = 0 then s.out i else s
def PS.waiting (s : PS) (at_ : Sp) : List Int := if vldS at_ then wAt s.W at_ else []
def spE (at_ : Sp) : Int := if vldS at_ then 0 else 2
def PS.wakeAll (s : PS) (at_ : Sp) : PS := (s.waiting at_).foldl PS.out s
def PS.wakeR (s : PS) (at_ : Sp) : Int × Int := if vldS at_ then (match wAt s.W at_ with
 | [] => (0, 9)
 | v :: _ => (v, 0)) else (0, 2)
def PS.wake (s : PS) (at_ : Sp) : PS := if (s.wakeR at_).2 = 0 then s.out (s.wakeR at_).1 else s
structure PsOk (s : PS) : Prop where
 prk : ∀ i : Nat, s.sm[i]? = some 2 ↔ ∃ w ∈ s.W, w.i = i
 nd : (s.W.map (·.i)).Nodup
 len : s.sm.length ≤ 64
 vld : ∀ w ∈ s.W, vldS w.at_
theorem PsOk.new {m : Nat} (h : m ≤ 64) : PsOk ⟨List.replicate m 0, [], []⟩ := by
 refine ⟨fun i => ⟨fun h2 => ?_, fun ⟨w, hw, _⟩ => by cases hw⟩, .nil, by rw [List.length_replicate]; exact h, fun w hw => by cases hw⟩
 have := List.eq_of_mem_replicate (List.mem_of_getElem? h2)
 cases this
theorem stR_some {sm : List Int} {i : Int} (h : (stR sm i).2 = 0) : ∃ (j : Nat) (x : Int), i = (j : Int) ∧ sm[j]? = some x ∧ (stR sm i).1 = x := by
 by_cases hr : i < 0 ∨ (sm.length : Int) ≤ i
 ·rw [stR_out hr] at h; cases h
 ·obtain ⟨j, rfl⟩ := Int.eq_ofNat_of_zero_le (show 0 ≤ i by omega)
  obtain ⟨x, hx⟩ := exE (T := sm) (i := j) (by omega)
  exact ⟨j, x, rfl, hx, by rw [stR_in hx]⟩
theorem wOut_mem {W : List Wt} {i : Int} {w : Wt} : w ∈ wOut W i ↔ w ∈ W ∧ (w.i : Int) ≠ i := by
 unfold wOut; rw [List.mem_filter, decide_eq_true_eq]
theorem wAt_out (W : List Wt) (i : Int) (s : Sp) : wAt (wOut W i) s = (wAt W s).filter (fun v => decide (v ≠ i)) := by
 unfold wAt wOut
 rw [List.filter_map, List.filter_filter, List.filter_filter]
 congr 1
 refine List.filter_congr fun w _ => ?_
 rw [Bool.and_comm]; rfl
theorem wAt_snoc (W : List Wt) (i : Nat) (a s : Sp) : wAt (W ++ [⟨i, a⟩]) s = wAt W s ++ (if a = s then [(i : Int)] else []) := by
 unfold wAt
 rw [List.filter_append, List.map_append]
 by_cases h : a = s <;> simp [h]
theorem wAt_mem {W : List Wt} {s : Sp} {v : Int} : v ∈ wAt W s ↔ ∃ w ∈ W, w.at_ = s ∧ (w.i : Int) = v := by
 unfold wAt
 rw [List.mem_map]
 constructor
 ·rintro ⟨w, hw, e⟩
  obtain ⟨h1, h2⟩ := List.mem_filter.1 hw
  exact ⟨w, h1, of_decide_eq_true h2, e⟩
 ·rintro ⟨w, hw, h, e⟩
  exact ⟨w, List.mem_filter.2 ⟨hw, decide_eq_true h⟩, e⟩
theorem wAt_nodup {W : List Wt} (h : (W.map (·.i)).Nodup) (s : Sp) : (wAt W s).Nodup := by
 unfold wAt
 rw [List.Nodup, List.pairwise_map]
 rw [List.Nodup, List.pairwise_map] at h
 exact (h.filter _).imp fun hne e => hne (by omega)
theorem wt_one {W : List Wt} (h : (W.map (·.i)).Nodup) {a b : Wt} (ha : a ∈ W) (hb : b ∈ W) (e : a.i = b.i) : a = b := by
 obtain ⟨i, hi, rfl⟩ := List.mem_iff_getElem.1 ha
 obtain ⟨j, hj, rfl⟩ := List.mem_iff_getElem.1 hb
 rw [List.Nodup, List.pairwise_map, List.pairwise_iff_getElem] at h
 rcases Nat.lt_trichotomy i j with q | q | q
 ·exact absurd e (h i j hi hj q)
 ·subst q; rfl
 ·exact absurd e.symm (h j i hj hi q)
section
variable {s : PS}
theorem PsOk.find (h : PsOk s) {w : Wt} (hw : w ∈ s.W) : s.W.find? (fun u => decide ((u.i : Int) = (w.i : Int))) = some w := by
 cases hf : s.W.find? (fun u => decide ((u.i : Int) = (w.i : Int))) with
 | none =>
  have := List.find?_eq_none.1 hf w hw
  simp at this
 | some u =>
  have h1 := List.find?_some hf
  have h2 := List.mem_of_find?_eq_some hf
  rw [wt_one h.nd h2 hw (by simp at h1; omega)]
theorem PsOk.whr_out (h : PsOk s) {i : Int} (hr : i < 0 ∨ (s.sm.length : Int) ≤ i) : s.whr i = ((0, 0), 2) := by
 unfold PS.whr; rw [stR_out hr, if_pos (by decide)]
theorem PsOk.whr_no (h : PsOk s) {j : Nat} {x : Int} (hj : s.sm[j]? = some x) (hx : x ≠ 2) : s.whr j = ((0, 0), 8) := by
 unfold PS.whr
 rw [stR_in hj, if_neg (by simp)]
 have : s.W.find? (fun w => decide ((w.i : Int) = (j : Int))) = none := by
  rw [List.find?_eq_none]
  intro w hw
  simp only [decide_eq_true_eq]
  intro e
  have := (h.prk j).2 ⟨w, hw, by omega⟩
  rw [hj] at this
  exact hx (Option.some.inj this)
 rw [this]
theorem PsOk.whr_yes (h : PsOk s) {w : Wt} (hw : w ∈ s.W) : s.whr w.i = (w.at_, 0) := by
 have hj := (h.prk w.i).2 ⟨w, hw, rfl⟩
 unfold PS.whr
 rw [stR_in hj, if_neg (by simp), h.find hw]
theorem PsOk.step_ (h : PsOk s) (fr to i : Int) (hf : fr ≠ 2) (ht : to ≠ 2) : PsOk (s.step fr to i) := by
 unfold PS.step
 by_cases hr : i < 0 ∨ (s.sm.length : Int) ≤ i
 ·rw [stepR_out hr]; exact h
 ·obtain ⟨j, rfl⟩ := Int.eq_ofNat_of_zero_le (show 0 ≤ i by omega)
  obtain ⟨x, hx⟩ := exE (T := s.sm) (i := j) (by omega)
  by_cases e : x = fr
  ·subst e
   rw [stepR_ok hx]
   refine ⟨fun k => ?_, h.nd, by dsimp only; rw [List.length_set]; exact h.len, h.vld⟩
   dsimp only
   rw [List.getElem?_set, ← h.prk k]
   by_cases q : j = k
   ·subst q
    rw [if_pos rfl, if_pos (List.getElem?_eq_some_iff.1 hx).1, hx]
    simp [hf, ht]
   ·rw [if_neg q]
  ·rw [stepR_bad hx e]; exact h
theorem PsOk.add_ (h : PsOk s) {i : Nat} {at_ : Sp} (hi : s.sm[i]? = some 1) (ha : vldS at_) : PsOk (s.add i at_) := by
 unfold PS.add
 rw [stepR_ok hi]
 have hno : ∀ w ∈ s.W, w.i ≠ i := fun w hw e => by
  have := (h.prk i).2 ⟨w, hw, e⟩
  rw [hi] at this; cases this
 refine ⟨fun k => ?_, ?_, by dsimp only; rw [List.length_set]; exact h.len, fun w hw => ?_⟩
 ·dsimp only
  rw [List.getElem?_set]
  by_cases q : i = k
  ·subst q
   rw [if_pos rfl, if_pos (List.getElem?_eq_some_iff.1 hi).1]
   exact ⟨fun _ => ⟨⟨i, at_⟩, List.mem_append_right _ (List.mem_singleton.2 rfl), rfl⟩, fun _ => rfl⟩
  ·rw [if_neg q, h.prk k]
   constructor
   ·rintro ⟨w, hw, e⟩; exact ⟨w, List.mem_append_left _ hw, e⟩
   ·rintro ⟨w, hw, e⟩
    rcases List.mem_append.1 hw with hw | hw
    ·exact ⟨w, hw, e⟩
    ·rw [List.mem_singleton] at hw; subst hw; exact absurd e q
 ·dsimp only
  rw [List.map_append, List.nodup_append]
  refine ⟨h.nd, by simp, fun x hx y hy => ?_⟩
  obtain ⟨w, hw, rfl⟩ := List.mem_map.1 hx
  have := hno w hw
  simp at hy
  omega
 ·rcases List.mem_append.1 hw with hw | hw
  ·exact h.vld w hw
  ·rw [List.mem_singleton] at hw; subst hw; exact ha
theorem PsOk.out_ (h : PsOk s) {w : Wt} (hw : w ∈ s.W) : PsOk (s.out w.i) := by
 have hi := (h.prk w.i).2 ⟨w, hw, rfl⟩
 unfold PS.out
 rw [stepR_ok hi]
 refine ⟨fun k => ?_, ?_, by dsimp only; rw [List.length_set]; exact h.len, fun u hu => h.vld u (wOut_mem.1 hu).1⟩
 ·dsimp only
  rw [List.getElem?_set]
  by_cases q : w.i = k
  ·subst q
   rw [if_pos rfl, if_pos (List.getElem?_eq_some_iff.1 hi).1]
   constructor
   ·intro e; cases e
   ·rintro ⟨u, hu, e⟩
    exact absurd (by omega) (wOut_mem.1 hu).2
  ·rw [if_neg q, h.prk k]
   constructor
   ·rintro ⟨u, hu, e⟩; exact ⟨u, wOut_mem.2 ⟨hu, by omega⟩, e⟩
   ·rintro ⟨u, hu, e⟩; exact ⟨u, (wOut_mem.1 hu).1, e⟩
 ·exact h.nd.sublist ((List.filter_sublist (l := s.W)).map _)
theorem PsOk.few (h : PsOk s) : s.W.length ≤ 64 := by
 have h2 := pigeon (s.W.map (·.i)) (List.range s.sm.length) h.nd (fun k hk => by
  obtain ⟨w, hw, rfl⟩ := List.mem_map.1 hk
  exact List.mem_range.2 (List.getElem?_eq_some_iff.1 ((h.prk w.i).2 ⟨w, hw, rfl⟩)).1)
 rw [List.length_map, List.length_range] at h2
 have := h.len
 omega
theorem wAt_len (W : List Wt) (s : Sp) : (wAt W s).length ≤ W.length := by
 unfold wAt; rw [List.length_map]; exact List.length_filter_le _ _
theorem park_ok' (h : PsOk s) {i : Nat} {at_ : Sp} (hi : s.sm[i]? = some 1) (ha : vldS at_) : s.parkE i at_ = 0 ∧ s.park i at_ = s.add i at_ := by
 have e : s.parkE i at_ = 0 := by unfold PS.parkE; rw [stR_in hi, if_neg (by simp), if_pos ha, if_pos rfl]
 exact ⟨e, by unfold PS.park; rw [if_pos e, Int.toNat_natCast]⟩
theorem park_no (s : PS) {i : Int} {at_ : Sp} (h : s.parkE i at_ ≠ 0) : s.park i at_ = s := by unfold PS.park; rw [if_neg h]
theorem leave_no (s : PS) {i : Int} (h : (s.whr i).2 ≠ 0) : s.leave i = s := by unfold PS.leave; rw [if_neg h]
theorem leave_yes (s : PS) {i : Int} (h : (s.whr i).2 = 0) : s.leave i = s.out i := by unfold PS.leave; rw [if_pos h]
theorem whr_some (h : PsOk s) {i : Int} (hz : (s.whr i).2 = 0) : ∃ w ∈ s.W, i = (w.i : Int) ∧ s.whr i = (w.at_, 0) := by
 by_cases hr : i < 0 ∨ (s.sm.length : Int) ≤ i
 ·rw [h.whr_out hr] at hz; cases hz
 ·obtain ⟨j, rfl⟩ := Int.eq_ofNat_of_zero_le (show 0 ≤ i by omega)
  obtain ⟨x, hx⟩ := exE (T := s.sm) (i := j) (by omega)
  by_cases e : x = 2
  ·subst e
   obtain ⟨w, hw, rfl⟩ := (h.prk j).1 hx
   exact ⟨w, hw, rfl, h.whr_yes hw⟩
  ·rw [h.whr_no hx e] at hz; cases hz
theorem wakes_ok (h : PsOk s) (at_ : Sp) : ∀ (k : Nat), k ≤ (wAt s.W at_).length → PsOk (((wAt s.W at_).take k).foldl PS.out s) ∧ wAt (((wAt s.W at_).take k).foldl PS.out s).W at_ = (wAt s.W at_).drop k ∧ (((wAt s.W at_).take k).foldl PS.out s).sm.length = s.sm.length := by
 intro k
 induction k with
 | zero => intro _; rw [List.take_zero, List.foldl_nil, List.drop_zero]; exact ⟨h, rfl, rfl⟩
 | succ k ih =>
  intro hk
  obtain ⟨h1, h2, h3⟩ := ih (by omega)
  obtain ⟨v, hv⟩ := exE (T := wAt s.W at_) (i := k) (by omega)
  have hd : (wAt s.W at_).drop k = v :: (wAt s.W at_).drop (k + 1) := by
   obtain ⟨hl, rfl⟩ := List.getElem?_eq_some_iff.1 hv
   exact List.drop_eq_getElem_cons hl
  rw [take_get hv, List.foldl_append, List.foldl_cons, List.foldl_nil]
  rw [hd] at h2
  obtain ⟨w, hw, ha, rfl⟩ := wAt_mem.1 (show v ∈ wAt (((wAt s.W at_).take k).foldl PS.out s).W at_ by rw [h2]; exact List.mem_cons_self ..)
  refine ⟨h1.out_ hw, ?_, ?_⟩
  ·show wAt (wOut _ _) at_ = _
   rw [wAt_out, h2]
   have hnd : ((w.i : Int) :: (wAt s.W at_).drop (k + 1)).Nodup := by rw [← h2]; exact wAt_nodup h1.nd at_
   rw [List.nodup_cons] at hnd
   rw [List.filter_cons_of_neg (by simp)]
   exact List.filter_eq_self.2 fun x hx => decide_eq_true fun e => hnd.1 (e ▸ hx)
  ·show (stepR _ _ _ _ _).2.1.length = _
   rw [stepR_len, h3]
end
end Go.Proofs.YtbkdebnkoidicaaGreat
end
section
set_option linter.unusedVariables false
set_option maxRecDepth 20000
namespace Go.Proofs.YtbkdebnkoidicaaGreat
abbrev ekS (s : Int × Int) : Value := .agg #[.int .i64 s.1, .int .i64 s.2]
theorem ekS_inj (a b : Int × Int) (h : ekS a = ekS b) : a = b := by
 simp only [ekS, Value.agg.injEq, Array.mk.injEq, List.cons.injEq, Value.int.injEq] at h
 exact Prod.ext h.1.2 h.2.1.2
theorem spot_equal (a b : Int × Int) (w : World) : (Op.equal 108 (ekS a) (ekS b)).run Tryz.prog w = .ok (decide (a = b)) w := by
 have h := eqin108_10000 a.1 b.1 a.2 b.2 w
 have e : decide (a = b) = decide (a.1 = b.1 ∧ a.2 = b.2) := decide_eq_decide.2 Prod.ext_iff
 rw [e]; exact h
theorem spot_ask (k : Int × Int) : ∀ (l : List MapEntry) (i : Nat) (w : World), (∀ x ∈ l, ∃ k', x.key = ekS k') → ∃ r, (Instr.findAsking 108 (ekS k) l i).run Tryz.prog w = .ok r w ∧ ((r = none ∧ ∀ x ∈ l, x.key ≠ ekS k) ∨ ∃ (j : Nat) (e : MapEntry), r = some (i + j, e.val) ∧ l[j]? = some e ∧ e.key = ekS k)
 | [], i, w, _ => ⟨none, rfl, .inl ⟨rfl, fun x hx => by cases hx⟩⟩
 | e :: l, i, w, h => by
  obtain ⟨k', hk⟩ := h e (List.mem_cons_self ..)
  have h1 := spot_equal k k' w
  by_cases q : k = k'
  ·subst q
   rw [decide_eq_true rfl] at h1
   exact ⟨some (i, e.val), by simp [Instr.findAsking, hk, h1, Result.andThen], .inr ⟨0, e, rfl, rfl, hk⟩⟩
  ·rw [decide_eq_false q] at h1
   obtain ⟨r, h2, h3⟩ := spot_ask k l (i + 1) w (fun x hx => h x (List.mem_cons_of_mem _ hx))
   refine ⟨r, by simp [Instr.findAsking, hk, h1, h2, Result.andThen], ?_⟩
   rcases h3 with ⟨rfl, h3⟩ | ⟨j, e2, rfl, h4, h5⟩
   ·refine .inl ⟨rfl, fun x hx => ?_⟩
    rcases List.mem_cons.1 hx with rfl | hx
    ·rw [hk]; exact fun e9 => q (ekS_inj _ _ e9).symm
    ·exact h3 x hx
   ·exact .inr ⟨j + 1, e2, by rw [show i + (j + 1) = i + 1 + j from by omega], h4, h5⟩
theorem spot_chk (em : Bool) (n : Nat) (k : Int × Int) (w : World) : (Instr.checkKey em (n + 2) 108 (ekS k)).run Tryz.prog w = .ok () w := by
 have h1 : (Instr.checkKey em (n + 1) 3 (.int .i64 k.1)).run Tryz.prog w = .ok () w := MapKept.run_checkKey Tryz.underlying3 (show MapKept.IsKey (.int .i64) (.int .i64 k.1) from rfl) em n
 have h2 : (Instr.checkKey em (n + 1) 44 (.int .i64 k.2)).run Tryz.prog w = .ok () w := MapKept.run_checkKey Tryz.underlying44 (show MapKept.IsKey (.int .i64) (.int .i64 k.2) from rfl) em n
 rw [Instr.checkKey]
 simp only [Sem.run_bind, run_underlying Tryz.underlying108, Result.andThen_ok]
 rw [← Array.forIn_toList]
 simp [part, Tryz.isAgg3, Tryz.isAgg44, Result.andThen, h1, h2]
theorem spot_key : KeyOk Tryz.prog 108 ekS := by
 refine ⟨fun em k w => spot_chk em 9998 k w, fun k l w h => ?_, ekS_inj⟩
 ·obtain ⟨r, h1, h2⟩ := spot_ask k l 0 w h
  refine ⟨r, ?_, ?_⟩
  ·cases l with
   | nil =>
    simp [Instr.findKey, run_underlying Tryz.underlying108, Instr.findNow, Result.andThen]
    rcases h2 with ⟨rfl, _⟩ | ⟨j, e, _, h4, _⟩
    ·rfl
    ·cases h4
   | cons e l =>
    obtain ⟨k', hk⟩ := h e (List.mem_cons_self ..)
    simp [Instr.findKey, run_underlying Tryz.underlying108, Instr.findNow, hk, Instr.sameNow, Result.andThen, h1]
  ·rcases h2 with h2 | ⟨j, e, h3, h4⟩
   ·exact .inl h2
   ·exact .inr ⟨j, e, by rw [h3, Nat.zero_add], h4⟩
end Go.Proofs.YtbkdebnkoidicaaGreat
end
section
set_option linter.unusedVariables false
set_option maxRecDepth 20000
namespace Go.Proofs.YtbkdebnkoidicaaGreat
structure QM where
 p : Nat
 mb : Nat
 l : List (Nat × Int)
 n : Nat
 es : Array MapEntry
 mc : Nat
abbrev qmH (q : QM) : Heap := qH q.p q.mb q.l q.n q.es q.mc
abbrev evP (q : QM) : Value := ptrQ q.p
def qsH : List (Sp × QM) → Heap
 | [] => []
 | x :: R => qmH x.2 ++ qsH R
theorem qsH_perm {A B : List (Sp × QM)} (h : A.Perm B) : (qsH A).Perm (qsH B) := by
 induction h with
 | nil => exact .refl _
 | cons x _ ih => exact List.Perm.append_left _ ih
 | swap x y l =>
  show (qmH y.2 ++ (qmH x.2 ++ qsH l)).Perm (qmH x.2 ++ (qmH y.2 ++ qsH l))
  rw [← List.append_assoc, ← List.append_assoc]
  exact List.Perm.append_right _ List.perm_append_comm
 | trans _ _ a b => exact a.trans b
abbrev encSeat (x : Sp × Nat) : List Value := [.int .i64 x.1.1, .int .i64 x.1.2, .int .u64 (x.2 : Int)]
theorem encSeat3 (x : Sp × Nat) : (encSeat x).length = 3 := rfl
structure PkM where
 p : Nat
 bs : Nat
 mb : Nat
 t : TkM
 seats : List (Sp × Nat)
 cs : Nat
 ts : List Value
 mes : Array MapEntry
 mc : Nat
 QL : List (Sp × QM)
abbrev pkR (p bs mb pt : Nat) (seats : List (Sp × Nat)) (cs : Nat) (ts : List Value) (mes : Array MapEntry) (mc : Nat) : Heap := [⟨some p, cl [ptrQ pt, .slice (some ⟨bs, 0, none⟩) seats.length cs, .map (some mb)] 154⟩, ⟨some bs, cl (seats.flatMap encSeat ++ ts) 182⟩, ⟨some mb, .map mes mc⟩]
abbrev pkH (l : PkM) : Heap := pkR l.p l.bs l.mb l.t.p l.seats l.cs l.ts l.mes l.mc ++ (tkH l.t ++ qsH l.QL)
theorem pkH_perm (l : PkM) {B : List (Sp × QM)} (h : l.QL.Perm B) : (pkH l).Perm (pkH { l with QL := B }) := List.Perm.append_left _ (List.Perm.append_left _ (qsH_perm h))
structure QOk (N : Nat) (q : QM) : Prop where
 qk : Qk q.l q.n
 mp : Mp (.int .u64) ekQ evQ q.es (nds 0 0 q.l)
 n : q.n ≤ N
structure PkIs (N : Nat) (s : PS) (l : PkM) : Prop where
 ps : PsOk s
 tk : TkIs s.sm s.qm l.t
 tn : l.t.n ≤ N
 ln : l.seats.length = s.sm.length
 mpk : Mk ekS evP l.mes l.mc l.QL
 q : ∀ x ∈ l.QL, QOk N x.2 ∧ x.2.l.map (·.2) = wAt s.W x.1
 seat : ∀ w ∈ s.W, ∃ t q, l.seats[w.i]? = some (w.at_, t) ∧ (w.at_, q) ∈ l.QL ∧ (t, (w.i : Int)) ∈ q.l
section
variable {N : Nat} {s : PS} {l : PkM}
theorem PkIs.to (h : PkIs N s l) {B : List (Sp × QM)} (p : l.QL.Perm B) : PkIs N s { l with QL := B } :=
 ⟨h.ps, h.tk, h.tn, h.ln, h.mpk.to p, fun x hx => h.q x (p.mem_iff.2 hx), fun w hw => by
  obtain ⟨t, q, h1, h2, h3⟩ := h.seat w hw
  exact ⟨t, q, h1, p.mem_iff.1 h2, h3⟩⟩
theorem PkIs.mono (h : PkIs N s l) {M : Nat} (hm : N ≤ M) : PkIs M s l :=
 ⟨h.ps, h.tk, Nat.le_trans h.tn hm, h.ln, h.mpk, fun x hx => ⟨⟨(h.q x hx).1.qk, (h.q x hx).1.mp, Nat.le_trans (h.q x hx).1.n hm⟩, (h.q x hx).2⟩, h.seat⟩
theorem PkIs.qlen (h : PkIs N s l) {x : Sp × QM} (hx : x ∈ l.QL) : x.2.l.length ≤ 64 := by
 have h1 := wAt_len s.W x.1
 have h2 := h.ps.few
 have h3 := congrArg List.length (h.q x hx).2
 rw [List.length_map] at h3
 omega
theorem PkIs.absent (h : PkIs N s l) {a : Sp} (ha : a ∉ l.QL.map (·.1)) : wAt s.W a = [] := by
 rw [List.eq_nil_iff_forall_not_mem]
 intro v hv
 obtain ⟨w, hw, rfl, _⟩ := wAt_mem.1 hv
 obtain ⟨t, q, _, h2, _⟩ := h.seat w hw
 exact ha (List.mem_map.2 ⟨_, h2, rfl⟩)
theorem PkIs.addkey (h : PkIs N s l) {a : Sp} (ha : a ∉ l.QL.map (·.1)) (pq pm : Nat) {mes' : Array MapEntry} {mc' : Nat} (hm : Mk ekS evP mes' mc' ((a, ⟨pq, pm, [], 0, #[], 0⟩) :: l.QL)) : PkIs N s { l with mes := mes', mc := mc', QL := (a, ⟨pq, pm, [], 0, #[], 0⟩) :: l.QL } :=
 ⟨h.ps, h.tk, h.tn, h.ln, hm, fun x hx => by
  rcases List.mem_cons.1 hx with rfl | hx
  ·exact ⟨⟨Qk.empty 0, mp_new, Nat.zero_le _⟩, by rw [h.absent ha]; rfl⟩
  ·exact h.q x hx, fun w hw => by
  obtain ⟨t, q, h1, h2, h3⟩ := h.seat w hw
  exact ⟨t, q, h1, List.mem_cons_of_mem _ h2, h3⟩⟩
theorem mk_swap {mes : Array MapEntry} {mc : Nat} {a : Sp} {q q' : QM} {R : List (Sp × QM)} (h : Mk ekS evP mes mc ((a, q) :: R)) (hp : q'.p = q.p) : Mk ekS evP mes mc ((a, q') :: R) :=
 ⟨by have := h.perm; simp only [List.map_cons, evP] at this ⊢; rw [hp]; exact this, by have := h.nodup; simpa using this, h.born, h.bnd⟩
theorem keys_ne {a : Sp} {q : QM} {R : List (Sp × QM)} (h : (((a, q) :: R).map (·.1)).Nodup) {x : Sp × QM} (hx : x ∈ R) : x.1 ≠ a := fun e => by
 rw [List.map_cons, List.nodup_cons] at h
 exact h.1 (List.mem_map.2 ⟨x, hx, e⟩)
theorem PkIs.push (h : PkIs N s l) {a : Sp} {q : QM} {R : List (Sp × QM)} (hQ : l.QL = (a, q) :: R) {i : Nat} (hi : s.sm[i]? = some 1) (ha : vldS a) {t' : TkM} (ht : TkIs (stepR s.sm s.qm 1 2 i).2.1 (stepR s.sm s.qm 1 2 i).2.2 t') (htn : t'.n ≤ N + 1)
  {q' : QM} (hp : q'.p = q.p) (hql : q'.l = q.l ++ [(q.n + 1, (i : Int))]) (hqn : q'.n = q.n + 1) (hqm : Mp (.int .u64) ekQ evQ q'.es (nds 0 0 q'.l)) :
  PkIs (N + 1) (s.add i a) { l with t := t', seats := l.seats.set i (a, q.n + 1), QL := (a, q') :: R } := by
 have hno : ∀ w ∈ s.W, w.i ≠ i := fun w hw e => by
  have := (h.ps.prk i).2 ⟨w, hw, e⟩
  rw [hi] at this; cases this
 have hil : i < l.seats.length := by rw [h.ln]; exact (List.getElem?_eq_some_iff.1 hi).1
 have hmk := h.mpk
 rw [hQ] at hmk
 have hq0 := h.q (a, q) (by rw [hQ]; exact List.mem_cons_self ..)
 refine ⟨h.ps.add_ hi ha, ht, htn, ?_, mk_swap hmk hp, fun x hx => ?_, fun w hw => ?_⟩
 ·show (l.seats.set i _).length = (stepR _ _ _ _ _).2.1.length
  rw [List.length_set, stepR_len, h.ln]
 ·show _ ∧ _ = wAt (s.W ++ [⟨i, a⟩]) x.1
  rw [wAt_snoc]
  rcases List.mem_cons.1 hx with rfl | hx
  ·refine ⟨⟨by rw [hql, hqn]; exact hq0.1.qk.push _, hqm, by rw [hqn]; have := hq0.1.n; dsimp only at this; omega⟩, ?_⟩
   rw [if_pos rfl, hql, List.map_append, hq0.2]; rfl
  ·have hne := keys_ne hmk.nodup hx
   have hq1 := h.q x (by rw [hQ]; exact List.mem_cons_of_mem _ hx)
   rw [if_neg (fun e => hne e.symm), List.append_nil]
   exact ⟨⟨hq1.1.qk, hq1.1.mp, by have := hq1.1.n; omega⟩, hq1.2⟩
 ·rcases List.mem_append.1 hw with hw | hw
  ·obtain ⟨t, q9, h1, h2, h3⟩ := h.seat w hw
   have hne := hno w hw
   rw [hQ] at h2
   rcases List.mem_cons.1 h2 with e | h2
   ·simp only [Prod.mk.injEq] at e
    obtain ⟨e1, rfl⟩ := e
    exact ⟨t, q', by dsimp only; rw [List.getElem?_set, if_neg (Ne.symm hne)]; exact h1, by rw [e1]; exact List.mem_cons_self .., by rw [hql]; exact List.mem_append_left _ h3⟩
   ·exact ⟨t, q9, by dsimp only; rw [List.getElem?_set, if_neg (Ne.symm hne)]; exact h1, List.mem_cons_of_mem _ h2, h3⟩
  ·rw [List.mem_singleton] at hw
   subst hw
   exact ⟨q.n + 1, q', by dsimp only; rw [List.getElem?_set, if_pos rfl, if_pos hil], List.mem_cons_self .., by rw [hql]; exact List.mem_append_right _ (List.mem_singleton.2 rfl)⟩
theorem mid_filter {A B : List (Nat × Int)} {t : Nat} {v : Int} (h : ((A ++ (t, v) :: B).map (·.2)).Nodup) : ((A ++ (t, v) :: B).map (·.2)).filter (fun x => decide (x ≠ v)) = (A ++ B).map (·.2) := by
 have h1 := ((List.perm_middle (l₁ := A) (a := (t, v)) (l₂ := B)).map (fun x : Nat × Int => x.2)).nodup_iff.1 h
 rw [List.map_cons, List.nodup_cons] at h1
 have hA : (A.map (·.2)).filter (fun x => decide (x ≠ v)) = A.map (·.2) := List.filter_eq_self.2 fun x hx => decide_eq_true fun e => h1.1 (by rw [List.map_append]; exact List.mem_append_left _ (e ▸ hx))
 have hB : (B.map (·.2)).filter (fun x => decide (x ≠ v)) = B.map (·.2) := List.filter_eq_self.2 fun x hx => decide_eq_true fun e => h1.1 (by rw [List.map_append]; exact List.mem_append_right _ (e ▸ hx))
 rw [List.map_append, List.map_cons, List.filter_append, List.filter_cons_of_neg (by simp), hA, hB, List.map_append]
theorem PkIs.pop (h : PkIs N s l) {w : Wt} (hw : w ∈ s.W) {q : QM} {R : List (Sp × QM)} (hQ : l.QL = (w.at_, q) :: R) {A B : List (Nat × Int)} {t : Nat} (hq : q.l = A ++ (t, (w.i : Int)) :: B) {t' : TkM} (ht : TkIs (stepR s.sm s.qm 2 1 w.i).2.1 (stepR s.sm s.qm 2 1 w.i).2.2 t') (htn : t'.n ≤ N + 1)
  {q' : QM} (hp : q'.p = q.p) (hql : q'.l = A ++ B) (hqn : q'.n = q.n) (hqm : Mp (.int .u64) ekQ evQ q'.es (nds 0 0 q'.l)) :
  PkIs (N + 1) (s.out w.i) { l with t := t', QL := (w.at_, q') :: R } := by
 have hmk := h.mpk
 rw [hQ] at hmk
 have hq0 := h.q (w.at_, q) (by rw [hQ]; exact List.mem_cons_self ..)
 have hnd := wAt_nodup h.ps.nd w.at_
 rw [← hq0.2, hq] at hnd
 refine ⟨h.ps.out_ hw, ht, htn, ?_, mk_swap hmk hp, fun x hx => ?_, fun u hu => ?_⟩
 ·show l.seats.length = (stepR _ _ _ _ _).2.1.length
  rw [stepR_len, h.ln]
 ·show _ ∧ _ = wAt (wOut s.W w.i) x.1
  rw [wAt_out]
  rcases List.mem_cons.1 hx with rfl | hx
  ·refine ⟨⟨by rw [hql, hqn]; have h9 := hq0.1.qk; rw [hq] at h9; exact h9.rem, hqm, by rw [hqn]; have := hq0.1.n; dsimp only at this; omega⟩, ?_⟩
   rw [hql, ← hq0.2, hq]
   exact (mid_filter hnd).symm
  ·have hne := keys_ne hmk.nodup hx
   have hq1 := h.q x (by rw [hQ]; exact List.mem_cons_of_mem _ hx)
   refine ⟨⟨hq1.1.qk, hq1.1.mp, by have := hq1.1.n; omega⟩, ?_⟩
   rw [hq1.2]
   have hall : ∀ v ∈ wAt s.W x.1, v ≠ (w.i : Int) := fun v hv e => by
    obtain ⟨u, hu, e1, e2⟩ := wAt_mem.1 hv
    have := wt_one h.ps.nd hu hw (by omega)
    subst this
    exact hne e1.symm
   exact (List.filter_eq_self.2 fun v hv => decide_eq_true (hall v hv)).symm
 ·obtain ⟨hu1, hu2⟩ := wOut_mem.1 hu
  obtain ⟨t9, q9, h1, h2, h3⟩ := h.seat u hu1
  rw [hQ] at h2
  rcases List.mem_cons.1 h2 with e | h2
  ·simp only [Prod.mk.injEq] at e
   obtain ⟨e1, rfl⟩ := e
   refine ⟨t9, q', h1, by rw [e1]; exact List.mem_cons_self .., ?_⟩
   rw [hq] at h3
   rw [hql]
   rcases List.mem_append.1 h3 with h3 | h3
   ·exact List.mem_append_left _ h3
   ·rcases List.mem_cons.1 h3 with h3 | h3
    ·simp only [Prod.mk.injEq] at h3; exact absurd h3.2 hu2
    ·exact List.mem_append_right _ h3
  ·exact ⟨t9, q9, h1, List.mem_cons_of_mem _ h2, h3⟩
theorem PkIs.step (h : PkIs N s l) (fr to i : Int) (hf : fr ≠ 2) (hto : to ≠ 2) {t' : TkM} (ht : TkIs (stepR s.sm s.qm fr to i).2.1 (stepR s.sm s.qm fr to i).2.2 t') (htn : t'.n ≤ N + 1) : PkIs (N + 1) (s.step fr to i) { l with t := t' } :=
 ⟨h.ps.step_ fr to i hf hto, ht, htn, by show l.seats.length = (stepR _ _ _ _ _).2.1.length; rw [stepR_len, h.ln], h.mpk, fun x hx => ⟨⟨(h.q x hx).1.qk, (h.q x hx).1.mp, by have := (h.q x hx).1.n; omega⟩, (h.q x hx).2⟩, h.seat⟩
theorem PkIs.at_ (h : PkIs N s l) {w : Wt} (hw : w ∈ s.W) : ∃ (t : Nat) (q : QM) (R : List (Sp × QM)) (A B : List (Nat × Int)), l.seats[w.i]? = some (w.at_, t) ∧ l.QL.Perm ((w.at_, q) :: R) ∧ q.l = A ++ (t, (w.i : Int)) :: B := by
 obtain ⟨t, q, h1, h2, h3⟩ := h.seat w hw
 obtain ⟨A, B, e⟩ := List.append_of_mem h3
 obtain ⟨P, Q, e2⟩ := List.append_of_mem h2
 exact ⟨t, q, P ++ Q, A, B, h1, by rw [e2]; exact List.perm_middle, e⟩
theorem key_or (l : PkM) (a : Sp) : a ∉ l.QL.map (·.1) ∨ ∃ (q : QM) (R : List (Sp × QM)), l.QL.Perm ((a, q) :: R) := by
 by_cases h : a ∈ l.QL.map (·.1)
 ·obtain ⟨⟨a2, q⟩, hx, rfl⟩ := List.mem_map.1 h
  obtain ⟨P, Q, e⟩ := List.append_of_mem hx
  exact .inr ⟨q, P ++ Q, by rw [e]; exact List.perm_middle⟩
 ·exact .inl h
end
end Go.Proofs.YtbkdebnkoidicaaGreat
end
section
set_option linter.unusedVariables false
set_option maxRecDepth 20000
set_option maxHeartbeats 1000000
namespace Go.Proofs.YtbkdebnkoidicaaGreat
theorem pk_zero (l : PkM) : Spec Tryz.prog 91 [ptrQ l.p] (pkH l) (fun r H' => r = .bool false ∧ H' = pkH l) := by
 refine Spec.of (E := [(0, ptrQ l.p)]) Tryz.func91 rfl (by kernel_rfl) Tryz.ntmps91 rfl rfl (fun w => ?_)
 refine WC_seq (WC_region (WLa rfl (WL_nil (WQ_code (WC_seq (WC_region (WLa rfl ?_)))))))
 refine WL_val rfl rfl rfl (R_ptrEqNil rfl Tryz.underlying89 rfl) ?_
 refine WLa rfl (WLa rfl (WLa rfl ?_))
 refine WL_val rfl rfl rfl (R_fieldAddr rfl fa154_0 rfl) ?_
 refine WL_val rfl rfl rfl (R_load rfl sc148 rfl (mmY) rfl) ?_
 refine WL_val rfl rfl rfl (R_ptrEqNil rfl Tryz.underlying148 rfl) ?_
 refine WLa rfl (WLa rfl (WL_nil (WQ_code (WC_ret ?_))))
 refine WQ_ret rfl rfl (.cons (.tmp rfl) .nil) rfl (by
   exact ⟨rfl, rfl⟩) (pqY)
theorem valid_ok (a : Sp) : Spec Tryz.prog 93 [ekS a] [] (fun r H' => r = .bool (decide (vldS a)) ∧ H' = []) := by
 refine Spec.of (E := [(0, ekS a)]) Tryz.func93 rfl (by kernel_rfl) Tryz.ntmps93 rfl rfl (fun w => ?_)
 refine WC_seq (WC_region ?_)
 refine WL_do rfl rfl rfl (D_box (cs := [_, _]) rfl rfl rfl) ?_
 rintro _ _ ⟨b1, rfl, rfl⟩
 refine WLa rfl (WL_nil (WQ_code (WC_seq (WC_region ?_))))
 refine WL_val rfl rfl rfl (R_fieldAddr rfl fa108_0 rfl) ?_
 refine WL_val rfl rfl rfl (R_load rfl sc3 rfl (mmY) rfl) ?_
 refine WL_val rfl rfl rfl (R_geq rfl rfl rfl) ?_
 refine WLa rfl ?_
 refine WL_splitD (s := 6) rfl (fun c1 => ?_) (fun c1 => ?_)
 ·refine WL_val rfl rfl rfl (R_fieldAddr rfl fa108_0 rfl) ?_
  refine WL_val rfl rfl rfl (R_load rfl sc3 rfl (mmY) rfl) ?_
  refine WL_val rfl rfl rfl (R_lss rfl rfl rfl) ?_
  refine WLa rfl (WLa rfl ?_)
  refine WL_splitD (s := 11) rfl (fun c2 => ?_) (fun c2 => ?_)
  ·refine WL_val rfl rfl rfl (R_fieldAddr rfl fa108_1 rfl) ?_
   refine WL_val rfl rfl rfl (R_load rfl sc44 rfl (mmY) rfl) ?_
   refine WL_val rfl rfl rfl (R_eql rfl rfl rfl) ?_
   refine WLa rfl ?_
   refine WL_splitD (s := 15) rfl (fun c3 => ?_) (fun c3 => ?_)
   ·refine WL_skip rfl rfl rfl ?_
    refine WL_skip rfl rfl rfl ?_
    refine WL_skip rfl rfl rfl ?_
    refine WLa rfl (WLa rfl (WLa rfl (WL_nil (WQ_code (WC_ret ?_)))))
    refine WQ_ret rfl rfl (.cons (.tmp rfl) .nil) rfl (by
      exact ⟨congrArg Value.bool (by first | exact (decide_eq_false (by unfold vldS; omega)).symm | exact (decide_eq_true (by unfold vldS; omega)).symm | exact decide_eq_decide.2 (by unfold vldS; omega)), rfl⟩) (pqY)
   ·refine WL_val rfl rfl rfl (R_fieldAddr rfl fa108_1 rfl) ?_
    refine WL_val rfl rfl rfl (R_load rfl sc44 rfl (mmY) rfl) ?_
    refine WL_val rfl rfl rfl (R_eql rfl rfl rfl) ?_
    refine WLa rfl (WLa rfl (WLa rfl (WL_nil (WQ_code (WC_ret ?_)))))
    refine WQ_ret rfl rfl (.cons (.tmp rfl) .nil) rfl (by
      exact ⟨congrArg Value.bool (by first | exact (decide_eq_false (by unfold vldS; omega)).symm | exact (decide_eq_true (by unfold vldS; omega)).symm | exact decide_eq_decide.2 (by unfold vldS; omega)), rfl⟩) (pqY)
  ·refine WL_skip rfl rfl rfl ?_
   refine WL_skip rfl rfl rfl ?_
   refine WL_skip rfl rfl rfl ?_
   refine WL_skip rfl rfl rfl ?_
   refine WL_skip rfl rfl rfl ?_
   refine WL_skip rfl rfl rfl ?_
   refine WL_skip rfl rfl rfl ?_
   refine WL_skip rfl rfl rfl ?_
   refine WLa rfl (WLa rfl (WL_nil (WQ_code (WC_ret ?_))))
   refine WQ_ret rfl rfl (.cons (.tmp rfl) .nil) rfl (by
     exact ⟨congrArg Value.bool (by first | exact (decide_eq_false (by unfold vldS; omega)).symm | exact (decide_eq_true (by unfold vldS; omega)).symm | exact decide_eq_decide.2 (by unfold vldS; omega)), rfl⟩) (pqY)
 ·refine WL_skip rfl rfl rfl ?_
  refine WL_skip rfl rfl rfl ?_
  refine WL_skip rfl rfl rfl ?_
  refine WLa rfl (WLa rfl ?_)
  refine WL_skip rfl rfl rfl ?_
  refine WL_skip rfl rfl rfl ?_
  refine WL_skip rfl rfl rfl ?_
  refine WL_skip rfl rfl rfl ?_
  refine WL_skip rfl rfl rfl ?_
  refine WL_skip rfl rfl rfl ?_
  refine WL_skip rfl rfl rfl ?_
  refine WL_skip rfl rfl rfl ?_
  refine WLa rfl (WLa rfl (WL_nil (WQ_code (WC_ret ?_))))
  refine WQ_ret rfl rfl (.cons (.tmp rfl) .nil) rfl (by
    exact ⟨congrArg Value.bool (by first | exact (decide_eq_false (by unfold vldS; omega)).symm | exact (decide_eq_true (by unfold vldS; omega)).symm | exact decide_eq_decide.2 (by unfold vldS; omega)), rfl⟩) (pqY)
theorem pk_state (N : Nat) (s : PS) (l : PkM) (hl : PkIs N s l) (i : Int) : Spec Tryz.prog 58 [ptrQ l.p, .int .i64 i] (pkH l) (fun r H' => r = .tuple #[.int .i64 (stR s.sm i).1, .int .i64 (stR s.sm i).2] ∧ H' = pkH l) := by
 refine Spec.of (E := [(0, ptrQ l.p), (1, .int .i64 i)]) Tryz.func58 rfl (by kernel_rfl) Tryz.ntmps58 rfl rfl (fun w => ?_)
 refine WC_seq (WC_region (WLa rfl (WLa rfl (WL_nil (WQ_code (WC_seq (WC_seq (WC_region (WLa rfl ?_)))))))))
 refine WL_do rfl rfl rfl (D_call (pk_zero l) rfl rfl rfl rfl (pqY)) ?_
 rintro _ _ ⟨_, ⟨rfl, rfl⟩, rfl⟩
 refine WL_nil (WQ_code ?_)
 refine WC_F rfl ?_
 refine WC_skip (WQ_code (WC_seq (WC_region (WLa rfl (WLa rfl ?_)))))
 refine WL_val rfl rfl rfl (R_fieldAddr rfl fa154_0 rfl) ?_
 refine WL_val rfl rfl rfl (R_load rfl sc148 rfl (mmY) rfl) ?_
 refine WLa rfl ?_
 refine WL_do rfl rfl rfl (D_call (tk_state l.t s.sm s.qm hl.tk i) rfl rfl rfl rfl (pqY)) ?_
 rintro _ _ ⟨_, ⟨rfl, rfl⟩, rfl⟩
 refine WLa rfl (WLa rfl (WLa rfl (WLa rfl (WL_nil (WQ_code (WC_ret ?_))))))
 refine WQ_ret rfl rfl (.cons (.tmp rfl) (.cons (.tmp rfl) .nil)) rfl (by
   exact ⟨rfl, rfl⟩) (pqY)
theorem pk_ready (N : Nat) (s : PS) (l : PkM) (hl : PkIs N s l) : Spec Tryz.prog 51 [ptrQ l.p] (pkH l) (fun r H' => ∃ ob c' tl', r = slV ob s.qm.length c' ∧ Own ob s.qm.length c' 1 (ivs s.qm) tl' ∧ H' = ⟨ob, cl (ivs s.qm ++ tl') 3⟩ :: pkH l) := by
 refine Spec.of (E := [(0, ptrQ l.p)]) Tryz.func51 rfl (by kernel_rfl) Tryz.ntmps51 rfl rfl (fun w => ?_)
 refine WC_seq (WC_region (WLa rfl (WL_nil (WQ_code (WC_seq (WC_seq (WC_region (WLa rfl ?_))))))))
 refine WL_do rfl rfl rfl (D_call (pk_zero l) rfl rfl rfl rfl (pqY)) ?_
 rintro _ _ ⟨_, ⟨rfl, rfl⟩, rfl⟩
 refine WL_nil (WQ_code ?_)
 refine WC_F rfl ?_
 refine WC_skip (WQ_code (WC_seq (WC_region (WLa rfl (WLa rfl ?_)))))
 refine WL_val rfl rfl rfl (R_fieldAddr rfl fa154_0 rfl) ?_
 refine WL_val rfl rfl rfl (R_load rfl sc148 rfl (mmY) rfl) ?_
 refine WL_do rfl rfl rfl (D_call (tk_ready l.t s.sm s.qm hl.tk) rfl rfl rfl rfl (pqY)) ?_
 rintro _ _ ⟨_, ⟨ob, c', tl', rfl, own', rfl⟩, rfl⟩
 refine WLa rfl (WL_nil (WQ_code (WC_ret ?_)))
 refine WQ_ret rfl rfl (.cons (.tmp rfl) .nil) rfl (by
   exact ⟨ob, c', tl', rfl, own', rfl⟩) (pqY)
theorem pk_start (N : Nat) (s : PS) (l : PkM) (hl : PkIs N s l) (hN : N < 900000) (i : Int) : Spec Tryz.prog 46 [ptrQ l.p, .int .i64 i] (pkH l) (fun r H' => ∃ l' : PkM, r = .int .i64 (stepR s.sm s.qm 0 1 i).1 ∧ H' = pkH l' ∧ l'.p = l.p ∧ PkIs (N + 1) (s.step 0 1 i) l') := by
 have htn := hl.tn
 refine Spec.of (E := [(0, ptrQ l.p), (1, .int .i64 i)]) Tryz.func46 rfl (by kernel_rfl) Tryz.ntmps46 rfl rfl (fun w => ?_)
 refine WC_seq (WC_region (WLa rfl (WL_nil (WQ_code (WC_seq (WC_seq (WC_region (WLa rfl ?_))))))))
 refine WL_do rfl rfl rfl (D_call (pk_zero l) rfl rfl rfl rfl (pqY)) ?_
 rintro _ _ ⟨_, ⟨rfl, rfl⟩, rfl⟩
 refine WL_nil (WQ_code ?_)
 refine WC_F rfl ?_
 refine WC_skip (WQ_code (WC_seq (WC_region (WLa rfl (WLa rfl ?_)))))
 refine WL_val rfl rfl rfl (R_fieldAddr rfl fa154_0 rfl) ?_
 refine WL_val rfl rfl rfl (R_load rfl sc148 rfl (mmY) rfl) ?_
 refine WLa rfl ?_
 refine WL_do rfl rfl rfl (D_call (tk_start l.t s.sm s.qm hl.tk (by omega) i) rfl rfl rfl rfl (pqY)) ?_
 rintro _ _ ⟨_, ⟨t', rfl, rfl, htp, htn', ht'⟩, rfl⟩
 rw [← htp]
 refine WLa rfl (WL_nil (WQ_code (WC_ret ?_)))
 refine WQ_ret rfl rfl (.cons (.tmp rfl) .nil) rfl (by
   exact ⟨{ l with t := t' }, rfl, rfl, rfl, hl.step 0 1 i (by decide) (by decide) ht' (by omega)⟩) (pqY)
theorem pk_fin (N : Nat) (s : PS) (l : PkM) (hl : PkIs N s l) (hN : N < 900000) (i : Int) : Spec Tryz.prog 56 [ptrQ l.p, .int .i64 i] (pkH l) (fun r H' => ∃ l' : PkM, r = .int .i64 (stepR s.sm s.qm 1 0 i).1 ∧ H' = pkH l' ∧ l'.p = l.p ∧ PkIs (N + 1) (s.step 1 0 i) l') := by
 have htn := hl.tn
 refine Spec.of (E := [(0, ptrQ l.p), (1, .int .i64 i)]) Tryz.func56 rfl (by kernel_rfl) Tryz.ntmps56 rfl rfl (fun w => ?_)
 refine WC_seq (WC_region (WLa rfl (WL_nil (WQ_code (WC_seq (WC_seq (WC_region (WLa rfl ?_))))))))
 refine WL_do rfl rfl rfl (D_call (pk_zero l) rfl rfl rfl rfl (pqY)) ?_
 rintro _ _ ⟨_, ⟨rfl, rfl⟩, rfl⟩
 refine WL_nil (WQ_code ?_)
 refine WC_F rfl ?_
 refine WC_skip (WQ_code (WC_seq (WC_region (WLa rfl (WLa rfl ?_)))))
 refine WL_val rfl rfl rfl (R_fieldAddr rfl fa154_0 rfl) ?_
 refine WL_val rfl rfl rfl (R_load rfl sc148 rfl (mmY) rfl) ?_
 refine WLa rfl ?_
 refine WL_do rfl rfl rfl (D_call (tk_finish l.t s.sm s.qm hl.tk (by omega) i) rfl rfl rfl rfl (pqY)) ?_
 rintro _ _ ⟨_, ⟨t', rfl, rfl, htp, htn', ht'⟩, rfl⟩
 rw [← htp]
 refine WLa rfl (WL_nil (WQ_code (WC_ret ?_)))
 refine WQ_ret rfl rfl (.cons (.tmp rfl) .nil) rfl (by
   exact ⟨{ l with t := t' }, rfl, rfl, rfl, hl.step 1 0 i (by decide) (by decide) ht' (by omega)⟩) (pqY)
theorem pk_turn (N : Nat) (s : PS) (l : PkM) (hl : PkIs N s l) (hN : N < 900000) (i : Int) : Spec Tryz.prog 57 [ptrQ l.p, .int .i64 i] (pkH l) (fun r H' => ∃ l' : PkM, r = .int .i64 (stepR s.sm s.qm 1 1 i).1 ∧ H' = pkH l' ∧ l'.p = l.p ∧ PkIs (N + 1) (s.step 1 1 i) l') := by
 have htn := hl.tn
 refine Spec.of (E := [(0, ptrQ l.p), (1, .int .i64 i)]) Tryz.func57 rfl (by kernel_rfl) Tryz.ntmps57 rfl rfl (fun w => ?_)
 refine WC_seq (WC_region (WLa rfl (WL_nil (WQ_code (WC_seq (WC_seq (WC_region (WLa rfl ?_))))))))
 refine WL_do rfl rfl rfl (D_call (pk_zero l) rfl rfl rfl rfl (pqY)) ?_
 rintro _ _ ⟨_, ⟨rfl, rfl⟩, rfl⟩
 refine WL_nil (WQ_code ?_)
 refine WC_F rfl ?_
 refine WC_skip (WQ_code (WC_seq (WC_region (WLa rfl (WLa rfl ?_)))))
 refine WL_val rfl rfl rfl (R_fieldAddr rfl fa154_0 rfl) ?_
 refine WL_val rfl rfl rfl (R_load rfl sc148 rfl (mmY) rfl) ?_
 refine WLa rfl ?_
 refine WL_do rfl rfl rfl (D_call (tk_turn l.t s.sm s.qm hl.tk (by omega) i) rfl rfl rfl rfl (pqY)) ?_
 rintro _ _ ⟨_, ⟨t', rfl, rfl, htp, htn', ht'⟩, rfl⟩
 rw [← htp]
 refine WLa rfl (WL_nil (WQ_code (WC_ret ?_)))
 refine WQ_ret rfl rfl (.cons (.tmp rfl) .nil) rfl (by
   exact ⟨{ l with t := t' }, rfl, rfl, rfl, hl.step 1 1 i (by decide) (by decide) ht' (by omega)⟩) (pqY)
theorem pnew_bad (m : Int) (h : m < 1 ∨ 64 < m) : Spec Tryz.prog 38 [.int .i64 m] [] (fun r H' => r = .tuple #[.pointer none, .int .i64 2] ∧ H' = []) := by
 refine Spec.of (E := [(0, .int .i64 m)]) Tryz.func38 rfl (by kernel_rfl) Tryz.ntmps38 rfl rfl (fun w => ?_)
 refine WC_seq (WC_region (WLa rfl (WLa rfl (WL_nil (WQ_code (WC_seq (WC_region (WLa rfl ?_))))))))
 refine WL_do rfl rfl rfl (D_call (tnew_bad m h) rfl rfl rfl rfl (pqY)) ?_
 rintro _ _ ⟨_, ⟨rfl, rfl⟩, rfl⟩
 refine WLa rfl (WLa rfl (WLa rfl (WLa rfl (WLa rfl (WL_nil (WQ_code (WC_seq (WC_seq (WC_region (WLa rfl ?_))))))))))
 refine WL_val rfl rfl rfl (R_neq rfl rfl rfl) ?_
 refine WL_nil (WQ_code ?_)
 refine WC_dT rfl (by decide) ?_
 refine WC_seq (WC_region (WLa rfl (WLa rfl (WLa rfl (WL_nil (WQ_code (WC_ret ?_)))))))
 refine WQ_ret rfl rfl (.cons (.tmp rfl) (.cons (.tmp rfl) .nil)) rfl (by
   exact ⟨rfl, rfl⟩) (pqY)
def seats0 (m : Nat) : List (Sp × Nat) := List.replicate m ((0, 0), 0)
theorem pnew_ok (m : Nat) (h1 : 1 ≤ m) (h2 : m ≤ 64) : Spec Tryz.prog 38 [.int .i64 (m : Int)] [] (fun r H' => ∃ l : PkM, r = .tuple #[ptrQ l.p, .int .i64 0] ∧ H' = pkH l ∧ PkIs 0 ⟨List.replicate m 0, [], []⟩ l) := by
 refine Spec.of (E := [(0, .int .i64 (m : Int))]) Tryz.func38 rfl (by kernel_rfl) Tryz.ntmps38 rfl rfl (fun w => ?_)
 refine WC_seq (WC_region (WLa rfl (WLa rfl (WL_nil (WQ_code (WC_seq (WC_region (WLa rfl ?_))))))))
 refine WL_do rfl rfl rfl (D_call (tk_new m h1 h2) rfl rfl rfl rfl (pqY)) ?_
 rintro _ _ ⟨_, ⟨t, rfl, rfl, htn, ht⟩, rfl⟩
 refine WLa rfl (WLa rfl (WLa rfl (WLa rfl (WLa rfl (WL_nil (WQ_code (WC_seq (WC_seq (WC_region (WLa rfl ?_))))))))))
 refine WL_val rfl rfl rfl (R_neq rfl rfl rfl) ?_
 refine WL_nil (WQ_code ?_)
 refine WC_dF rfl (by decide) ?_
 refine WC_skip (WQ_code (WC_seq (WC_region (WLa rfl (WLa rfl ?_)))))
 refine WL_do rfl rfl rfl (D_make (n := m) rfl si151 rfl rfl (by omega) (by omega)) ?_
 rintro _ _ ⟨b1, rfl, rfl⟩
 rw [show (List.replicate m [Value.int .i64 0, .int .i64 0, .int .u64 0]).flatten = (seats0 m).flatMap encSeat ++ [] from by rw [List.append_nil, seats0, ← fm_rep]; rfl, show Value.slice (some ⟨b1, 0, none⟩) m m = Value.slice (some ⟨b1, 0, none⟩) (seats0 m).length m from by rw [seats0, List.length_replicate]]
 refine WL_do rfl rfl rfl (D_makeMap rfl) ?_
 rintro _ _ ⟨mb, rfl, rfl⟩
 refine WL_val rfl rfl rfl (R_build rfl zv154 pl154 rfl rfl) ?_
 refine WL_do rfl rfl rfl (D_box (cs := [_, _, _]) rfl rfl rfl) ?_
 rintro _ _ ⟨b2, rfl, rfl⟩
 refine WLa rfl (WLa rfl (WL_nil (WQ_code (WC_ret ?_))))
 refine WQ_ret rfl rfl (.cons (.tmp rfl) (.cons (.tmp rfl) .nil)) rfl (by
   exact ⟨⟨b2, b1, mb, t, seats0 m, m, [], #[], 0, []⟩, rfl, rfl, PsOk.new h2, ht, by rw [htn]; exact Nat.le_refl _, by rw [seats0, List.length_replicate, List.length_replicate], Mk.empty, fun x hx => (by cases hx), fun w hw => (by cases hw)⟩) (pqY)
end Go.Proofs.YtbkdebnkoidicaaGreat
end
section
namespace Go.Proofs.YtbkdebnkoidicaaGreat
section
variable {X : Ctx} {E : Env} {H : Heap} {o : Oper}
theorem Own.void' {n c sz : Nat} {xs tl : List Value} (h : Own none n c sz xs tl) : n = 0 ∧ c = 0 ∧ xs = [] ∧ tl = [] := by
  have h1 := h.nil rfl
  have h2 := h.le
  have h3 := h.cap
  rw [h1, Nat.zero_mul] at h3
  exact ⟨by omega, h1, List.eq_nil_of_length_eq_zero (by omega), List.eq_nil_of_length_eq_zero (by omega)⟩
theorem run_append_nothing {P : Program} {t ty e : TypeId} {sz bytes n c : Nat} {zs : List Value} {ob : Option Nat} (hs : SI P t e sz bytes zs) (hle : n ≤ c) (w : World) :
    (Builtin.append_ #[t, t] ty #[slV ob n c, slV none 0 0]).run P w = .ok (slV ob n c) w := by
  obtain ⟨g1, i, z, g2, g3, g4, g5, g6, g7, g8⟩ := hs
  cases ob <;> simp [Builtin.append_, slV, run_underlying g1, sizeOf, typeInfo, g2, Builtin.lenOf, Builtin.firstCells, hle, storeCells]
theorem D_appendO {t e e2 : TypeId} {sz bytes n c m mc : Nat} {zs xs tl news ty : List Value} {ob oy : Option Nat} {x y : Operand} {F : Heap}
    (ho : o.op = .call { callee := .builtin .append, args := #[x, y], argTypes := #[t, t] }) (hs : SI X.P t e sz bytes zs) (hx : ev E x = some (slV ob n c)) (hown : Own ob n c sz xs tl) (hp : Pull ⟨ob, cl (xs ++ tl) e⟩ H F)
    (hy : ev E y = some (slV oy m mc)) (hown2 : Own oy m mc sz news ty) (hm : (⟨oy, cl (news ++ ty) e2⟩ : Ent) ∈ H) (h1 : news.all Value.oneCell' = true) (hroom : (n + m) * bytes ≤ 140737488355328) (h63 : n + m ≤ 9223372036854775807) :
    Does X o E H (fun v H' => ∃ ob' c' tl', v = slV ob' (n + m) c' ∧ Own ob' (n + m) c' sz (xs ++ news) tl' ∧ H' = ⟨ob', cl (xs ++ news ++ tl') e⟩ :: F) := by
  cases oy with
  | some b2 => exact D_append ho hs hx hown hp hy hm (fun j v hj => by rw [Nat.zero_add, List.getElem?_append_left (List.getElem?_eq_some_iff.1 hj).1]; exact hj : At (news ++ ty) 0 news) hown2.len h1 hroom h63
  | none =>
    obtain ⟨rfl, rfl, rfl, rfl⟩ := hown2.void'
    intro a w ha hw next Q kk
    refine ⟨about_true, ?_⟩
    rw [semAt_of (by rw [ho]; intro c e; cases e)]
    have hr := run_append_nothing (ty := o.type) (ob := ob) hs hown.le w
    have hexec : (execOp a.eval o).run X.P w = .ok (.value (slV ob n c)) w := by
      simp [execOp, ho, resolve, ha.eval hx, ha.eval hy, invoke, builtin, hr]
    rw [hexec]
    exact kk _ _ _ ⟨ob, c, tl, rfl, by rw [List.append_nil]; exact hown, rfl⟩ (by rw [List.append_nil]; exact hw.perm hp.perm)
end
end Go.Proofs.YtbkdebnkoidicaaGreat
end
