/-
  Top (TopStacks), part TpQ: contracts of functions that the laws call, each for the heap it names.
-/
import Derived.Test.YtkcfgglmlogjbaaGreatY04
import Derived.Test.YtkcfgglmlogjbaaGreatRows
section
set_option linter.unusedVariables false
set_option maxRecDepth 20000
set_option maxHeartbeats 4000000
namespace Go.Proofs.YtkcfgglmlogjbaaGreat
theorem parts1' {p1 : Pt} {e1 : Ent} (h1 : RdB p1.oa e1 p1.l) : ∀ p ∈ [p1], ∃ ent ∈ [e1], RdB p.oa ent p.l := fun p hp => by
  rw [List.mem_singleton.1 hp]; exact ⟨e1, List.mem_singleton.2 rfl, h1⟩
theorem short1' {B : Nat} {p1 : Pt} (h1 : p1.l.length ≤ B) : ∀ p ∈ [p1], p.l.length ≤ B := fun p hp => by rw [List.mem_singleton.1 hp]; exact h1
theorem mopen_raw (p mb rp win : Nat) : Spec Tryz.prog 7 [ptrW p] [⟨some p, cl [.int .i64 (win : Int), .map (some mb), .int .i64 1, .int .i64 2, .slice none 0 0, .slice none 0 0, ptrW rp, .int .i64 0] 70⟩, ⟨some mb, .map #[] 0⟩] (fun r H' => ∃ es' sp ob' k' c' pre' tl', Mk ekW ptrW es' 1 [((1 : Int), sp)] ∧ OwnS ob' k' (encF 1 (bigB 1 4)).length c' 1 pre' (bvs (encF 1 (bigB 1 4))) tl' ∧ r = .tuple #[.int .i64 1, .int .i64 0] ∧ H' = [⟨some p, cl [.int .i64 (win : Int), .map (some mb), .int .i64 3, .int .i64 2, .slice none 0 0, sVal ob' k' (encF 1 (bigB 1 4)).length c', ptrW rp, .int .i64 0] 70⟩, ⟨some mb, .map es' 1⟩, ⟨some sp, cl [.int .i64 (win : Int), .int .i64 0, .bool false, .bool false, .bool false, .int .i64 0, .int .i64 (win : Int), .slice none 0 0, .int .i64 0] 96⟩, ⟨ob', cl (pre' ++ (bvs (encF 1 (bigB 1 4)) ++ tl')) 5⟩]) := by
  refine Spec.of (E := [(0, ptrW p)]) Tryz.func7 rfl (by kernel_rfl) Tryz.ntmps7 rfl rfl (fun w => ?_)
  refine WC_seq ?_
  refine WC_region ?_
  refine WL_val rfl rfl rfl (R_assign rfl rfl) ?_
  refine WL_val rfl rfl rfl (R_assign rfl rfl) ?_
  refine WL_nil ?_
  refine WQ_code ?_
  refine WC_seq ?_
  refine WC_seq ?_
  refine WC_region ?_
  refine WL_val rfl rfl rfl (R_move rfl rfl) ?_
  refine WL_do rfl rfl rfl (D_call (mmay_ok _ _ _ _ _ mb p _) rfl rfl rfl rfl (pqD)) ?_
  rintro _ _ ⟨_, ⟨rfl, rfl⟩, rfl⟩
  refine WL_val rfl rfl rfl (R_assign rfl rfl) ?_
  refine WL_nil ?_
  refine WQ_code ?_
  refine WC_seq ?_
  refine WC_region ?_
  refine WL_val rfl rfl rfl (R_move rfl rfl) ?_
  refine WL_val rfl rfl rfl (R_neq rfl rfl rfl) ?_
  refine WL_nil ?_
  refine WQ_code ?_
  refine WC_dF rfl (by decide) ?_
  refine WC_skip ?_
  refine WQ_code ?_
  refine WC_seq ?_
  refine WC_seq ?_
  refine WC_region ?_
  refine WL_val rfl rfl rfl (R_move rfl rfl) ?_
  refine WL_do rfl rfl rfl (D_call (mfull_ok (out := []) _ _ _ _ _ mb p (OwnS.empty 1) (Nat.zero_le _)) rfl rfl rfl rfl (pqD)) ?_
  rintro _ _ ⟨_, ⟨rfl, rfl⟩, rfl⟩
  refine WL_val rfl rfl rfl (R_neq rfl rfl rfl) ?_
  refine WL_set (s := 13) (v := .bool false) rfl (by rfl) ?_
  refine WL_val rfl rfl rfl (R_move rfl rfl) ?_
  refine WL_val rfl rfl rfl (R_move rfl rfl) ?_
  refine WL_val rfl rfl rfl (R_nilCheck rfl rfl) ?_
  refine WL_val rfl rfl rfl (R_fieldAddr rfl fa70_1 rfl) ?_
  refine WL_val rfl rfl rfl (R_load rfl sc67 rfl (mmD) rfl) ?_
  refine WL_val rfl rfl rfl (R_lenMapK rfl Tryz.underlying67 rfl mmD (Mk.empty (ek := ekW) (ev := ptrW))) ?_
  refine WL_val rfl rfl rfl (R_geq rfl rfl rfl) ?_
  refine WL_set (s := 20) (v := .bool false) rfl (by rfl) ?_
  refine WL_val rfl rfl rfl (R_pickF rfl rfl rfl) ?_
  refine WL_nil ?_
  refine WQ_code ?_
  refine WC_F rfl ?_
  refine WC_skip ?_
  refine WQ_code ?_
  refine WC_seq ?_
  refine WC_region ?_
  refine WL_val rfl rfl rfl (R_move rfl rfl) ?_
  refine WL_val rfl rfl rfl (R_nilCheck rfl rfl) ?_
  refine WL_val rfl rfl rfl (R_fieldAddr rfl fa70_2 rfl) ?_
  refine WL_val rfl rfl rfl (R_load rfl sc3 rfl (mmD) rfl) ?_
  refine WL_val rfl rfl rfl (R_assign rfl rfl) ?_
  refine WL_nil ?_
  refine WQ_code ?_
  refine WC_seq ?_
  refine WC_region ?_
  refine WL_val rfl rfl rfl (R_move rfl rfl) ?_
  refine WL_val rfl rfl rfl (R_nilCheck rfl rfl) ?_
  refine WL_val rfl rfl rfl (R_fieldAddr rfl fa70_2 rfl) ?_
  refine WL_val rfl rfl rfl (R_load rfl sc3 rfl (mmD) rfl) ?_
  refine WL_val rfl rfl rfl (R_addR (r := 3) rfl rfl rfl (rfl)) ?_
  refine WL_val rfl rfl rfl (R_nilCheck rfl rfl) ?_
  refine WL_val rfl rfl rfl (R_fieldAddr rfl fa70_2 rfl) ?_
  refine WL_do0 rfl rfl (D_store (vs := [_]) rfl Tryz.sizeOf3 rfl rfl rfl rfl rfl (plD) (by exact Nat.le_of_ble_eq_true rfl)) ?_
  rintro _ _ rfl
  refine WL_nil ?_
  refine WQ_code ?_
  refine WC_seq ?_
  refine WC_region ?_
  refine WL_val rfl rfl rfl (R_move rfl rfl) ?_
  refine WL_val rfl rfl rfl (R_move rfl rfl) ?_
  refine WL_do rfl rfl rfl (D_call (madd_ok p mb win _ _ _ _ _ _) rfl rfl rfl rfl (pqD)) ?_
  rintro _ _ ⟨_, ⟨es9, sp9, hM9, rfl, rfl⟩, rfl⟩
  refine WL_nil ?_
  refine WQ_code ?_
  refine WC_seq ?_
  refine WC_region ?_
  refine WL_val rfl rfl rfl (R_move rfl rfl) ?_
  refine WL_val rfl rfl rfl (R_move rfl rfl) ?_
  refine WL_do rfl rfl rfl (D_call (mbytes_ok 1 4 (by omega) (by omega)) rfl rfl rfl rfl (pqD)) ?_
  rintro _ _ ⟨_, ⟨b4, rfl, rfl⟩, rfl⟩
  refine WL_do rfl rfl rfl (D_buildSlice rfl si22 rfl rfl rfl) ?_
  rintro _ _ ⟨b1, rfl, rfl⟩
  refine WL_none 5 ?_
  refine WL_do rfl rfl rfl (D_call (msend_ok (out := []) _ _ _ _ _ mb p (.map (some mb)) (OwnS.empty 1) 1 b1 [⟨some ⟨b4, 0, none⟩, 4, bigB 1 4⟩] [⟨some b4, cl (bvs (bigB 1 4)) 5⟩] (by simp) (by simp) (parts1' (RdB.blk b4 _)) (short1' (by simp [bigB_len])) (by simp [joinL, bigB_len]) (by simp)) rfl rfl rfl rfl (pqD)) ?_
  rintro _ _ ⟨_, ⟨ob3, k3, c3, pre3, tl3, rfl, rfl, own3⟩, rfl⟩
  rw [show joinL [⟨some ⟨b4, 0, none⟩, 4, bigB 1 4⟩] = bigB 1 4 from by simp [joinL]] at own3 ⊢
  refine WL_nil ?_
  refine WQ_code ?_
  refine WC_seq ?_
  refine WC_region ?_
  refine WL_val rfl rfl rfl (R_move rfl rfl) ?_
  refine WL_val rfl rfl rfl (R_assign rfl rfl) ?_
  refine WL_val rfl rfl rfl (R_assign rfl rfl) ?_
  refine WL_nil ?_
  refine WQ_code ?_
  refine WC_ret ?_
  refine WQ_ret rfl rfl (.cons (.tmp rfl) (.cons (.tmp rfl) .nil)) rfl (by
      exact ⟨es9, sp9, ob3, k3, c3, pre3, tl3, hM9, own3, rfl, rfl⟩) (pqD)
theorem SpecPre {P : Program} {f : FuncId} {args : List Value} {H : Heap} {post : Value → Heap → Prop} (e : TypeId) (h : Spec P f args (⟨none, Go.Proofs.YtkcfgglmlogjbaaGreat.cl [] e⟩ :: H) post) : Spec P f args H post :=
  ⟨h.enters, fun w hw => by
    have h1 := (HW.start hw).addNone e
    exact (h.calls w h1.hok).mono fun _ _ ⟨v, H', e1, p, r⟩ => ⟨v, H', e1, p, by have := h1.frame (F := []) (by simp) r; rwa [List.append_nil] at this⟩⟩
theorem perm_rc0 (n s m r e : Ent) : (n :: ([s, m, r] ++ [e])).Perm ([s, r, n] ++ [m] ++ [e]) := by
  refine (List.Perm.swap ..).trans (.cons _ ?_)
  show [n, m, r, e].Perm [r, n, m, e]
  exact (List.perm_append_comm (l₁ := [n, m]) (l₂ := [r])).append_right [e]
theorem perm_open (e m s o r u b : Ent) : (b :: u :: ([e, m, s, o] ++ [r])).Perm [e, r, u, m, s, b, o] := by
  have h1 : ([b, u] ++ [e, m, s, o, r]).Perm ([e, m, s, o, r] ++ [b, u]) := List.perm_append_comm
  refine h1.trans (.cons _ ?_)
  show [m, s, o, r, b, u].Perm [r, u, m, s, b, o]
  refine (List.perm_append_comm (l₁ := [m, s, o]) (l₂ := [r, b, u])).trans (.cons _ ?_)
  show [b, u, m, s, o].Perm [u, m, s, b, o]
  refine (List.Perm.swap ..).trans (.cons _ ?_)
  show [b, m, s, o].Perm [m, s, b, o]
  exact (List.Perm.swap ..).trans (.cons _ (.swap ..))
theorem mopen_ok (p mb rp win : Nat) (hw : 1 ≤ win ∧ win ≤ 4096) : Spec Tryz.prog 7 [ptrW p] [⟨some p, cl [.int .i64 (win : Int), .map (some mb), .int .i64 1, .int .i64 2, .slice none 0 0, .slice none 0 0, ptrW rp, .int .i64 0] 70⟩, ⟨some mb, .map #[] 0⟩, ⟨some rp, cl [.slice none 0 0, .int .i64 0] 32⟩] (fun r H' => ∃ m, m.p = p ∧ MxIs m ⟨win, 3, 2, win, win, 0, encF 1 (bigB 1 4), [], []⟩ ∧ r = .tuple #[.int .i64 1, .int .i64 0] ∧ H' = mxH m ⟨win, 3, 2, win, win, 0, encF 1 (bigB 1 4), [], []⟩) := by
  refine Spec.re (SpecNone 5 (SpecNone 5 (((mopen_raw p mb rp win).fr [⟨some rp, cl [.slice none 0 0, .int .i64 0] 32⟩]).mono ?_)))
  rintro r H' ⟨H1, ⟨es', sp, ob', k', c', pre', tl', hM, hO, rfl, rfl⟩, rfl⟩
  refine ⟨⟨none, cl [] 5⟩, ⟨rfl, rfl⟩, ⟨none, cl [] 5⟩, ⟨rfl, rfl⟩, mxH ⟨p, mb, sp, rp, es', 1, .slice none 0 0, ob', k', c', pre', tl', none, 0, 0, [], [], none, 0, 0, [], []⟩ ⟨win, 3, 2, win, win, 0, encF 1 (bigB 1 4), [], []⟩, ?_, _, rfl, ⟨hM, hO, OwnS.empty 1, OwnS.empty 1, .inl ⟨rfl, rfl⟩, hw, by dsimp only; omega⟩, rfl, rfl⟩
  exact perm_open _ _ _ _ _ _ _
structure OpS where
  es : Array MapEntry
  sp : Nat
  wo : Option Nat
  wc : Nat
  wt : List Value
def opOth : Option OpS → Value
  | none => .int .i64 1
  | some _ => .int .i64 3
def opWv : Option OpS → Value
  | none => .slice none 0 0
  | some q => slV q.wo 1 q.wc
def opH (mb win : Nat) : Option OpS → Heap
  | none => [⟨some mb, .map #[] 0⟩]
  | some q => [⟨some mb, .map q.es 1⟩, ⟨some q.sp, cl [.int .i64 (win : Int), .int .i64 0, .bool false, .bool false, .bool false, .int .i64 0, .int .i64 (win : Int), .slice none 0 0, .int .i64 0] 96⟩, ⟨q.wo, cl ([.int .i64 1] ++ q.wt) 3⟩]
def opOk : Option OpS → List Fr → Prop
  | none, F => F = [⟨1, bigB 1 4⟩]
  | some q, F => F = [] ∧ Mk ekW ptrW q.es 1 [((1 : Int), q.sp)] ∧ Own q.wo 1 q.wc 1 [.int .i64 1] q.wt
theorem mrecv0_ok (p mb rp win : Nat) (hw : 1 ≤ win ∧ win ≤ 4096) {oa : Option Addr} {ent : Ent} {c0 : Nat} (hr : RdB oa ent (encF 1 (bigB 1 4))) : Spec Tryz.prog 28 [ptrW p, .slice oa (encF 1 (bigB 1 4)).length c0] ([⟨some p, cl [.int .i64 (win : Int), .map (some mb), .int .i64 2, .int .i64 1, .slice none 0 0, .slice none 0 0, ptrW rp, .int .i64 0] 70⟩, ⟨some mb, .map #[] 0⟩, ⟨some rp, cl [.slice none 0 0, .int .i64 0] 32⟩] ++ [ent])
    (fun r H' => ∃ m wo wc wt, m.p = p ∧ MxIs m ⟨win, 2, 3, win, win, 0, [], [], []⟩ ∧ m.wv = slV wo 1 wc ∧ Own wo 1 wc 1 [.int .i64 1] wt ∧ r = .int .i64 0 ∧ H' = mxH m ⟨win, 2, 3, win, win, 0, [], [], []⟩ ++ [⟨wo, cl ([.int .i64 1] ++ wt) 3⟩] ++ [ent]) := by
  have hsp := mreceive_ok (S := Option OpS) p rp mb (fun s => .int .i64 (win : Int)) (fun s => .int .i64 2) opOth opWv (fun s => .slice none 0 0) (opH mb win) opOk (fun s f r hs => by
      rcases s with _ | q
      · have hs : f :: r = [⟨1, bigB 1 4⟩] := hs
        obtain ⟨rfl, -⟩ := List.cons.inj hs
        decide
      · exact absurd hs.1 (by simp)) (fun s f r hs o c2 tl own => by
      rcases s with _ | q
      · have hs : f :: r = [⟨1, bigB 1 4⟩] := hs
        obtain ⟨rfl, rfl⟩ := List.cons.inj hs
        refine (mhandle_open p mb rp win 1 rfl own).mono ?_
        rintro r' H' ⟨es', sp, wo, wc, wt, hM, hW, rfl, rfl⟩
        exact ⟨some ⟨es', sp, wo, wc, wt⟩, ⟨rfl, hM, hW⟩, rfl, rfl⟩
      · exact absurd hs.1 (by simp)) hr (c0 := c0) none [⟨1, bigB 1 4⟩] rfl (bs := []) (rest := []) (by simp [encA]) (OwnS.empty 1) (by decide)
  refine SpecPre 5 ((Spec.re (SpecNone 5 (SpecNone 5 (hsp.mono ?_)))).perm ?_)
  · rintro r H' ⟨s', B, bs', ob', k', c', pre', tl', hK, hE, hW, hl, rfl, hO, rfl⟩
    rw [List.append_nil] at hE
    rcases s' with _ | q
    · have hK : B = [⟨1, bigB 1 4⟩] := hK
      subst hK
      have h1 := hW _ _ rfl
      rw [hE, encA_one, encF_len] at h1
      exact absurd h1 (by decide)
    · obtain ⟨rfl, hM, hWo⟩ := hK
      have hE : bs' = [] := hE
      subst hE
      refine ⟨⟨none, cl [] 5⟩, ⟨rfl, rfl⟩, ⟨none, cl [] 5⟩, ⟨rfl, rfl⟩, mxH ⟨p, mb, q.sp, rp, q.es, 1, slV q.wo 1 q.wc, none, 0, 0, [], [], none, 0, 0, [], [], ob', k', c', pre', tl'⟩ ⟨win, 2, 3, win, win, 0, [], [], []⟩ ++ [⟨q.wo, cl ([.int .i64 1] ++ q.wt) 3⟩] ++ [ent], ?_, _, q.wo, q.wc, q.wt, rfl, ⟨hM, OwnS.empty 1, OwnS.empty 1, hO, .inr ⟨rfl, rfl⟩, hw, by dsimp only; omega⟩, rfl, hWo, rfl, rfl⟩
      exact (List.perm_append_comm (l₁ := [⟨none, cl [] 5⟩, ⟨none, cl [] 5⟩]) (l₂ := [_, _, _, _, _])).append_right [_, ent]
  · exact perm_rc0 _ _ _ _ _
theorem maccept_ok {m : MxM} {x : MxX} (h : MxIs m x) {wo : Option Nat} {wc : Nat} {wt : List Value} (hwv : m.wv = slV wo 1 wc) (hW : Own wo 1 wc 1 [.int .i64 1] wt) : Spec Tryz.prog 9 [ptrW m.p] [mxE m x, ⟨wo, cl ([.int .i64 1] ++ wt) 3⟩] (fun r H' => ∃ wv', r = .tuple #[.int .i64 1, .int .i64 0] ∧ H' = [mxE { m with wv := wv' } x]) := by
  obtain ⟨wb, rfl⟩ := hW.some_of (by decide)
  have hle := hW.le
  have hE : mxE m x = mxE { m with wv := slV (some wb) 1 wc } x := by rw [← hwv]
  rw [hE]
  refine Spec.of (E := [(0, ptrW m.p)]) Tryz.func9 rfl (by kernel_rfl) Tryz.ntmps9 rfl rfl (fun w => ?_)
  refine WC_seq ?_
  refine WC_region ?_
  refine WL_val rfl rfl rfl (R_assign rfl rfl) ?_
  refine WL_val rfl rfl rfl (R_assign rfl rfl) ?_
  refine WL_nil ?_
  refine WQ_code ?_
  refine WC_seq ?_
  refine WC_seq ?_
  refine WC_region ?_
  refine WL_val rfl rfl rfl (R_move rfl rfl) ?_
  refine WL_do rfl rfl rfl (D_call (mmay_ok _ _ _ _ _ m.mb m.p _) rfl rfl rfl rfl (pqD)) ?_
  rintro _ _ ⟨_, ⟨rfl, rfl⟩, rfl⟩
  refine WL_val rfl rfl rfl (R_assign rfl rfl) ?_
  refine WL_nil ?_
  refine WQ_code ?_
  refine WC_seq ?_
  refine WC_region ?_
  refine WL_val rfl rfl rfl (R_move rfl rfl) ?_
  refine WL_val rfl rfl rfl (R_neq rfl rfl rfl) ?_
  refine WL_nil ?_
  refine WQ_code ?_
  refine WC_dF rfl (by decide) ?_
  refine WC_skip ?_
  refine WQ_code ?_
  refine WC_seq ?_
  refine WC_seq ?_
  refine WC_region ?_
  refine WL_val rfl rfl rfl (R_move rfl rfl) ?_
  refine WL_val rfl rfl rfl (R_nilCheck rfl rfl) ?_
  refine WL_val rfl rfl rfl (R_fieldAddr rfl fa70_4 rfl) ?_
  refine WL_val rfl rfl rfl (R_load rfl sc42 rfl (mmD) rfl) ?_
  refine WL_val rfl rfl rfl (R_len rfl Tryz.underlying42 rfl) ?_
  refine WL_val rfl rfl rfl (R_eql rfl rfl rfl) ?_
  refine WL_nil ?_
  refine WQ_code ?_
  refine WC_dF rfl (by decide) ?_
  refine WC_skip ?_
  refine WQ_code ?_
  refine WC_seq ?_
  refine WC_region ?_
  refine WL_val rfl rfl rfl (R_move rfl rfl) ?_
  refine WL_val rfl rfl rfl (R_nilCheck rfl rfl) ?_
  refine WL_val rfl rfl rfl (R_fieldAddr rfl fa70_4 rfl) ?_
  refine WL_val rfl rfl rfl (R_load rfl sc42 rfl (mmD) rfl) ?_
  refine WL_val rfl rfl rfl (R_indexAddr rfl Tryz.underlying42 Tryz.sizeOf3 rfl rfl (by omega)) ?_
  refine WL_val rfl rfl rfl (R_load rfl sc3 rfl (mmD) rfl) ?_
  refine WL_val rfl rfl rfl (R_assign rfl rfl) ?_
  refine WL_nil ?_
  refine WQ_code ?_
  refine WC_seq ?_
  refine WC_region ?_
  refine WL_val rfl rfl rfl (R_move rfl rfl) ?_
  refine WL_val rfl rfl rfl (R_move rfl rfl) ?_
  refine WL_val rfl rfl rfl (R_nilCheck rfl rfl) ?_
  refine WL_val rfl rfl rfl (R_fieldAddr rfl fa70_4 rfl) ?_
  refine WL_val rfl rfl rfl (R_load rfl sc42 rfl (mmD) rfl) ?_
  refine WL_val rfl rfl rfl (R_sliceFromK (m := 1) rfl Tryz.underlying42 Tryz.sizeOf3 rfl rfl (by omega)) ?_
  refine WL_val rfl rfl rfl (R_nilCheck rfl rfl) ?_
  refine WL_val rfl rfl rfl (R_fieldAddr rfl fa70_4 rfl) ?_
  refine WL_do0 rfl rfl (D_store (vs := [_]) rfl Tryz.sizeOf42 rfl rfl rfl rfl rfl (plD) (by exact Nat.le_of_ble_eq_true rfl)) ?_
  rintro _ _ rfl
  refine WL_nil ?_
  refine WQ_code ?_
  refine WC_seq ?_
  refine WC_region ?_
  refine WL_val rfl rfl rfl (R_move rfl rfl) ?_
  refine WL_val rfl rfl rfl (R_assign rfl rfl) ?_
  refine WL_val rfl rfl rfl (R_assign rfl rfl) ?_
  refine WL_nil ?_
  refine WQ_code ?_
  refine WC_ret ?_
  refine WQ_ret rfl rfl (.cons (.tmp rfl) (.cons (.tmp rfl) .nil)) rfl (by
      exact ⟨.slice (some ⟨wb, if wc = 1 then 0 else 0 + 1 * 1, none⟩) (1 - 1) (wc - 1), rfl, rfl⟩) (pqD)
end Go.Proofs.YtkcfgglmlogjbaaGreat
end
section
set_option linter.unusedVariables false
set_option maxRecDepth 20000
set_option maxHeartbeats 2000000
namespace Go.Proofs.YtkcfgglmlogjbaaGreat
structure MG where
  m : MxM
  x : MxX
def mH (g : MG) : Heap := mxH g.m g.x
structure MGd (g : MG) (p : Nat) (x : MxX) : Prop where
  is : MxIs g.m g.x
  p : g.m.p = p
  x : g.x = x
theorem perm_rw (a b c d e f h : Ent) (z : Heap) : (([a, b, c, d, e, f, h] : Heap) ++ z).Perm ([a, d, e, f, h] ++ z ++ [b, c]) := by
  refine .cons _ ?_
  have h1 : ([b, c] ++ ([d, e, f, h] ++ z)).Perm (([d, e, f, h] ++ z) ++ [b, c]) := List.perm_append_comm
  exact h1
theorem perm_ww (a b c d e f h : Ent) (z : Heap) : (([a, b, c, d, e, f, h] : Heap) ++ z).Perm ([a, d, e, h] ++ z ++ [b, c, f]) := by
  refine .cons _ ?_
  have h2 : ([d, e] ++ ([f] ++ ([h] ++ z))).Perm ([d, e] ++ (([h] ++ z) ++ [f])) := List.Perm.append_left _ List.perm_append_comm
  have h1 : ([b, c] ++ ([d, e] ++ (([h] ++ z) ++ [f]))).Perm (([d, e] ++ (([h] ++ z) ++ [f])) ++ [b, c]) := List.perm_append_comm
  refine (List.Perm.append_left [b, c] h2).trans (h1.trans ?_)
  simp only [List.append_assoc, List.cons_append, List.nil_append]
  exact List.Perm.cons _ (.cons _ (.cons _ (.append_left _ (by
    have : ([f] ++ [b, c] : Heap).Perm ([b, c] ++ [f]) := List.perm_append_comm
    exact this))))
theorem t_out {g : MG} {p : Nat} {x : MxX} (hg : MGd g p x) (n : Nat) (hn : n ≤ 65536) (hout : x.out.length ≤ 1000000) : Spec Tryz.prog 27 [ptrW p, .int .i64 (n : Int)] (mH g) (fun r H' => ∃ g' o c tl, MGd g' p { x with out := x.out.drop n } ∧ Own o (x.out.take n).length c 1 (bvs (x.out.take n)) tl ∧ r = .tuple #[slV o (x.out.take n).length c, .int .i64 0] ∧ H' = mH g' ++ [⟨o, cl (bvs (x.out.take n) ++ tl) 5⟩]) := by
  obtain ⟨h, rfl, rfl⟩ := hg
  exact (mout_ok h n hn hout).mono (by rintro r H' ⟨m', o, c2, tl2, e1, e2, e3, e4, e5⟩; exact ⟨⟨m', _⟩, o, c2, tl2, ⟨e2, e1, rfl⟩, e3, e4, e5⟩)
theorem t_recv {g : MG} {p : Nat} {x : MxX} (hg : MGd g p x) {L : List MF} (hok : ∀ f ∈ L, f.ok) (hd : (datS L).length ≤ x.rcv) (hc : x.snd + crdS L ≤ x.win) (hu : x.un.length ≤ 10000) {l : Bs} {oa : Option Addr} {ent : Ent} {c0 : Nat} (hr : RdB oa ent l) {rest : Bs} (hE : x.rd ++ l ++ rest = encM L) (hfit : x.rd.length + l.length ≤ 65536) :
    Spec Tryz.prog 28 [ptrW p, .slice oa l.length c0] (mH g ++ [ent]) (fun r H' => ∃ g' A B bs', L = A ++ B ∧ MGd g' p { x.got A with rd := bs' } ∧ bs' ++ rest = encM B ∧ (∀ f r, B = f :: r → bs'.length < f.fr.b.length + 6) ∧ r = .int .i64 0 ∧ H' = mH g' ++ [ent]) := by
  obtain ⟨h, rfl, rfl⟩ := hg
  exact (mrecv_ok h hok hd hc hu hr hE hfit).mono (by rintro r H' ⟨m', A, B, bs', e1, e2, e3, e4, e5, e6, e7, e8⟩; exact ⟨⟨m', _⟩, A, B, bs', e1, ⟨e3, e2, rfl⟩, e4, e5, e7, e8⟩)
def MxX.rd1 (x : MxX) (n : Nat) : MxX := if x.win ≤ 2 * (x.cr + n) then { x with un := x.un.drop n, cr := 0, rcv := x.rcv + (x.cr + n), out := x.out ++ encM [.crd (x.cr + n)] } else { x with un := x.un.drop n, cr := x.cr + n }
theorem t_read0 {g : MG} {p : Nat} {x : MxX} (hg : MGd g p x) (he : x.un = []) : Spec Tryz.prog 35 [ptrW p, .int .i64 1, .int .i64 100] (mH g) (fun r H' => r = .tuple #[.slice none 0 0, .int .i64 16] ∧ H' = mH g) := by
  obtain ⟨h, rfl, rfl⟩ := hg
  have hp := perm_rw (mxE g.m g.x) (mxR g.m g.x) (mxB g.m g.x) (mxM g.m) (mxS g.m g.x) (mxU g.m g.x) (mxO g.m g.x) []
  refine Spec.re ((((mread0_ok h he).fr [mxR g.m g.x, mxB g.m g.x]).perm hp).mono ?_)
  rintro r H' ⟨H1, ⟨rfl, rfl⟩, rfl⟩
  exact ⟨mH g, hp.symm, rfl, rfl⟩
theorem t_read1 {g : MG} {p : Nat} {x : MxX} (hg : MGd g p x) {n : Nat} (hn : min (100 : Int) (x.un.length : Int) = (n : Int)) (hn0 : 0 < n) (hul : x.un.length ≤ 100000) (hout : x.out.length ≤ 1000000) (hrc : x.rcv + (x.cr + n) ≤ 10000) : Spec Tryz.prog 35 [ptrW p, .int .i64 1, .int .i64 100] (mH g)
    (fun r H' => ∃ g' o c tl, MGd g' p (x.rd1 n) ∧ Own o (x.un.take n).length c 1 (bvs (x.un.take n)) tl ∧ r = .tuple #[slV o (x.un.take n).length c, .int .i64 0] ∧ H' = mH g' ++ [⟨o, cl (bvs (x.un.take n) ++ tl) 5⟩]) := by
  obtain ⟨h, rfl, rfl⟩ := hg
  have hp := perm_rw (mxE g.m g.x) (mxR g.m g.x) (mxB g.m g.x) (mxM g.m) (mxS g.m g.x) (mxU g.m g.x) (mxO g.m g.x) []
  unfold MxX.rd1
  rw [show (g.x.un.take n).length = n from by rw [List.length_take]; omega]
  by_cases hs : g.x.win ≤ 2 * (g.x.cr + n)
  · rw [if_pos hs]
    refine Spec.re ((((mread2_ok h hn hn0 hul hs hout hrc).fr [mxR g.m g.x, mxB g.m g.x]).perm hp).mono ?_)
    rintro r H' ⟨H1, ⟨o, c2, tl2, uk', uc', up', ob', ok', oc', op', ot', rfl, own, hI, rfl⟩, rfl⟩
    have hen : encM [.crd (g.x.cr + n)] = encF 3 (bigB 1 4 ++ bigB (g.x.cr + n) 4) := encA_one ⟨3, bigB 1 4 ++ bigB (g.x.cr + n) 4⟩
    rw [← hen] at hI ⊢
    refine ⟨_, ?_, ⟨⟨_, _⟩, o, c2, tl2, ⟨hI, rfl, rfl⟩, own, rfl, rfl⟩⟩
    exact (perm_rw _ (mxR g.m g.x) (mxB g.m g.x) _ _ _ _ [⟨o, cl (bvs (g.x.un.take n) ++ tl2) 5⟩]).symm
  · rw [if_neg hs]
    refine Spec.re ((((mread1_ok h hn hn0 hul (by omega)).fr [mxR g.m g.x, mxB g.m g.x]).perm hp).mono ?_)
    rintro r H' ⟨H1, ⟨o, c2, tl2, uk', uc', up', rfl, own, hI, rfl⟩, rfl⟩
    refine ⟨_, ?_, ⟨⟨_, _⟩, o, c2, tl2, ⟨hI, rfl, rfl⟩, own, rfl, rfl⟩⟩
    exact (perm_rw _ (mxR g.m g.x) (mxB g.m g.x) _ _ _ _ [⟨o, cl (bvs (g.x.un.take n) ++ tl2) 5⟩]).symm
end Go.Proofs.YtkcfgglmlogjbaaGreat
end
section
set_option linter.unusedVariables false
set_option maxRecDepth 20000
set_option maxHeartbeats 4000000
namespace Go.Proofs.YtkcfgglmlogjbaaGreat
def MxX.wq (x : MxX) (P : Bs) : Nat := min P.length x.snd
def MxX.wr (x : MxX) (P : Bs) : MxX := { x with out := x.out ++ encM (chunks (P.take (x.wq P))), snd := x.snd - x.wq P }
theorem chunks_nil : chunks [] = [] := rfl
theorem wr_zero {x : MxX} {P : Bs} (h : x.wq P = 0) : x.wr P = x := by
  unfold MxX.wr
  rw [h, List.take_zero, chunks_nil, show encM [] = [] from rfl, List.append_nil]
  rfl
theorem t_write0 {g : MG} {p : Nat} {x : MxX} (hg : MGd g p x) {P : Bs} {pb pk pc : Nat} {ent : Ent} (hP : RdB (some ⟨pb, pk, none⟩) ent P) (hpc : P.length ≤ pc) (hP0 : 0 < P.length) (hPl : P.length ≤ 65536) (hout : x.out.length ≤ 65536) (hs : x.snd = 0) :
    Spec Tryz.prog 34 [ptrW p, .int .i64 1, .slice (some ⟨pb, pk, none⟩) P.length pc] (mH g ++ [ent]) (fun r H' => r = .tuple #[.int .i64 0, .int .i64 16] ∧ H' = mH g ++ [ent]) := by
  obtain ⟨h, rfl, rfl⟩ := hg
  have hp := perm_ww (mxE g.m g.x) (mxR g.m g.x) (mxB g.m g.x) (mxM g.m) (mxS g.m g.x) (mxU g.m g.x) (mxO g.m g.x) [ent]
  refine Spec.re ((((mwrite0_ok h hP hpc hP0 hPl hout hs).fr [mxR g.m g.x, mxB g.m g.x, mxU g.m g.x]).perm hp).mono ?_)
  rintro r H' ⟨H1, ⟨rfl, rfl⟩, rfl⟩
  exact ⟨mH g ++ [ent], hp.symm, rfl, rfl⟩
theorem t_write1 {g : MG} {p : Nat} {x : MxX} (hg : MGd g p x) {P : Bs} {pb pk pc : Nat} {ent : Ent} (hP : RdB (some ⟨pb, pk, none⟩) ent P) (hpc : P.length ≤ pc) (hP0 : 0 < P.length) (hPl : P.length ≤ 65536) (hout : x.out.length ≤ 65536) (hs : 0 < x.snd) :
    Spec Tryz.prog 34 [ptrW p, .int .i64 1, .slice (some ⟨pb, pk, none⟩) P.length pc] (mH g ++ [ent]) (fun r H' => ∃ g', MGd g' p (x.wr P) ∧ r = .tuple #[.int .i64 (x.wq P : Int), .int .i64 0] ∧ H' = mH g' ++ [ent]) := by
  obtain ⟨h, rfl, rfl⟩ := hg
  have hp := perm_ww (mxE g.m g.x) (mxR g.m g.x) (mxB g.m g.x) (mxM g.m) (mxS g.m g.x) (mxU g.m g.x) (mxO g.m g.x) [ent]
  refine Spec.re ((((mwrite1_ok h hP hpc hP0 hPl hout hs (q := g.x.wq P) (by unfold MxX.wq; omega)).fr [mxR g.m g.x, mxB g.m g.x, mxU g.m g.x]).perm hp).mono ?_)
  rintro r H' ⟨H1, ⟨ob', ok', oc', op', ot', rfl, hI, rfl⟩, rfl⟩
  refine ⟨_, ?_, ⟨⟨_, _⟩, ⟨hI, rfl, rfl⟩, rfl, rfl⟩⟩
  exact (perm_ww _ (mxR g.m g.x) (mxB g.m g.x) _ _ (mxU g.m g.x) _ [ent]).symm
theorem pump_a {g : MG} {p : Nat} {x : MxX} (hg : MGd g p x) {P : Bs} {pb : Option Nat} {pk pc : Nat} {pre tl : List Value} (hO : OwnS pb pk P.length pc 1 pre (bvs P) tl) (hPl : P.length ≤ 65536) (hout : x.out.length ≤ 65536) (h0 : P = []) : Spec Tryz.prog 15 [ptrW p, .int .i64 1, sVal pb pk P.length pc] (mH g ++ [⟨pb, cl (pre ++ (bvs (P) ++ tl)) 5⟩]) (fun r H' => r = .tuple #[.slice none 0 0, .bool true] ∧ H' = mH g) := by
  have hl0 : P.length = 0 := by rw [h0]; rfl
  refine Spec.of (E := [(0, ptrW p), (1, .int .i64 1), (2, sVal pb pk P.length pc)]) Tryz.func15 rfl (by kernel_rfl) Tryz.ntmps15 rfl rfl (fun w => ?_)
  refine WC_seq ?_
  refine WC_region ?_
  refine WL_val rfl rfl rfl (R_assign rfl rfl) ?_
  refine WL_val rfl rfl rfl (R_assign rfl rfl) ?_
  refine WL_nil ?_
  refine WQ_code ?_
  refine WC_seq ?_
  refine WC_seq ?_
  refine WC_region ?_
  refine WL_val rfl rfl rfl (R_move rfl rfl) ?_
  refine WL_val rfl rfl rfl (R_len rfl Tryz.underlying23 rfl) ?_
  refine WL_val rfl rfl rfl (R_eql rfl rfl rfl) ?_
  refine WL_set (s := 12) (v := .bool true) rfl (by exact congrArg Value.bool (decide_eq_true (by omega))) ?_
  refine WL_nil ?_
  refine WQ_code ?_
  refine WC_T rfl ?_
  refine WC_seq ?_
  refine WC_region ?_
  refine WL_val rfl rfl rfl (R_assign rfl rfl) ?_
  refine WL_val rfl rfl rfl (R_assign rfl rfl) ?_
  refine WL_nil ?_
  refine WQ_code ?_
  refine WC_ret ?_
  refine WQ_ret rfl rfl (.cons (.tmp rfl) (.cons (.tmp rfl) .nil)) rfl (by
      exact ⟨rfl, rfl⟩) (pqD)
theorem pump_b {g : MG} {p : Nat} {x : MxX} (hg : MGd g p x) {P : Bs} {pb : Nat} {pk pc : Nat} {pre tl : List Value} (hO : OwnS (some pb) pk P.length pc 1 pre (bvs P) tl) (hPl : P.length ≤ 65536) (hout : x.out.length ≤ 65536) (h0 : 0 < P.length) (hs : x.snd = 0) : Spec Tryz.prog 15 [ptrW p, .int .i64 1, sVal (some pb) pk P.length pc] (mH g ++ [⟨some pb, cl (pre ++ (bvs (P) ++ tl)) 5⟩]) (fun r H' => r = .tuple #[sVal (some pb) pk P.length pc, .bool true] ∧ H' = mH g ++ [⟨some pb, cl (pre ++ (bvs (P) ++ tl)) 5⟩]) := by
  refine Spec.of (E := [(0, ptrW p), (1, .int .i64 1), (2, sVal (some pb) pk P.length pc)]) Tryz.func15 rfl (by kernel_rfl) Tryz.ntmps15 rfl rfl (fun w => ?_)
  refine WC_seq ?_
  refine WC_region ?_
  refine WL_val rfl rfl rfl (R_assign rfl rfl) ?_
  refine WL_val rfl rfl rfl (R_assign rfl rfl) ?_
  refine WL_nil ?_
  refine WQ_code ?_
  refine WC_seq ?_
  refine WC_seq ?_
  refine WC_region ?_
  refine WL_val rfl rfl rfl (R_move rfl rfl) ?_
  refine WL_val rfl rfl rfl (R_len rfl Tryz.underlying23 rfl) ?_
  refine WL_val rfl rfl rfl (R_eql rfl rfl rfl) ?_
  refine WL_set (s := 12) (v := .bool false) rfl (by exact congrArg Value.bool (decide_eq_false (by omega))) ?_
  refine WL_nil ?_
  refine WQ_code ?_
  refine WC_F rfl ?_
  refine WC_skip ?_
  refine WQ_code ?_
  refine WC_seq ?_
  refine WC_region ?_
  refine WL_val rfl rfl rfl (R_move rfl rfl) ?_
  refine WL_val rfl rfl rfl (R_move rfl rfl) ?_
  refine WL_val rfl rfl rfl (R_move rfl rfl) ?_
  refine WL_do rfl rfl rfl (D_call (t_write0 hg (RdB.ownS hO) hO.le h0 hPl hout hs) rfl rfl rfl rfl (pqD)) ?_
  rintro _ _ ⟨_, ⟨rfl, rfl⟩, rfl⟩
  refine WL_val rfl rfl rfl (R_move rfl rfl) ?_
  refine WL_val rfl rfl rfl (R_extract rfl rfl rfl) ?_
  refine WL_val rfl rfl rfl (R_extract rfl rfl rfl) ?_
  refine WL_val rfl rfl rfl (R_assign rfl rfl) ?_
  refine WL_val rfl rfl rfl (R_assign rfl rfl) ?_
  refine WL_nil ?_
  refine WQ_code ?_
  refine WC_seq ?_
  refine WC_seq ?_
  refine WC_region ?_
  refine WL_val rfl rfl rfl (R_move rfl rfl) ?_
  refine WL_val rfl rfl rfl (R_eql rfl rfl rfl) ?_
  refine WL_set (s := 21) (v := .bool true) rfl (by rfl) ?_
  refine WL_nil ?_
  refine WQ_code ?_
  refine WC_T rfl ?_
  refine WC_seq ?_
  refine WC_region ?_
  refine WL_val rfl rfl rfl (R_move rfl rfl) ?_
  refine WL_val rfl rfl rfl (R_assign rfl rfl) ?_
  refine WL_val rfl rfl rfl (R_assign rfl rfl) ?_
  refine WL_nil ?_
  refine WQ_code ?_
  refine WC_ret ?_
  refine WQ_ret rfl rfl (.cons (.tmp rfl) (.cons (.tmp rfl) .nil)) rfl (by
      exact ⟨rfl, rfl⟩) (pqD)
theorem pump_c {g : MG} {p : Nat} {x : MxX} (hg : MGd g p x) {P : Bs} {pb : Nat} {pk pc : Nat} {pre tl : List Value} (hO : OwnS (some pb) pk P.length pc 1 pre (bvs P) tl) (hPl : P.length ≤ 65536) (hout : x.out.length ≤ 65536) (h0 : 0 < P.length) (hs : 0 < x.snd) : Spec Tryz.prog 15 [ptrW p, .int .i64 1, sVal (some pb) pk P.length pc] (mH g ++ [⟨some pb, cl (pre ++ (bvs (P) ++ tl)) 5⟩]) (fun r H' => ∃ g' pk' pc' pre', MGd g' p (x.wr P) ∧ OwnS (some pb) pk' (P.drop (x.wq P)).length pc' 1 pre' (bvs (P.drop (x.wq P))) tl ∧ r = .tuple #[sVal (some pb) pk' (P.drop (x.wq P)).length pc', .bool true] ∧ H' = mH g' ++ [⟨some pb, cl (pre' ++ (bvs (P.drop (x.wq P)) ++ tl)) 5⟩]) := by
  have hq : x.wq P ≤ P.length := Nat.min_le_left ..
  refine Spec.of (E := [(0, ptrW p), (1, .int .i64 1), (2, sVal (some pb) pk P.length pc)]) Tryz.func15 rfl (by kernel_rfl) Tryz.ntmps15 rfl rfl (fun w => ?_)
  refine WC_seq ?_
  refine WC_region ?_
  refine WL_val rfl rfl rfl (R_assign rfl rfl) ?_
  refine WL_val rfl rfl rfl (R_assign rfl rfl) ?_
  refine WL_nil ?_
  refine WQ_code ?_
  refine WC_seq ?_
  refine WC_seq ?_
  refine WC_region ?_
  refine WL_val rfl rfl rfl (R_move rfl rfl) ?_
  refine WL_val rfl rfl rfl (R_len rfl Tryz.underlying23 rfl) ?_
  refine WL_val rfl rfl rfl (R_eql rfl rfl rfl) ?_
  refine WL_set (s := 12) (v := .bool false) rfl (by exact congrArg Value.bool (decide_eq_false (by omega))) ?_
  refine WL_nil ?_
  refine WQ_code ?_
  refine WC_F rfl ?_
  refine WC_skip ?_
  refine WQ_code ?_
  refine WC_seq ?_
  refine WC_region ?_
  refine WL_val rfl rfl rfl (R_move rfl rfl) ?_
  refine WL_val rfl rfl rfl (R_move rfl rfl) ?_
  refine WL_val rfl rfl rfl (R_move rfl rfl) ?_
  refine WL_do rfl rfl rfl (D_call (t_write1 hg (RdB.ownS hO) hO.le h0 hPl hout hs) rfl rfl rfl rfl (pqD)) ?_
  rintro _ _ ⟨_, ⟨g', hg', rfl, rfl⟩, rfl⟩
  refine WL_val rfl rfl rfl (R_move rfl rfl) ?_
  refine WL_val rfl rfl rfl (R_extract rfl rfl rfl) ?_
  refine WL_val rfl rfl rfl (R_extract rfl rfl rfl) ?_
  refine WL_val rfl rfl rfl (R_assign rfl rfl) ?_
  refine WL_val rfl rfl rfl (R_assign rfl rfl) ?_
  refine WL_nil ?_
  refine WQ_code ?_
  refine WC_seq ?_
  refine WC_seq ?_
  refine WC_region ?_
  refine WL_val rfl rfl rfl (R_move rfl rfl) ?_
  refine WL_val rfl rfl rfl (R_eql rfl rfl rfl) ?_
  refine WL_set (s := 21) (v := .bool false) rfl (by rfl) ?_
  refine WL_nil ?_
  refine WQ_code ?_
  refine WC_F rfl ?_
  refine WC_skip ?_
  refine WQ_code ?_
  refine WC_seq ?_
  refine WC_region ?_
  refine WL_val rfl rfl rfl (R_move rfl rfl) ?_
  refine WL_val rfl rfl rfl (R_move rfl rfl) ?_
  refine WL_val rfl rfl rfl (R_cutB (m := x.wq P) hO rfl Tryz.underlying23 Tryz.sizeOf5 rfl rfl hq) ?_
  have hcut := hO.cutB hq
  rw [cutB_ent pre tl P (x.wq P)]
  refine WL_val rfl rfl rfl (R_move rfl rfl) ?_
  refine WL_val rfl rfl rfl (R_eql rfl rfl rfl) ?_
  refine WL_set (s := 27) (v := .bool true) rfl (by rfl) ?_
  refine WL_val rfl rfl rfl (R_assign rfl rfl) ?_
  refine WL_val rfl rfl rfl (R_assign rfl rfl) ?_
  refine WL_nil ?_
  refine WQ_code ?_
  refine WC_ret ?_
  refine WQ_ret rfl rfl (.cons (.tmp rfl) (.cons (.tmp rfl) .nil)) rfl (by
      exact ⟨g', _, _, _, hg', hcut, rfl, rfl⟩) (pqD)
theorem pump_ok {g : MG} {p : Nat} {x : MxX} (hg : MGd g p x) {P : Bs} {pb : Option Nat} {pk pc : Nat} {pre tl : List Value} (hO : OwnS pb pk P.length pc 1 pre (bvs P) tl) (hPl : P.length ≤ 65536) (hout : x.out.length ≤ 65536) : Spec Tryz.prog 15 [ptrW p, .int .i64 1, sVal pb pk P.length pc] (mH g ++ [⟨pb, cl (pre ++ (bvs (P) ++ tl)) 5⟩]) (fun r H' => ∃ g' pb' pk' pc' pre' tl', MGd g' p (x.wr P) ∧ OwnS pb' pk' (P.drop (x.wq P)).length pc' 1 pre' (bvs (P.drop (x.wq P))) tl' ∧ r = .tuple #[sVal pb' pk' (P.drop (x.wq P)).length pc', .bool true] ∧ H' = mH g' ++ [⟨pb', cl (pre' ++ (bvs (P.drop (x.wq P)) ++ tl')) 5⟩]) := by
  rcases Nat.eq_zero_or_pos P.length with h0 | h0
  · have h0 : P = [] := List.eq_nil_of_length_eq_zero h0
    have hq : x.wq P = 0 := by unfold MxX.wq; rw [h0]; simp
    rw [wr_zero hq, hq, List.drop_zero]
    refine Spec.re (SpecNone 5 ((pump_a hg hO hPl hout h0).mono ?_))
    rintro r H' ⟨rfl, rfl⟩
    subst h0
    exact ⟨⟨none, cl [] 5⟩, ⟨rfl, rfl⟩, mH g ++ [⟨none, cl [] 5⟩], List.perm_append_comm (l₁ := [_]), g, none, 0, 0, [], [], hg, OwnS.empty 1, rfl, rfl⟩
  · obtain ⟨b, rfl⟩ := hO.some_of h0
    rcases Nat.eq_zero_or_pos x.snd with hs | hs
    · have hq : x.wq P = 0 := by unfold MxX.wq; rw [hs]; simp
      rw [wr_zero hq, hq, List.drop_zero]
      refine (pump_b hg hO hPl hout h0 hs).mono ?_
      rintro r H' ⟨rfl, rfl⟩
      exact ⟨g, some b, pk, pc, pre, tl, hg, hO, rfl, rfl⟩
    · refine (pump_c hg hO hPl hout h0 hs).mono ?_
      rintro r H' ⟨g', pk', pc', pre', e1, e2, rfl, rfl⟩
      exact ⟨g', some b, pk', pc', pre', tl, e1, e2, rfl, rfl⟩
theorem carry_ok {ga gb : MG} {pa pb : Nat} {a b : MxX} (ha : MGd ga pa a) (hb : MGd gb pb b) {L : List MF} (hok : ∀ f ∈ L, f.ok) (hd : (datS L).length ≤ b.rcv) (hc : b.snd + crdS L ≤ b.win) (hu : b.un.length ≤ 10000) (hE : b.rd ++ a.out = encM L) (n : Nat) (hn : n ≤ 65536) (hout : a.out.length ≤ 1000000) (hfit : b.rd.length + n ≤ 65536) : Spec Tryz.prog 8 [ptrW pa, ptrW pb, .int .i64 (n : Int)] (mH ga ++ mH gb) (fun r H' => ∃ ga' gb' A B bs', L = A ++ B ∧ MGd ga' pa { a with out := a.out.drop n } ∧ MGd gb' pb { b.got A with rd := bs' } ∧ bs' ++ a.out.drop n = encM B ∧ (∀ f r, B = f :: r → bs'.length < f.fr.b.length + 6) ∧ r = .bool true ∧ H' = mH ga' ++ mH gb') := by
  have htl : (a.out.take n).length ≤ n := by rw [List.length_take]; omega
  refine Spec.of (E := [(0, ptrW pa), (1, ptrW pb), (2, .int .i64 (n : Int))]) Tryz.func8 rfl (by kernel_rfl) Tryz.ntmps8 rfl rfl (fun w => ?_)
  refine WC_seq ?_
  refine WC_region ?_
  refine WL_val rfl rfl rfl (R_assign rfl rfl) ?_
  refine WL_nil ?_
  refine WQ_code ?_
  refine WC_seq ?_
  refine WC_region ?_
  refine WL_val rfl rfl rfl (R_move rfl rfl) ?_
  refine WL_val rfl rfl rfl (R_move rfl rfl) ?_
  refine WL_do rfl rfl rfl (D_call (t_out ha n hn hout) rfl rfl rfl rfl (pqD)) ?_
  rintro _ _ ⟨_, ⟨ga', o9, c9, tl9, ha', own9, rfl, rfl⟩, rfl⟩
  refine WL_val rfl rfl rfl (R_move rfl rfl) ?_
  refine WL_val rfl rfl rfl (R_extract rfl rfl rfl) ?_
  refine WL_val rfl rfl rfl (R_extract rfl rfl rfl) ?_
  refine WL_val rfl rfl rfl (R_assign rfl rfl) ?_
  refine WL_val rfl rfl rfl (R_assign rfl rfl) ?_
  refine WL_nil ?_
  refine WQ_code ?_
  refine WC_seq ?_
  refine WC_region ?_
  refine WL_val rfl rfl rfl (R_move rfl rfl) ?_
  refine WL_val rfl rfl rfl (R_eql rfl rfl rfl) ?_
  refine WL_set (s := 16) (v := .bool true) rfl (by rfl) ?_
  refine WL_val rfl rfl rfl (R_move rfl rfl) ?_
  refine WL_val rfl rfl rfl (R_move rfl rfl) ?_
  refine WL_val rfl rfl rfl (R_move rfl rfl) ?_
  refine WL_do rfl rfl rfl (D_call (t_recv hb hok hd hc hu (RdB.own own9) (rest := a.out.drop n) (by rw [List.append_assoc, List.take_append_drop]; exact hE) (by omega)) rfl rfl rfl rfl (pqD)) ?_
  rintro _ _ ⟨_, ⟨gb', A9, B9, bs9, hL9, hb', hE9, hW9, rfl, rfl⟩, rfl⟩
  refine WL_val rfl rfl rfl (R_eql rfl rfl rfl) ?_
  refine WL_set (s := 21) (v := .bool true) rfl (by rfl) ?_
  refine WL_val rfl rfl rfl (R_pickT rfl rfl rfl) ?_
  refine WL_val rfl rfl rfl (R_assign rfl rfl) ?_
  refine WL_nil ?_
  refine WQ_code ?_
  refine WC_ret ?_
  refine WQ_ret rfl rfl (.cons (.tmp rfl) .nil) rfl (by
      exact ⟨ga', gb', A9, B9, bs9, hL9, ha', hb', hE9, hW9, rfl, rfl⟩) (pqD)
end Go.Proofs.YtkcfgglmlogjbaaGreat
end
section
set_option linter.unusedVariables false
set_option maxRecDepth 20000
set_option maxHeartbeats 4000000
namespace Go.Proofs.YtkcfgglmlogjbaaGreat
def sm (l : List Nat) : Nat := l.foldr (· + ·) 0
theorem sm_cons (c : Nat) (l : List Nat) : sm (c :: l) = c + sm l := rfl
theorem sm_app : ∀ a b : List Nat, sm (a ++ b) = sm a + sm b
  | [], b => by simp [sm]
  | c :: r, b => by rw [List.cons_append, sm_cons, sm_cons, sm_app r b]; omega
def drX (x : MxX) (u : Bs) (cr : Nat) (cs : List Nat) : MxX := { x with un := u, cr := cr, rcv := x.rcv + sm cs, out := x.out ++ encM (cs.map .crd) }
theorem drX_self (x : MxX) : drX x x.un x.cr [] = x := by unfold drX; simp [sm, encM, encA]
theorem dr_step {x : MxX} (hw : 1 ≤ x.win ∧ x.win ≤ 4096) {u : Bs} {cr n : Nat} {cs : List Nat} (hn : 1 ≤ n ∧ n ≤ 4096) (hcs : ∀ c ∈ cs, 1 ≤ c ∧ c ≤ 10000) (hcr : 2 * cr < x.win) : ∃ cr' cs', (drX x u cr cs).rd1 n = drX x (u.drop n) cr' cs' ∧ cr' + sm cs' = cr + n + sm cs ∧ 2 * cr' < x.win ∧ (∀ c ∈ cs', 1 ≤ c ∧ c ≤ 10000) ∧ cs'.length ≤ cs.length + 1 := by
  unfold MxX.rd1
  by_cases h : x.win ≤ 2 * (cr + n)
  · rw [if_pos (show (drX x u cr cs).win ≤ 2 * ((drX x u cr cs).cr + n) from h)]
    refine ⟨0, cs ++ [cr + n], ?_, ?_, by omega, fun c hc => ?_, by simp⟩
    · unfold drX
      rw [List.map_append, encM_app, sm_app]
      simp only [MxX.mk.injEq, true_and, and_true, List.append_assoc, List.map_cons, List.map_nil, sm, List.foldr_cons, List.foldr_nil]
      omega
    · rw [sm_app]; simp [sm]; omega
    · rcases List.mem_append.1 hc with hc | hc
      · exact hcs c hc
      · rw [List.mem_singleton.1 hc]; omega
  · rw [if_neg (show ¬ (drX x u cr cs).win ≤ 2 * ((drX x u cr cs).cr + n) from h)]
    exact ⟨cr + n, cs, rfl, rfl, by omega, hcs, by omega⟩
theorem enc_crd_len : ∀ cs : List Nat, (encM (cs.map MF.crd)).length = 14 * cs.length
  | [] => rfl
  | c :: r => by
    have h1 : encM ((c :: r).map MF.crd) = encF 3 (bigB 1 4 ++ bigB c 4) ++ encM (r.map MF.crd) := rfl
    rw [h1, List.length_append, encF_len, enc_crd_len r, List.length_append, bigB_len, bigB_len, List.length_cons]; omega
structure DrW where
  i : Nat
  g : MG
  u : Bs
  cr : Nat
  cs : List Nat
  d : Bs
  o : Option Nat
  k : Nat
  c : Nat
  pre : List Value
  tl : List Value
theorem drained_ok {g : MG} {p : Nat} {x : MxX} (hg : MGd g p x) (hcr0 : 2 * x.cr < x.win) (hrc : x.rcv + x.cr + x.un.length ≤ 10000) (hul : x.un.length ≤ 4000) (hout : x.out.length ≤ 900000) : Spec Tryz.prog 16 [ptrW p, .int .i64 1] (mH g) (fun r H' => ∃ g' cs cr' o k c pre tl, MGd g' p (drX x [] cr' cs) ∧ cr' + sm cs = x.cr + x.un.length ∧ (∀ c ∈ cs, 1 ≤ c ∧ c ≤ 10000) ∧ 2 * cr' < x.win ∧ OwnS o k x.un.length c 1 pre (bvs x.un) tl ∧ r = .tuple #[sVal o k x.un.length c, .bool true] ∧ H' = mH g' ++ [⟨o, cl (pre ++ (bvs (x.un) ++ tl)) 5⟩]) := by
  have hw : 1 ≤ x.win ∧ x.win ≤ 4096 := by have := hg.is.w; rw [hg.x] at this; exact this
  refine Spec.of (E := [(0, ptrW p), (1, .int .i64 1)]) Tryz.func16 rfl (by kernel_rfl) Tryz.ntmps16 rfl rfl (fun w => ?_)
  refine WC_seq ?_
  refine WC_region ?_
  refine WL_val rfl rfl rfl (R_assign rfl rfl) ?_
  refine WL_val rfl rfl rfl (R_assign rfl rfl) ?_
  refine WL_nil ?_
  refine WQ_code ?_
  refine WC_seq ?_
  refine WC_region ?_
  refine WL_val rfl rfl rfl (R_assign rfl rfl) ?_
  refine WL_nil ?_
  refine WQ_code ?_
  refine WC_seq ?_
  refine WC_seq ?_
  refine WC_region ?_
  refine WL_val rfl rfl rfl (R_assign rfl rfl) ?_
  refine WL_nil ?_
  refine WQ_code ?_
  refine WC_block ?_
  refine WC_none 5 ?_
  refine WC_loopF (G := DrW) [4, 5, 6, 7, 8, 9, 10, 11, 12, 13, 14, 15, 16, 17, 18, 19, 20, 21, 22, 23, 24, 25, 26, 27] (fun y => MGd y.g p (drX x y.u y.cr y.cs) ∧ y.d ++ y.u = x.un ∧ y.cr + sm y.cs + y.u.length = x.cr + x.un.length ∧ (∀ c ∈ y.cs, 1 ≤ c ∧ c ≤ 10000) ∧ 2 * y.cr < x.win ∧ y.i + y.u.length ≤ x.un.length ∧ y.cs.length ≤ y.i ∧ OwnS y.o y.k y.d.length y.c 1 y.pre (bvs y.d) y.tl) (fun y => [(7, .int .i64 (y.i : Int)), (6, sVal y.o y.k y.d.length y.c)]) (fun y => mH y.g ++ [⟨y.o, cl (y.pre ++ (bvs (y.d) ++ y.tl)) 5⟩]) (fun y => y.u.length) (⟨0, g, x.un, x.cr, [], [], none, 0, 0, [], []⟩) (⟨by rw [drX_self]; exact hg, rfl, by simp [sm], (fun c hc => by cases hc), hcr0, by dsimp only; omega, Nat.le_refl _, OwnS.empty 1⟩) leZ (pqD) ?_
  rintro y ⟨hgy, hdu, hsum, hcs, hcr, hiu, hci, hOy⟩
  refine WC_seq ?_
  refine WC_seq ?_
  refine WC_region ?_
  refine WL_val rfl rfl rfl (R_move rfl rfl) ?_
  refine WL_val rfl rfl rfl (R_lss rfl rfl rfl) ?_
  refine WL_nil ?_
  refine WQ_code ?_
  refine WC_dT rfl (by omega) ?_
  refine WC_skip ?_
  refine WQ_code ?_
  refine WC_seq ?_
  refine WC_block ?_
  refine WC_seq ?_
  refine WC_region ?_
  refine WL_val rfl rfl rfl (R_move rfl rfl) ?_
  refine WL_val rfl rfl rfl (R_move rfl rfl) ?_
  rcases Nat.eq_zero_or_pos y.u.length with hu0 | hu0
  · have hun : y.u = [] := List.eq_nil_of_length_eq_zero hu0
    rw [hun, List.append_nil] at hdu
    have hg2 : MGd y.g p (drX x [] y.cr y.cs) := hun ▸ hgy
    refine WL_do rfl rfl rfl (D_call (t_read0 hgy hun) rfl rfl rfl rfl (pqD)) ?_
    rintro _ _ ⟨_, ⟨rfl, rfl⟩, rfl⟩
    refine WL_val rfl rfl rfl (R_move rfl rfl) ?_
    refine WL_val rfl rfl rfl (R_extract rfl rfl rfl) ?_
    refine WL_val rfl rfl rfl (R_extract rfl rfl rfl) ?_
    refine WL_val rfl rfl rfl (R_assign rfl rfl) ?_
    refine WL_val rfl rfl rfl (R_assign rfl rfl) ?_
    refine WL_nil ?_
    refine WQ_code ?_
    refine WC_seq ?_
    refine WC_seq ?_
    refine WC_region ?_
    refine WL_val rfl rfl rfl (R_move rfl rfl) ?_
    refine WL_val rfl rfl rfl (R_eql rfl rfl rfl) ?_
    refine WL_set (s := 21) (v := .bool true) rfl (by rfl) ?_
    refine WL_nil ?_
    refine WQ_code ?_
    refine WC_T rfl ?_
    refine WC_seq ?_
    refine WC_region ?_
    refine WL_val rfl rfl rfl (R_move rfl rfl) ?_
    refine WL_val rfl rfl rfl (R_assign rfl rfl) ?_
    refine WL_val rfl rfl rfl (R_assign rfl rfl) ?_
    refine WL_nil ?_
    refine WQ_code ?_
    refine WC_ret ?_
    refine WQ_ret rfl rfl (.cons (.tmp rfl) (.cons (.tmp rfl) .nil)) rfl (by
        rw [← hdu]
        exact ⟨y.g, y.cs, y.cr, y.o, y.k, y.c, y.pre, y.tl, hg2, by rw [hdu]; omega, hcs, hcr, hOy, rfl, rfl⟩) (pqD)
  · obtain ⟨n, ⟨hn, hnl⟩, hT, hD⟩ := take_min y.u 100
    have hn100 : n ≤ 100 ∧ 0 < n := by omega
    obtain ⟨cr', cs', hst, hsm, hcr', hcs', hcl'⟩ := dr_step hw (u := y.u) (cs := y.cs) (n := n) (by omega) hcs hcr
    have hen := enc_crd_len y.cs
    refine WL_do rfl rfl rfl (D_call (t_read1 hgy hn (by omega) (by show y.u.length ≤ _; omega) (by show (x.out ++ encM (y.cs.map .crd)).length ≤ _; rw [List.length_append, hen]; omega) (by show x.rcv + sm y.cs + (y.cr + n) ≤ _; omega)) rfl rfl rfl rfl (pqD)) ?_
    rintro _ _ ⟨_, ⟨g', o9, c9, tl9, hg', own9, rfl, rfl⟩, rfl⟩
    rw [show (drX x y.u y.cr y.cs).un = y.u from rfl] at own9 ⊢
    refine WL_val rfl rfl rfl (R_move rfl rfl) ?_
    refine WL_val rfl rfl rfl (R_extract rfl rfl rfl) ?_
    refine WL_val rfl rfl rfl (R_extract rfl rfl rfl) ?_
    refine WL_val rfl rfl rfl (R_assign rfl rfl) ?_
    refine WL_val rfl rfl rfl (R_assign rfl rfl) ?_
    refine WL_nil ?_
    refine WQ_code ?_
    refine WC_seq ?_
    refine WC_seq ?_
    refine WC_region ?_
    refine WL_val rfl rfl rfl (R_move rfl rfl) ?_
    refine WL_val rfl rfl rfl (R_eql rfl rfl rfl) ?_
    refine WL_set (s := 21) (v := .bool false) rfl (by rfl) ?_
    refine WL_nil ?_
    refine WQ_code ?_
    refine WC_F rfl ?_
    refine WC_skip ?_
    refine WQ_code ?_
    refine WC_seq ?_
    refine WC_seq ?_
    refine WC_region ?_
    refine WL_val rfl rfl rfl (R_move rfl rfl) ?_
    refine WL_val rfl rfl rfl (R_neq rfl rfl rfl) ?_
    refine WL_set (s := 24) (v := .bool false) rfl (by rfl) ?_
    refine WL_nil ?_
    refine WQ_code ?_
    refine WC_F rfl ?_
    refine WC_skip ?_
    refine WQ_code ?_
    refine WC_region ?_
    refine WL_val rfl rfl rfl (R_move rfl rfl) ?_
    refine WL_val rfl rfl rfl (R_move rfl rfl) ?_
    refine WL_do rfl rfl rfl (D_appendB rfl si23 rfl hOy plD rfl (RdB.own (l := y.u.take n) own9) mmD (by have : (y.u.take n).length ≤ y.u.length := (by rw [List.length_take]; omega); have := congrArg List.length hdu; rw [List.length_append] at this; omega) (by have : (y.u.take n).length ≤ y.u.length := (by rw [List.length_take]; omega); have := congrArg List.length hdu; rw [List.length_append] at this; omega)) ?_
    rintro _ _ ⟨ob3, k3, c3, pre3, tl3, rfl, own3, rfl, _⟩
    rw [← bvs_app, show y.d.length + (y.u.take n).length = (y.d ++ y.u.take n).length from by simp] at own3 ⊢
    have hg'' : MGd g' p (drX x (y.u.drop n) cr' cs') := hst ▸ hg'
    refine WL_val rfl rfl rfl (R_assign rfl rfl) ?_
    refine WL_nil ?_
    refine WQ_code ?_
    refine WC_region ?_
    refine WL_val rfl rfl rfl (R_move rfl rfl) ?_
    refine WL_val rfl rfl rfl (R_add rfl rfl rfl (by omega)) ?_
    refine WL_val rfl rfl rfl (R_assign rfl rfl) ?_
    refine WL_nil ?_
    refine WQ_nextF (⟨y.i + 1, g', y.u.drop n, cr', cs', y.d ++ y.u.take n, ob3, k3, c3, pre3, tl3⟩) (⟨hg'', by rw [List.append_assoc, List.take_append_drop]; exact hdu, by dsimp only; rw [List.length_drop]; omega, hcs', hcr', by dsimp only; rw [List.length_drop]; omega, by dsimp only; omega, own3⟩) (by dsimp only; rw [List.length_drop]; omega) leZ (psZ) rfl (pqD)
theorem carry0_ok {g : MG} {p q mb rp win : Nat} (hg : MGd g p ⟨win, 3, 2, win, win, 0, encF 1 (bigB 1 4), [], []⟩) : Spec Tryz.prog 8 [ptrW p, ptrW q, .int .i64 65536] (mH g ++ [⟨some q, cl [.int .i64 (win : Int), .map (some mb), .int .i64 2, .int .i64 1, .slice none 0 0, .slice none 0 0, ptrW rp, .int .i64 0] 70⟩, ⟨some mb, .map #[] 0⟩, ⟨some rp, cl [.slice none 0 0, .int .i64 0] 32⟩])
    (fun r H' => ∃ ga gb wo wc wt, MGd ga p ⟨win, 3, 2, win, win, 0, [], [], []⟩ ∧ MGd gb q ⟨win, 2, 3, win, win, 0, [], [], []⟩ ∧ gb.m.wv = slV wo 1 wc ∧ Own wo 1 wc 1 [.int .i64 1] wt ∧ r = .bool true ∧ H' = mH ga ++ mH gb ++ [⟨wo, cl ([.int .i64 1] ++ wt) 3⟩]) := by
  have hw : 1 ≤ win ∧ win ≤ 4096 := by have := hg.is.w; rw [hg.x] at this; exact this
  refine Spec.of (E := [(0, ptrW p), (1, ptrW q), (2, .int .i64 65536)]) Tryz.func8 rfl (by kernel_rfl) Tryz.ntmps8 rfl rfl (fun w => ?_)
  refine WC_seq ?_
  refine WC_region ?_
  refine WL_val rfl rfl rfl (R_assign rfl rfl) ?_
  refine WL_nil ?_
  refine WQ_code ?_
  refine WC_seq ?_
  refine WC_region ?_
  refine WL_val rfl rfl rfl (R_move rfl rfl) ?_
  refine WL_val rfl rfl rfl (R_move rfl rfl) ?_
  refine WL_do rfl rfl rfl (D_call (t_out hg 65536 (Nat.le_refl _) (by show (encF 1 (bigB 1 4)).length ≤ 1000000; decide)) rfl rfl rfl rfl (pqD)) ?_
  rintro _ _ ⟨_, ⟨ga, o9, c9, tl9, ha, own9, rfl, rfl⟩, rfl⟩
  refine WL_val rfl rfl rfl (R_move rfl rfl) ?_
  refine WL_val rfl rfl rfl (R_extract rfl rfl rfl) ?_
  refine WL_val rfl rfl rfl (R_extract rfl rfl rfl) ?_
  refine WL_val rfl rfl rfl (R_assign rfl rfl) ?_
  refine WL_val rfl rfl rfl (R_assign rfl rfl) ?_
  refine WL_nil ?_
  refine WQ_code ?_
  refine WC_seq ?_
  refine WC_region ?_
  refine WL_val rfl rfl rfl (R_move rfl rfl) ?_
  refine WL_val rfl rfl rfl (R_eql rfl rfl rfl) ?_
  refine WL_set (s := 16) (v := .bool true) rfl (by rfl) ?_
  refine WL_val rfl rfl rfl (R_move rfl rfl) ?_
  refine WL_val rfl rfl rfl (R_move rfl rfl) ?_
  refine WL_val rfl rfl rfl (R_move rfl rfl) ?_
  refine WL_do rfl rfl rfl (D_call (mrecv0_ok q mb rp win hw (RdB.own (l := encF 1 (bigB 1 4)) own9)) rfl rfl rfl rfl (pqD)) ?_
  rintro _ _ ⟨_, ⟨m', wo, wc, wt, hmp, hI, hwv, hWo, rfl, rfl⟩, rfl⟩
  refine WL_val rfl rfl rfl (R_eql rfl rfl rfl) ?_
  refine WL_set (s := 21) (v := .bool true) rfl (by rfl) ?_
  refine WL_val rfl rfl rfl (R_pickT rfl rfl rfl) ?_
  refine WL_val rfl rfl rfl (R_assign rfl rfl) ?_
  refine WL_nil ?_
  refine WQ_code ?_
  refine WC_ret ?_
  refine WQ_ret rfl rfl (.cons (.tmp rfl) .nil) rfl (by
      exact ⟨ga, ⟨m', _⟩, wo, wc, wt, ha, ⟨hI, hmp, rfl⟩, hwv, hWo, rfl, rfl⟩) (pqD)
theorem t_accept {g : MG} {p : Nat} {x : MxX} (hg : MGd g p x) {wo : Option Nat} {wc : Nat} {wt : List Value} (hwv : g.m.wv = slV wo 1 wc) (hW : Own wo 1 wc 1 [.int .i64 1] wt) : Spec Tryz.prog 9 [ptrW p] (mH g ++ [⟨wo, cl ([.int .i64 1] ++ wt) 3⟩]) (fun r H' => ∃ g', MGd g' p x ∧ r = .tuple #[.int .i64 1, .int .i64 0] ∧ H' = mH g') := by
  obtain ⟨h, rfl, rfl⟩ := hg
  refine Spec.re ((((maccept_ok h hwv hW).fr [mxR g.m g.x, mxB g.m g.x, mxM g.m, mxS g.m g.x, mxU g.m g.x, mxO g.m g.x]).perm ?_).mono ?_)
  · exact List.Perm.cons _ (List.perm_append_comm (l₁ := [_, _, _, _, _, _]) (l₂ := [_]))
  · rintro r H' ⟨H1, ⟨wv', rfl, rfl⟩, rfl⟩
    exact ⟨_, .refl _, ⟨⟨{ g.m with wv := wv' }, g.x⟩, ⟨⟨h.mp, h.oO, h.uO, h.rO, h.oo, h.w, h.b⟩, rfl, rfl⟩, rfl, rfl⟩⟩
end Go.Proofs.YtkcfgglmlogjbaaGreat
end
section
set_option linter.unusedVariables false
set_option maxRecDepth 20000
set_option maxHeartbeats 2000000
namespace Go.Proofs.YtkcfgglmlogjbaaGreat
/-! the two links -/
structure Lk (win : Nat) (a b : MxX) (F1 F2 : List MF) : Prop where
  w : 1 ≤ win ∧ win ≤ 4096
  wa : a.win = win
  wb : b.win = win
  e1 : b.rd ++ a.out = encM F1
  e2 : a.rd ++ b.out = encM F2
  o1 : ∀ f ∈ F1, f.ok
  o2 : ∀ f ∈ F2, f.ok
  h1 : ∀ f r, F1 = f :: r → b.rd.length < f.fr.b.length + 6
  h2 : ∀ f r, F2 = f :: r → a.rd.length < f.fr.b.length + 6
  s1 : a.snd + (datS F1).length + crdS F2 = b.rcv
  s2 : b.snd + (datS F2).length + crdS F1 = a.rcv
  r1 : b.rcv + b.un.length + b.cr = win
  r2 : a.rcv + a.un.length + a.cr = win
  c1 : 2 * b.cr < win
  c2 : 2 * a.cr < win
theorem Lk.symm {win : Nat} {a b : MxX} {F1 F2 : List MF} (h : Lk win a b F1 F2) : Lk win b a F2 F1 := ⟨h.w, h.wb, h.wa, h.e2, h.e1, h.o2, h.o1, h.h2, h.h1, h.s2, h.s1, h.r2, h.r1, h.c2, h.c1⟩
def cost (a b : MxX) (F1 F2 : List MF) : Nat := a.out.length + b.out.length + 16 * (F1.length + F2.length) + 30 * ((datS F1).length + (datS F2).length + a.cr + a.un.length + b.cr + b.un.length)
theorem cost_symm (a b : MxX) (F1 F2 : List MF) : cost a b F1 F2 = cost b a F2 F1 := by unfold cost; omega
theorem fr_len {f : MF} (h : f.ok) : f.fr.b.length ≤ f.d.length + 8 ∧ f.fr.b.length ≤ 260 ∧ f.d.length ≤ 256 := by
  rcases f with d | n
  · have h : 1 ≤ d.length ∧ d.length ≤ 256 := h
    have h2 : (MF.fr (.dat d)).b.length = 4 + d.length := by show (bigB 1 4 ++ d).length = _; rw [List.length_append, bigB_len]
    have h3 : (MF.d (.dat d)).length = d.length := rfl
    omega
  · have h2 : (MF.fr (.crd n)).b.length = 8 := by show (bigB 1 4 ++ bigB n 4).length = _; rw [List.length_append, bigB_len, bigB_len]
    have h3 : (MF.d (.crd n)).length = 0 := rfl
    omega
theorem encM_cons (f : MF) (r : List MF) : encM (f :: r) = encF f.fr.k f.fr.b ++ encM r := rfl
theorem encM_le : ∀ {F : List MF}, (∀ f ∈ F, f.ok) → (encM F).length ≤ (datS F).length + 14 * F.length
  | [], _ => by simp [encM, encA, datS]
  | f :: r, h => by
    have h1 := fr_len (h f (List.mem_cons_self ..))
    have h2 := encM_le (F := r) fun g hg => h g (List.mem_cons_of_mem _ hg)
    rw [encM_cons, datS_cons, List.length_append, List.length_append, encF_len, List.length_cons]
    omega
theorem Lk.rd_le {win : Nat} {a b : MxX} {F1 F2 : List MF} (h : Lk win a b F1 F2) : b.rd.length ≤ 266 := by
  rcases F1 with _ | ⟨f, r⟩
  · have h1 := congrArg List.length h.e1
    rw [List.length_append, show (encM []).length = 0 from rfl] at h1
    omega
  · have h1 := h.h1 f r rfl
    have h2 := fr_len (h.o1 f (List.mem_cons_self ..))
    omega
theorem Lk.out_le {win : Nat} {a b : MxX} {F1 F2 : List MF} (h : Lk win a b F1 F2) (hc : cost a b F1 F2 ≤ 120000) (hd : (datS F1).length ≤ 1000) : a.out.length ≤ 60000 := by
  have h1 := congrArg List.length h.e1
  have h2 := encM_le h.o1
  rw [List.length_append] at h1
  unfold cost at hc
  omega
theorem chunks_facts : ∀ (n : Nat) (T : Bs), T.length = n → (∀ f ∈ chunks T, f.ok) ∧ datS (chunks T) = T ∧ crdS (chunks T) = 0 ∧ (chunks T).length ≤ T.length := by
  have key : ∀ (K : Nat) (T : Bs), 256 * (K - 1) < T.length ∨ K = 0 → T.length ≤ 256 * K → (∀ f ∈ wrF T (List.range K), f.ok) ∧ datS (wrF T (List.range K)) = T.take (256 * K) ∧ crdS (wrF T (List.range K)) = 0 ∧ (wrF T (List.range K)).length = K := by
    intro K
    have aux : ∀ (k : Nat) (T : Bs), k ≤ K → (256 * (K - 1) < T.length ∨ K = 0) → (∀ f ∈ wrF T (List.range k), f.ok) ∧ datS (wrF T (List.range k)) = T.take (256 * k) ∧ crdS (wrF T (List.range k)) = 0 ∧ (wrF T (List.range k)).length = k := by
      intro k
      induction k with
      | zero => intro T _ _; exact ⟨(fun f hf => by cases hf), by simp [wrF, datS], rfl, rfl⟩
      | succ k ih =>
        intro T hk hT
        obtain ⟨i1, i2, i3, i4⟩ := ih T (by omega) hT
        have hs : wrF T (List.range (k + 1)) = wrF T (List.range k) ++ [.dat (wrC T k)] := by unfold wrF; rw [List.range_succ, List.map_append]; rfl
        have hl := wrC_len T k
        unfold chl at hl
        rw [hs]
        refine ⟨fun f hf => ?_, ?_, ?_, ?_⟩
        · rcases List.mem_append.1 hf with hf | hf
          · exact i1 f hf
          · rw [List.mem_singleton.1 hf]
            show 1 ≤ (wrC T k).length ∧ (wrC T k).length ≤ 256
            omega
        · rw [datS_app, i2]
          show T.take (256 * k) ++ (wrC T k ++ []) = _
          rw [List.append_nil]
          unfold wrC
          rw [show 256 * (k + 1) = 256 * k + 256 from by omega, List.take_add]
        · rw [crdS_app, i3]; rfl
        · rw [List.length_append, i4]; rfl
    exact fun T hT _ => aux K T (Nat.le_refl _) hT
  intro n T hn
  obtain ⟨k1, k2, k3, k4⟩ := key (chK T.length) T (by unfold chK; omega) (by unfold chK; omega)
  refine ⟨k1, ?_, k3, ?_⟩
  · show datS (wrF T (List.range (chK T.length))) = T
    rw [k2, List.take_of_length_le (by unfold chK; omega)]
  · show (wrF T (List.range (chK T.length))).length ≤ _
    rw [k4]; unfold chK; omega
theorem Lk.write {win : Nat} {a b : MxX} {F1 F2 : List MF} (h : Lk win a b F1 F2) (P : Bs) : Lk win (a.wr P) b (F1 ++ chunks (P.take (a.wq P))) F2 ∧ cost (a.wr P) b (F1 ++ chunks (P.take (a.wq P))) F2 ≤ cost a b F1 F2 + 61 * a.wq P ∧ datS (F1 ++ chunks (P.take (a.wq P))) = datS F1 ++ P.take (a.wq P) ∧ (P.take (a.wq P)).length = a.wq P := by
  obtain ⟨T, hT⟩ : ∃ T, T = P.take (a.wq P) := ⟨_, rfl⟩
  have hq : a.wq P ≤ P.length ∧ a.wq P ≤ a.snd := ⟨Nat.min_le_left .., Nat.min_le_right ..⟩
  have hTl : T.length = a.wq P := by rw [hT, List.length_take]; omega
  obtain ⟨k1, k2, k3, k4⟩ := chunks_facts _ T rfl
  have hd : datS (F1 ++ chunks T) = datS F1 ++ T := by rw [datS_app, k2]
  have hel := encM_le k1
  rw [k2] at hel
  rw [← hT]
  have hout : (a.wr P).out = a.out ++ encM (chunks T) := by unfold MxX.wr; rw [← hT]
  have hsnd : (a.wr P).snd = a.snd - a.wq P := rfl
  refine ⟨⟨h.w, h.wa, h.wb, ?_, h.e2, ?_, h.o2, ?_, h.h2, ?_, ?_, h.r1, h.r2, h.c1, h.c2⟩, ?_, hd, hTl⟩
  · rw [hout, ← List.append_assoc, h.e1, encM_app]
  · intro f hf
    rcases List.mem_append.1 hf with hf | hf
    · exact h.o1 f hf
    · exact k1 f hf
  · intro f r hf
    rcases F1 with _ | ⟨f', r'⟩
    · have h1 := congrArg List.length h.e1
      rw [List.length_append, show (encM []).length = 0 from rfl] at h1
      omega
    · rw [List.cons_append] at hf
      obtain ⟨rfl, -⟩ := List.cons.inj hf
      exact h.h1 f' r' rfl
  · rw [hd, hsnd, List.length_append]
    have := h.s1
    omega
  · rw [crdS_app, k3]
    exact h.s2
  · unfold cost
    rw [hd, hout]
    have e1 : (a.wr P).cr = a.cr := rfl
    have e2 : (a.wr P).un = a.un := rfl
    rw [e1, e2]
    simp only [List.length_append]
    omega
theorem Lk.carry {win : Nat} {a b : MxX} {A B F2 : List MF} {bs' : Bs} {n : Nat} (h : Lk win a b (A ++ B) F2) (hE : bs' ++ a.out.drop n = encM B) (hW : ∀ f r, B = f :: r → bs'.length < f.fr.b.length + 6) (hn : 16 ≤ n) :
    Lk win { a with out := a.out.drop n } { b.got A with rd := bs' } B F2 ∧ cost { a with out := a.out.drop n } { b.got A with rd := bs' } B F2 + (if a.out = [] then 0 else 16) ≤ cost a b (A ++ B) F2 := by
  have d1 := congrArg List.length (datS_app A B)
  rw [List.length_append] at d1
  have c1 := crdS_app A B
  have e0 := congrArg List.length h.e1
  have s1 := h.s1
  have s2 := h.s2
  have r1 := h.r1
  have hrcv : ({ b.got A with rd := bs' } : MxX).rcv = b.rcv - (datS A).length := rfl
  have hun : ({ b.got A with rd := bs' } : MxX).un = b.un ++ datS A := rfl
  have hsnd : ({ b.got A with rd := bs' } : MxX).snd = b.snd + crdS A := rfl
  have hcr : ({ b.got A with rd := bs' } : MxX).cr = b.cr := rfl
  have hout : ({ b.got A with rd := bs' } : MxX).out = b.out := rfl
  refine ⟨⟨h.w, h.wa, h.wb, hE, h.e2, fun f hf => h.o1 f (List.mem_append_right _ hf), h.o2, hW, h.h2, ?_, ?_, ?_, h.r2, h.c1, h.c2⟩, ?_⟩
  · rw [hrcv]
    show a.snd + (datS B).length + crdS F2 = _
    omega
  · rw [hsnd]
    show b.snd + crdS A + (datS F2).length + crdS B = a.rcv
    omega
  · rw [hrcv, hun, hcr, List.length_append]
    omega
  · unfold cost
    rw [hun, hcr, hout]
    simp only [List.length_append, List.length_drop]
    by_cases ha : a.out = []
    · rw [if_pos ha, ha]
      simp only [List.length_nil]
      omega
    · rw [if_neg ha]
      have hl : 0 < a.out.length := List.length_pos_iff.2 ha
      by_cases hlt : a.out.length ≤ n
      · have hB : B = [] := by
          rcases B with _ | ⟨f, r⟩
          · rfl
          · have h1 := hW f r rfl
            rw [List.drop_eq_nil_of_le hlt, List.append_nil, encM_cons] at hE
            have h2 := congrArg List.length hE
            rw [List.length_append, encF_len] at h2
            omega
        have hA : A ≠ [] := by
          intro hA
          rw [hA, hB, List.length_append, show (encM ([] ++ [])).length = 0 from rfl] at e0
          omega
        have : 0 < A.length := List.length_pos_iff.2 hA
        have hBl : B.length = 0 := by rw [hB]; rfl
        have hBd : (datS B).length = 0 := by rw [hB]; rfl
        omega
      · omega
theorem dat_crd (cs : List Nat) : datS (cs.map .crd) = [] := by
  induction cs with
  | nil => rfl
  | cons c r ih => rw [List.map_cons, datS_cons, ih]; rfl
theorem crd_crd : ∀ cs : List Nat, crdS (cs.map .crd) = sm cs
  | [] => rfl
  | c :: r => by rw [List.map_cons, crdS, crd_crd r, sm_cons]; rfl
theorem sm_ge : ∀ {cs : List Nat}, (∀ c ∈ cs, 1 ≤ c ∧ c ≤ 10000) → cs.length ≤ sm cs
  | [], _ => Nat.le_refl _
  | c :: r, h => by
    have h1 := h c (List.mem_cons_self ..)
    have h2 := sm_ge (cs := r) fun x hx => h x (List.mem_cons_of_mem _ hx)
    rw [sm_cons, List.length_cons]; omega
theorem Lk.drain {win : Nat} {a b : MxX} {F1 F2 : List MF} (h : Lk win a b F1 F2) {cr' : Nat} {cs : List Nat} (hs : cr' + sm cs = b.cr + b.un.length) (hcs : ∀ c ∈ cs, 1 ≤ c ∧ c ≤ 10000) (hcr : 2 * cr' < b.win) :
    Lk win a (drX b [] cr' cs) F1 (F2 ++ cs.map .crd) ∧ cost a (drX b [] cr' cs) F1 (F2 ++ cs.map .crd) ≤ cost a b F1 F2 ∧ datS (F2 ++ cs.map .crd) = datS F2 := by
  have hd : datS (F2 ++ cs.map .crd) = datS F2 := by rw [datS_app, dat_crd, List.append_nil]
  have s1 := h.s1
  have s2 := h.s2
  have r1 := h.r1
  have hge := sm_ge hcs
  have hrcv : (drX b [] cr' cs).rcv = b.rcv + sm cs := rfl
  have hun : (drX b [] cr' cs).un = [] := rfl
  have hcr9 : (drX b [] cr' cs).cr = cr' := rfl
  have hout : (drX b [] cr' cs).out = b.out ++ encM (cs.map .crd) := rfl
  refine ⟨⟨h.w, h.wa, h.wb, h.e1, ?_, h.o1, ?_, h.h1, ?_, ?_, ?_, ?_, h.r2, ?_, h.c2⟩, ?_, hd⟩
  · rw [hout, ← List.append_assoc, h.e2, encM_app]
  · intro f hf
    rcases List.mem_append.1 hf with hf | hf
    · exact h.o2 f hf
    · obtain ⟨c, hc, rfl⟩ := List.mem_map.1 hf
      exact hcs c hc
  · intro f r hf
    rcases F2 with _ | ⟨f', r'⟩
    · have h1 := congrArg List.length h.e2
      rw [List.length_append, show (encM []).length = 0 from rfl] at h1
      omega
    · rw [List.cons_append] at hf
      obtain ⟨rfl, -⟩ := List.cons.inj hf
      exact h.h2 f' r' rfl
  · rw [hrcv, crdS_app, crd_crd]; omega
  · rw [hd]; exact h.s2
  · rw [hrcv, hun, hcr9, List.length_nil]; omega
  · rw [hcr9, ← h.wb]; exact hcr
  · unfold cost
    rw [hd, hout, hun, hcr9]
    simp only [List.length_append, List.length_map, List.length_nil, enc_crd_len]
    omega
/-- Nothing is on the way, and the window is not shut. -/
theorem Lk.still {win : Nat} {a b : MxX} {F1 F2 : List MF} (h : Lk win a b F1 F2) (ha : a.out = []) (hb : b.out = []) (hu : b.un = []) : F1 = [] ∧ F2 = [] ∧ 0 < a.snd := by
  have key : ∀ {a b : MxX} {F1 F2 : List MF}, Lk win a b F1 F2 → a.out = [] → F1 = [] := by
    intro a b F1 F2 h ha
    rcases F1 with _ | ⟨f, r⟩
    · rfl
    · have h1 := h.h1 f r rfl
      have h2 := congrArg List.length h.e1
      rw [ha, List.append_nil, encM_cons, List.length_append, encF_len] at h2
      omega
  have h1 := key h ha
  have h2 := key h.symm hb
  refine ⟨h1, h2, ?_⟩
  have s1 := h.s1
  have r1 := h.r1
  have c1 := h.c1
  have w := h.w
  rw [h1, h2, show (datS []).length = 0 from rfl, show crdS [] = 0 from rfl] at s1
  rw [hu, List.length_nil] at r1
  omega
end Go.Proofs.YtkcfgglmlogjbaaGreat
end
section
set_option linter.unusedVariables false
set_option maxRecDepth 20000
set_option maxHeartbeats 2000000
namespace Go.Proofs.YtkcfgglmlogjbaaGreat
/-! the streams -/
def tMk {α : Type} (f : Nat → Bs → α) : Nat → List Bs → List α
  | _, [] => []
  | k, b :: r => f (k + 1) b :: tMk f (k + 1) r
section
variable {α : Type} (f : Nat → Bs → α)
theorem tMk_len : ∀ (k : Nat) (L : List Bs), (tMk f k L).length = L.length
  | _, [] => rfl
  | k, b :: r => by rw [tMk, List.length_cons, List.length_cons, tMk_len (k + 1) r]
theorem tMk_app : ∀ (k : Nat) (A B : List Bs), tMk f k (A ++ B) = tMk f k A ++ tMk f (k + A.length) B
  | _, [], _ => rfl
  | k, b :: r, B => by rw [List.cons_append, tMk, tMk, tMk_app (k + 1) r B, List.length_cons, List.cons_append, show k + 1 + r.length = k + (r.length + 1) from by omega]
theorem tMk_split : ∀ (k : Nat) (L : List Bs) (A B : List α), tMk f k L = A ++ B → A.length ≤ L.length ∧ A = tMk f k (L.take A.length) ∧ B = tMk f (k + A.length) (L.drop A.length)
  | k, L, [], B, h => ⟨Nat.zero_le _, rfl, h.symm⟩
  | k, [], a :: A, B, h => by cases h
  | k, b :: r, a :: A, B, h => by
    rw [tMk, List.cons_append] at h
    obtain ⟨h1, h2⟩ := List.cons.inj h
    obtain ⟨g1, g2, g3⟩ := tMk_split (k + 1) r A B h2
    refine ⟨by rw [List.length_cons, List.length_cons]; omega, ?_, ?_⟩
    · rw [List.length_cons, List.take_succ_cons, tMk, ← g2, h1]
    · rw [List.length_cons, List.drop_succ_cons, show k + (A.length + 1) = k + 1 + A.length from by omega]; exact g3
end
abbrev NV : Nat := 18446744073709551615
def lenB (b : Bs) : UInt8 := UInt8.ofNat b.length
abbrev rqF (id : Nat) (b : Bs) : Fr := reqF id NV b
abbrev rpF (id : Nat) (b : Bs) : Fr := repF id 0 (b ++ [lenB b])
abbrev caF (id : Nat) (_ : Bs) : Ca := ⟨id, NV⟩
abbrev idF (id : Nat) (_ : Bs) : Int := (id : Int)
abbrev rrF (id : Nat) (b : Bs) : Rr := ⟨(id : Int), NV, b⟩
abbrev rsF (id : Nat) (b : Bs) : Res := ⟨(id : Int), 0, b ++ [lenB b]⟩
abbrev sS (j : Nat) (out bs : Bs) (opn : List Int) (qu : List Rr) : PV := ⟨out, bs, 0, j, 0, opn, qu⟩
abbrev cS (n : Nat) (out bs : Bs) (calls : List Ca) (res : List Res) : PC := ⟨out, bs, 0, n, 0, 0, calls, res, false⟩
theorem val_big8 (r : Bs) : valB ((bigB NV 8 ++ r).take 8) = NV := by
  rw [List.take_left' (bigB_len NV 8)]
  decide
theorem rq_len (id : Nat) (b : Bs) : (rqF id b).b.length = 12 + b.length := by simp [rqF, reqF, bigB_len]; omega
theorem rp_len (id : Nat) (b : Bs) : (rpF id b).b.length = 7 + b.length := by simp [rpF, repF, bigB_len]; omega
section
variable {Q : Type} (step : Q → UInt8 → Bs → Q × Int)
theorem rcv_run2 : ∀ (n : Nat) (q : Q) (FS : List Fr) (bs rest : Bs), bs ++ rest = encA FS → okF step q FS → bs.length < n → ∃ A B bs', FS = A ++ B ∧ rcvN step n q bs = (runF step q A, bs', 0, 0) ∧ bs' ++ rest = encA B ∧ (∀ f r, B = f :: r → bs'.length < f.b.length + 6)
  | 0, _, _, _, _, _, _, h => absurd h (Nat.not_lt_zero _)
  | n + 1, q, [], bs, rest, he, _, _ => by
    have h0 : bs = [] := by have := congrArg List.length he; simp [encA] at this; exact this.1
    subst h0
    exact ⟨[], [], [], rfl, rcv_wait (nxt_nil rfl), he, fun f r e => by cases e⟩
  | n + 1, q, f :: r, bs, rest, he, hok, hn => by
    obtain ⟨h4, h10, hs, hr⟩ := hok
    rw [encA_cons] at he
    by_cases hlt : bs.length < f.b.length + 6
    · exact ⟨[], f :: r, bs, rfl, rcv_wait (nxt_pre he hlt h10), by rw [encA_cons]; exact he, fun f' r' e => by cases e; exact hlt⟩
    · have hel := encF_len f.k f.b
      have hbs : bs = encF f.k f.b ++ bs.drop (f.b.length + 6) := by
        have h1 := congrArg (List.take (f.b.length + 6)) he
        rw [List.take_append_of_le_length (by omega), List.take_left' (by omega)] at h1
        conv => lhs; rw [← List.take_append_drop (f.b.length + 6) bs]
        rw [h1]
      have he2 : bs.drop (f.b.length + 6) ++ rest = encA r := by
        rw [hbs, List.append_assoc] at he
        exact List.append_cancel_left he
      have hg : nxt bs = .got f.k f.b (f.b.length + 6) := by rw [hbs]; exact nxt_enc _ _ _ h10
      obtain ⟨A, B, bs', e1, e2, e3, e4⟩ := rcv_run2 n (step q f.k f.b).1 r (bs.drop (f.b.length + 6)) rest he2 hr (by rw [List.length_drop]; omega)
      refine ⟨f :: A, B, bs', by rw [e1]; rfl, ?_, e3, e4⟩
      rw [rcv_ok hg h4 hs, e2]; rfl
end
theorem s_run {out bs : Bs} : ∀ (A : List Bs) (j : Nat) (opn : List Int) (qu : List Rr), opn.length + A.length ≤ 32 → j + A.length < 4294967296 → (∀ b ∈ A, b.length ≤ 100) →
    okF PV.step (sS j out bs opn qu) (tMk rqF j A) ∧ runF PV.step (sS j out bs opn qu) (tMk rqF j A) = sS (j + A.length) out bs (opn ++ tMk idF j A) (qu ++ tMk rrF j A)
  | [], j, opn, qu, _, _, _ => ⟨trivial, by simp [tMk, runF]⟩
  | b :: r, j, opn, qu, h1, h2, h3 => by
    rw [List.length_cons] at h1 h2
    have hb := h3 b (List.mem_cons_self ..)
    have hlen := rq_len (j + 1) b
    have hv : valB ((rqF (j + 1) b).b.take 4) = j + 1 := val_big4 (by omega) _
    have hd4 : (rqF (j + 1) b).b.drop 4 = bigB NV 8 ++ b := List.drop_left' (bigB_len _ _)
    have hd12 : (rqF (j + 1) b).b.drop 12 = b := by rw [show 12 = 4 + 8 from rfl, ← List.drop_drop, hd4]; exact List.drop_left' (bigB_len _ _)
    have hst : PV.step (sS j out bs opn qu) 16 (rqF (j + 1) b).b = (sS (j + 1) out bs (opn ++ [idF (j + 1) b]) (qu ++ [rrF (j + 1) b]), 0) := by
      unfold PV.step
      rw [if_pos ⟨rfl, by omega⟩, hv, if_neg (fun e => e rfl), if_neg (by show ¬ 32 ≤ opn.length; omega), hd4, hd12, val_big8]
    obtain ⟨g1, g2⟩ := s_run r (j + 1) (opn ++ [idF (j + 1) b]) (qu ++ [rrF (j + 1) b]) (by simp; omega) (by omega) (fun x hx => h3 x (List.mem_cons_of_mem _ hx))
    have hrun : runF PV.step (sS j out bs opn qu) (tMk rqF j (b :: r)) = runF PV.step (sS (j + 1) out bs (opn ++ [idF (j + 1) b]) (qu ++ [rrF (j + 1) b])) (tMk rqF (j + 1) r) := by
      show runF PV.step (PV.step (sS j out bs opn qu) 16 (rqF (j + 1) b).b).1 (tMk rqF (j + 1) r) = _
      rw [hst]
    refine ⟨⟨by show 4 ≤ (rqF (j + 1) b).b.length; omega, by show (rqF (j + 1) b).b.length ≤ 1024; omega, by show (PV.step (sS j out bs opn qu) 16 (rqF (j + 1) b).b).2 = 0; rw [hst], by show okF PV.step (PV.step (sS j out bs opn qu) 16 (rqF (j + 1) b).b).1 (tMk rqF (j + 1) r); rw [hst]; exact g1⟩, ?_⟩
    rw [hrun, g2, List.length_cons, show j + 1 + r.length = j + (r.length + 1) from by omega]
    simp only [tMk, List.append_assoc, List.cons_append, List.nil_append]
theorem s_recv' {out bs l rest : Bs} {j : Nat} {L : List Bs} (hL : L.length ≤ 32) (hj : j + L.length < 4294967296) (hb : ∀ b ∈ L, b.length ≤ 100) (hfit : bs.length + l.length ≤ 65536) (hE : bs ++ (l ++ rest) = encA (tMk rqF j L)) :
    ∃ k bs', k ≤ L.length ∧ (sS j out bs [] []).recv l = (sS (j + k) out bs' (tMk idF j (L.take k)) (tMk rrF j (L.take k)), 0) ∧ bs' ++ rest = encA (tMk rqF (j + k) (L.drop k)) ∧ (∀ f r, tMk rqF (j + k) (L.drop k) = f :: r → bs'.length < f.b.length + 6) := by
  obtain ⟨g1, -⟩ := s_run (out := out) (bs := []) L j [] [] (by simpa using hL) hj hb
  obtain ⟨A, B, bs', e1, e2, e3, e4⟩ := rcv_run2 PV.step (bs.length + l.length + 1) (sS j out [] [] []) (tMk rqF j L) (bs ++ l) rest (by rw [List.append_assoc]; exact hE) g1 (by rw [List.length_append]; omega)
  obtain ⟨h1, h2, h3⟩ := tMk_split rqF j L A B e1
  rw [h3] at e3 e4
  refine ⟨A.length, bs', h1, ?_, e3, e4⟩
  have htl : (L.take A.length).length = A.length := by rw [List.length_take]; omega
  obtain ⟨-, g2⟩ := s_run (out := out) (bs := []) (L.take A.length) j [] [] (by rw [List.length_nil, htl]; omega) (by rw [htl]; omega) (fun b hb' => hb b (List.mem_of_mem_take hb'))
  rw [← h2, htl] at g2
  unfold PV.recv
  rw [if_neg (fun e => e rfl), if_neg (show ¬ 65536 < bs.length + l.length by omega)]
  show (_, _) = _
  rw [show ({ (sS j out bs [] []) with bs := [] } : PV) = sS j out [] [] [] from rfl, e2, g2]
  rfl
theorem ca_mem {R : List Bs} {i : Nat} {c : Ca} (h : c ∈ tMk caF i R) : i < c.id ∧ c.id ≤ i + R.length ∧ c.dl = NV := by
  induction R generalizing i with
  | nil => cases h
  | cons b r ih =>
    rw [tMk] at h
    rcases List.mem_cons.1 h with rfl | h
    · simp
    · have := ih h; rw [List.length_cons]; omega
theorem c_run {n : Nat} {out bs : Bs} (hn : n < 4294967296) (R : List Bs) : ∀ (A : List Bs) (i : Nat) (res : List Res), i + A.length ≤ n → (∀ b ∈ A, b.length ≤ 100) →
    okF PC.step (cS n out bs (tMk caF i (A ++ R)) res) (tMk rpF i A) ∧ runF PC.step (cS n out bs (tMk caF i (A ++ R)) res) (tMk rpF i A) = cS n out bs (tMk caF (i + A.length) R) (res ++ tMk rsF i A)
  | [], i, res, _, _ => ⟨trivial, by simp [tMk, runF]⟩
  | b :: r, i, res, h1, h3 => by
    rw [List.length_cons] at h1
    have hb := h3 b (List.mem_cons_self ..)
    have hlen := rp_len (i + 1) b
    have hst : PC.step (cS n out bs (tMk caF i (b :: r ++ R)) res) 17 (rpF (i + 1) b).b = (cS n out bs (tMk caF (i + 1) (r ++ R)) (res ++ [rsF (i + 1) b]), 0) := by
      rw [step_rep (v := cS n out bs (tMk caF i (b :: r ++ R)) res) (id := i + 1) (code := 0) (bd := b ++ [lenB b]) ⟨by omega, by show i + 1 ≤ n; omega⟩ (by omega) (by decide)]
      have hf : (tMk caF (i + 1) (r ++ R)).filter (isId ((i + 1 : Nat) : Int)) = [] := by
        rw [List.filter_eq_nil_iff]
        intro c hc hq
        have h1 := ca_mem hc
        have h2 : (c.id : Int) = ((i + 1 : Nat) : Int) := of_decide_eq_true hq
        omega
      have hg : (tMk caF (i + 1) (r ++ R)).filter (nq (isId ((i + 1 : Nat) : Int))) = tMk caF (i + 1) (r ++ R) := by
        rw [List.filter_eq_self]
        intro c hc
        have h1 := ca_mem hc
        unfold nq isId
        rw [decide_eq_false (by omega)]
        rfl
      have h1 : (tMk caF i (b :: r ++ R)).filter (nq (isId ((i + 1 : Nat) : Int))) = tMk caF (i + 1) (r ++ R) := by
        rw [List.cons_append, tMk, List.filter_cons_of_neg (by simp [nq, isId]), hg]
      have h2 : overC (isId ((i + 1 : Nat) : Int)) ((0 : Nat) : Int) (tMk caF i (b :: r ++ R)) = [⟨i + 1, NV⟩] := by
        unfold overC
        rw [if_neg (by decide), List.cons_append, tMk, List.filter_cons_of_pos (by simp [isId]), hf]
      unfold PC.endW
      show (({ (cS n out bs (tMk caF i (b :: r ++ R)) res) with calls := (tMk caF i (b :: r ++ R)).filter _, res := res ++ (overC _ _ (tMk caF i (b :: r ++ R))).map _ } : PC), (0 : Int)) = _
      rw [h1, h2]
      rfl
    obtain ⟨g1, g2⟩ := c_run hn R r (i + 1) (res ++ [rsF (i + 1) b]) (by omega) (fun x hx => h3 x (List.mem_cons_of_mem _ hx))
    have hrun : runF PC.step (cS n out bs (tMk caF i (b :: r ++ R)) res) (tMk rpF i (b :: r)) = runF PC.step (cS n out bs (tMk caF (i + 1) (r ++ R)) (res ++ [rsF (i + 1) b])) (tMk rpF (i + 1) r) := by
      show runF PC.step (PC.step (cS n out bs (tMk caF i (b :: r ++ R)) res) 17 (rpF (i + 1) b).b).1 (tMk rpF (i + 1) r) = _
      rw [hst]
    refine ⟨⟨by show 4 ≤ (rpF (i + 1) b).b.length; omega, by show (rpF (i + 1) b).b.length ≤ 1024; omega, by show (PC.step (cS n out bs (tMk caF i (b :: r ++ R)) res) 17 (rpF (i + 1) b).b).2 = 0; rw [hst], by show okF PC.step (PC.step (cS n out bs (tMk caF i (b :: r ++ R)) res) 17 (rpF (i + 1) b).b).1 (tMk rpF (i + 1) r); rw [hst]; exact g1⟩, ?_⟩
    rw [hrun, g2, List.length_cons, show i + 1 + r.length = i + (r.length + 1) from by omega]
    simp only [tMk, List.append_assoc, List.cons_append, List.nil_append]
theorem c_recv' {n : Nat} {out bs l rest : Bs} {i : Nat} {L R : List Bs} (hn : n < 4294967296) (hi : i + L.length ≤ n) (hb : ∀ b ∈ L, b.length ≤ 100) (hfit : bs.length + l.length ≤ 65536) (hE : bs ++ (l ++ rest) = encA (tMk rpF i L)) :
    ∃ k bs', k ≤ L.length ∧ (cS n out bs (tMk caF i (L ++ R)) []).recv l = (cS n out bs' (tMk caF (i + k) (L.drop k ++ R)) (tMk rsF i (L.take k)), 0) ∧ bs' ++ rest = encA (tMk rpF (i + k) (L.drop k)) ∧ (∀ f r, tMk rpF (i + k) (L.drop k) = f :: r → bs'.length < f.b.length + 6) := by
  obtain ⟨g1, -⟩ := c_run (out := out) (bs := []) hn R L i [] hi hb
  obtain ⟨A, B, bs', e1, e2, e3, e4⟩ := rcv_run2 PC.step (bs.length + l.length + 1) (cS n out [] (tMk caF i (L ++ R)) []) (tMk rpF i L) (bs ++ l) rest (by rw [List.append_assoc]; exact hE) g1 (by rw [List.length_append]; omega)
  obtain ⟨h1, h2, h3⟩ := tMk_split rpF i L A B e1
  rw [h3] at e3 e4
  refine ⟨A.length, bs', h1, ?_, e3, e4⟩
  have htl : (L.take A.length).length = A.length := by rw [List.length_take]; omega
  obtain ⟨-, g2⟩ := c_run (out := out) (bs := []) hn (L.drop A.length ++ R) (L.take A.length) i [] (by rw [htl]; omega) (fun b hb' => hb b (List.mem_of_mem_take hb'))
  rw [← h2, htl, ← List.append_assoc, List.take_append_drop] at g2
  unfold PC.recv
  rw [if_neg (by intro h; rcases h with h | h; exact absurd (show false = true from h) (by decide); exact h rfl), if_neg (show ¬ 65536 < bs.length + l.length by omega)]
  show (if _ then _ else _, _) = _
  rw [show ({ (cS n out bs (tMk caF i (L ++ R)) []) with bs := [] } : PC) = cS n out [] (tMk caF i (L ++ R)) [] from rfl, e2, g2]
  rfl
theorem id_mem {R : List Bs} {i : Nat} {c : Int} (h : c ∈ tMk idF i R) : (i : Int) < c ∧ c ≤ ((i + R.length : Nat) : Int) := by
  induction R generalizing i with
  | nil => cases h
  | cons b r ih =>
    rw [tMk] at h
    rcases List.mem_cons.1 h with rfl | h
    · rw [List.length_cons]; constructor <;> (show _; simp only [idF]; omega)
    · have := ih h; rw [List.length_cons]; omega
theorem rr_mem {R : List Bs} {i : Nat} {c : Rr} (h : c ∈ tMk rrF i R) : (i : Int) < c.id := by
  induction R generalizing i with
  | nil => cases h
  | cons b r ih =>
    rw [tMk] at h
    rcases List.mem_cons.1 h with rfl | h
    · show (i : Int) < ((i + 1 : Nat) : Int); omega
    · have := ih h; omega
theorem s_reply' {J m : Nat} {out bs : Bs} {b : Bs} {R : List Bs} (hout : out.length ≤ 65536) (hb : b.length ≤ 100) : (sS J out bs (tMk idF m (b :: R)) (tMk rrF (m + 1) R)).reply ((m + 1 : Nat) : Int) 0 (b ++ [lenB b]) = (sS J (out ++ encF 17 (rpF (m + 1) b).b) bs (tMk idF (m + 1) R) (tMk rrF (m + 1) R), 0) := by
  have h1 : (tMk idF m (b :: R)).any (eqI ((m + 1 : Nat) : Int)) = true := by
    rw [List.any_eq_true]
    exact ⟨_, List.mem_cons_self .., by simp [eqI, idF]⟩
  have h2 : (sS J out bs (tMk idF m (b :: R)) (tMk rrF (m + 1) R)).close ((m + 1 : Nat) : Int) = sS J out bs (tMk idF (m + 1) R) (tMk rrF (m + 1) R) := by
    unfold PV.close
    rw [if_pos h1]
    have h3 : delI ((m + 1 : Nat) : Int) (tMk idF m (b :: R)) = tMk idF (m + 1) R := by rw [tMk]; unfold delI; rw [if_pos rfl]
    have h4 : (tMk rrF (m + 1) R).filter (notId ((m + 1 : Nat) : Int)) = tMk rrF (m + 1) R := by
      rw [List.filter_eq_self]
      intro c hc
      have := rr_mem hc
      unfold notId
      rw [decide_eq_false (by omega)]
      rfl
    rw [h3, h4]
  unfold PV.reply
  rw [if_neg (by omega), if_neg (fun e => e rfl), if_neg (by rw [List.length_append, List.length_singleton]; omega), if_neg (by rw [h1]; simp), if_neg (by show ¬ 65536 < out.length; omega), h2]
  rfl
end Go.Proofs.YtkcfgglmlogjbaaGreat
end
section
set_option linter.unusedVariables false
set_option maxRecDepth 20000
set_option maxHeartbeats 2000000
namespace Go.Proofs.YtkcfgglmlogjbaaGreat
structure TS where
  a : MxX
  b : MxX
  F1 : List MF
  F2 : List MF
  P1 : Bs
  P2 : Bs
  D1 : Bs
  D2 : Bs
  co : Bs
  so : Bs
  cb : Bs
  sb : Bs
  i : Nat
  jr : Nat
  j : Nat
def seg (Bd : List Bs) (i j : Nat) : List Bs := (Bd.take j).drop i
structure TI (Bd : List Bs) (win : Nat) (s : TS) : Prop where
  lk : Lk win s.a s.b s.F1 s.F2
  ij : s.i ≤ s.jr ∧ s.jr ≤ s.j ∧ s.j ≤ Bd.length
  q1 : s.sb ++ (s.D1 ++ (s.b.un ++ (datS s.F1 ++ (s.P1 ++ s.co)))) = encA (tMk rqF s.j (Bd.drop s.j))
  q2 : s.cb ++ (s.D2 ++ (s.a.un ++ (datS s.F2 ++ (s.P2 ++ s.so)))) = encA (tMk rpF s.i (seg Bd s.i s.jr))
  k1 : ∀ f r, tMk rqF s.j (Bd.drop s.j) = f :: r → s.sb.length < f.b.length + 6
  k2 : ∀ f r, tMk rpF s.i (seg Bd s.i s.jr) = f :: r → s.cb.length < f.b.length + 6
def Phi (Bd : List Bs) (s : TS) : Nat := cost s.a s.b s.F1 s.F2 + 61 * (s.P1.length + s.co.length + s.P2.length + s.so.length) + 61 * (encA (tMk rpF s.jr (Bd.drop s.jr))).length
theorem encA_len_le {f : Nat → Bs → Fr} {c : Nat} (hf : ∀ id b, b.length ≤ 100 → (f id b).b.length + 6 ≤ c) : ∀ (L : List Bs) (k : Nat), (∀ b ∈ L, b.length ≤ 100) → (encA (tMk f k L)).length ≤ c * L.length
  | [], _, _ => Nat.zero_le _
  | b :: r, k, h => by
    have h1 := encA_len_le hf r (k + 1) fun x hx => h x (List.mem_cons_of_mem _ hx)
    have h2 := hf (k + 1) b (h b (List.mem_cons_self ..))
    rw [tMk, encA_cons, List.length_append, encF_len, List.length_cons, Nat.mul_succ]
    omega
theorem rq_c (id : Nat) (b : Bs) (h : b.length ≤ 100) : (rqF id b).b.length + 6 ≤ 118 := by rw [rq_len]; omega
theorem rp_c (id : Nat) (b : Bs) (h : b.length ≤ 100) : (rpF id b).b.length + 6 ≤ 113 := by rw [rp_len]; omega
structure BdOk (Bd : List Bs) : Prop where
  l : Bd.length ≤ 8
  b : ∀ b ∈ Bd, b.length ≤ 100
section
variable {Bd : List Bs} {win : Nat} {s : TS}
theorem BdOk.seg (hB : BdOk Bd) (i j : Nat) : (Go.Proofs.YtkcfgglmlogjbaaGreat.seg Bd i j).length ≤ 8 ∧ ∀ b ∈ Go.Proofs.YtkcfgglmlogjbaaGreat.seg Bd i j, b.length ≤ 100 := by
  have := hB.l
  exact ⟨by unfold Go.Proofs.YtkcfgglmlogjbaaGreat.seg; rw [List.length_drop, List.length_take]; omega, fun b hb => hB.b b (List.mem_of_mem_take (List.mem_of_mem_drop hb))⟩
theorem BdOk.drop (hB : BdOk Bd) (j : Nat) : (Bd.drop j).length ≤ 8 ∧ ∀ b ∈ Bd.drop j, b.length ≤ 100 := by
  have := hB.l
  exact ⟨by rw [List.length_drop]; omega, fun b hb => hB.b b (List.mem_of_mem_drop hb)⟩
theorem TI.b1 (h : TI Bd win s) (hB : BdOk Bd) : s.sb.length + s.D1.length + s.b.un.length + (datS s.F1).length + s.P1.length + s.co.length ≤ 944 := by
  have h1 := congrArg List.length h.q1
  have h2 := encA_len_le rq_c (Bd.drop s.j) s.j (hB.drop s.j).2
  have h3 := (hB.drop s.j).1
  simp only [List.length_append] at h1
  omega
theorem TI.b2 (h : TI Bd win s) (hB : BdOk Bd) : s.cb.length + s.D2.length + s.a.un.length + (datS s.F2).length + s.P2.length + s.so.length ≤ 904 := by
  have h1 := congrArg List.length h.q2
  have h2 := encA_len_le rp_c (seg Bd s.i s.jr) s.i (hB.seg s.i s.jr).2
  have h3 := (hB.seg s.i s.jr).1
  simp only [List.length_append] at h1
  omega
theorem TI.outs (h : TI Bd win s) (hB : BdOk Bd) (hp : Phi Bd s ≤ 120000) : s.a.out.length ≤ 60000 ∧ s.b.out.length ≤ 60000 := by
  have h1 := h.b1 hB
  have h2 := h.b2 hB
  unfold Phi at hp
  exact ⟨h.lk.out_le (by omega) (by omega), h.lk.symm.out_le (by rw [cost_symm]; omega) (by omega)⟩
theorem TI.t1 (h : TI Bd win s) : TI Bd win { s with P1 := s.P1 ++ s.co, co := [] } ∧ Phi Bd { s with P1 := s.P1 ++ s.co, co := [] } ≤ Phi Bd s :=
  ⟨⟨h.lk, h.ij, by have := h.q1; simpa using this, h.q2, h.k1, h.k2⟩, by unfold Phi; simp only [List.length_append, List.length_nil]; omega⟩
theorem TI.t2 (h : TI Bd win s) : TI Bd win { s with P2 := s.P2 ++ s.so, so := [] } ∧ Phi Bd { s with P2 := s.P2 ++ s.so, so := [] } ≤ Phi Bd s :=
  ⟨⟨h.lk, h.ij, h.q1, by have := h.q2; simpa using this, h.k1, h.k2⟩, by unfold Phi; simp only [List.length_append, List.length_nil]; omega⟩
theorem TI.t3 (h : TI Bd win s) : TI Bd win { s with a := s.a.wr s.P1, F1 := s.F1 ++ chunks (s.P1.take (s.a.wq s.P1)), P1 := s.P1.drop (s.a.wq s.P1) } ∧ Phi Bd { s with a := s.a.wr s.P1, F1 := s.F1 ++ chunks (s.P1.take (s.a.wq s.P1)), P1 := s.P1.drop (s.a.wq s.P1) } ≤ Phi Bd s := by
  obtain ⟨h1, h2, h3, h4⟩ := h.lk.write s.P1
  refine ⟨⟨h1, h.ij, ?_, h.q2, h.k1, h.k2⟩, ?_⟩
  · show s.sb ++ (s.D1 ++ (s.b.un ++ (datS (s.F1 ++ chunks (s.P1.take (s.a.wq s.P1))) ++ (s.P1.drop (s.a.wq s.P1) ++ s.co)))) = _
    rw [h3, List.append_assoc (datS s.F1), ← List.append_assoc (s.P1.take _), List.take_append_drop]
    exact h.q1
  · unfold Phi
    have h5 : (s.P1.drop (s.a.wq s.P1)).length + s.a.wq s.P1 = s.P1.length := by rw [List.length_take] at h4; rw [List.length_drop]; omega
    dsimp only
    omega
theorem TI.t4 (h : TI Bd win s) : TI Bd win { s with b := s.b.wr s.P2, F2 := s.F2 ++ chunks (s.P2.take (s.b.wq s.P2)), P2 := s.P2.drop (s.b.wq s.P2) } ∧ Phi Bd { s with b := s.b.wr s.P2, F2 := s.F2 ++ chunks (s.P2.take (s.b.wq s.P2)), P2 := s.P2.drop (s.b.wq s.P2) } ≤ Phi Bd s := by
  obtain ⟨h1, h2, h3, h4⟩ := h.lk.symm.write s.P2
  refine ⟨⟨h1.symm, h.ij, h.q1, ?_, h.k1, h.k2⟩, ?_⟩
  · show s.cb ++ (s.D2 ++ (s.a.un ++ (datS (s.F2 ++ chunks (s.P2.take (s.b.wq s.P2))) ++ (s.P2.drop (s.b.wq s.P2) ++ s.so)))) = _
    rw [h3, List.append_assoc (datS s.F2), ← List.append_assoc (s.P2.take _), List.take_append_drop]
    exact h.q2
  · unfold Phi
    rw [cost_symm, cost_symm s.b s.a] at h2
    have h5 : (s.P2.drop (s.b.wq s.P2)).length + s.b.wq s.P2 = s.P2.length := by rw [List.length_take] at h4; rw [List.length_drop]; omega
    dsimp only
    omega
theorem TI.t5 (h : TI Bd win s) {A B : List MF} (hF : s.F1 = A ++ B) {bs' : Bs} {n : Nat} (hE : bs' ++ s.a.out.drop n = encM B) (hW : ∀ f r, B = f :: r → bs'.length < f.fr.b.length + 6) (hn : 16 ≤ n) :
    TI Bd win { s with a := { s.a with out := s.a.out.drop n }, b := { s.b.got A with rd := bs' }, F1 := B } ∧ Phi Bd { s with a := { s.a with out := s.a.out.drop n }, b := { s.b.got A with rd := bs' }, F1 := B } + (if s.a.out = [] then 0 else 16) ≤ Phi Bd s := by
  have hl := h.lk
  rw [hF] at hl
  obtain ⟨h1, h2⟩ := hl.carry hE hW hn
  refine ⟨⟨h1, h.ij, ?_, h.q2, h.k1, h.k2⟩, ?_⟩
  · show s.sb ++ (s.D1 ++ ((s.b.un ++ datS A) ++ (datS B ++ (s.P1 ++ s.co)))) = _
    rw [List.append_assoc s.b.un, ← List.append_assoc (datS A), ← datS_app, ← hF]
    exact h.q1
  · unfold Phi
    rw [← hF] at h2
    dsimp only at h2 ⊢
    omega
theorem TI.t6 (h : TI Bd win s) {A B : List MF} (hF : s.F2 = A ++ B) {bs' : Bs} {n : Nat} (hE : bs' ++ s.b.out.drop n = encM B) (hW : ∀ f r, B = f :: r → bs'.length < f.fr.b.length + 6) (hn : 16 ≤ n) :
    TI Bd win { s with b := { s.b with out := s.b.out.drop n }, a := { s.a.got A with rd := bs' }, F2 := B } ∧ Phi Bd { s with b := { s.b with out := s.b.out.drop n }, a := { s.a.got A with rd := bs' }, F2 := B } + (if s.b.out = [] then 0 else 16) ≤ Phi Bd s := by
  have hl := h.lk.symm
  rw [hF] at hl
  obtain ⟨h1, h2⟩ := hl.carry hE hW hn
  refine ⟨⟨h1.symm, h.ij, h.q1, ?_, h.k1, h.k2⟩, ?_⟩
  · show s.cb ++ (s.D2 ++ ((s.a.un ++ datS A) ++ (datS B ++ (s.P2 ++ s.so)))) = _
    rw [List.append_assoc s.a.un, ← List.append_assoc (datS A), ← datS_app, ← hF]
    exact h.q2
  · unfold Phi
    rw [← hF] at h2
    rw [cost_symm, cost_symm s.b s.a] at h2
    dsimp only at h2 ⊢
    omega
theorem TI.t7 (h : TI Bd win s) (hD : s.D1 = []) {cr' : Nat} {cs : List Nat} (hs : cr' + sm cs = s.b.cr + s.b.un.length) (hcs : ∀ c ∈ cs, 1 ≤ c ∧ c ≤ 10000) (hcr : 2 * cr' < s.b.win) :
    TI Bd win { s with b := drX s.b [] cr' cs, F2 := s.F2 ++ cs.map .crd, D1 := s.b.un } ∧ Phi Bd { s with b := drX s.b [] cr' cs, F2 := s.F2 ++ cs.map .crd, D1 := s.b.un } ≤ Phi Bd s := by
  obtain ⟨h1, h2, h3⟩ := h.lk.drain hs hcs hcr
  refine ⟨⟨h1, h.ij, ?_, ?_, h.k1, h.k2⟩, ?_⟩
  · have := h.q1
    rw [hD] at this
    exact this
  · show s.cb ++ (s.D2 ++ (s.a.un ++ (datS (s.F2 ++ cs.map .crd) ++ (s.P2 ++ s.so)))) = _
    rw [h3]
    exact h.q2
  · unfold Phi
    dsimp only
    omega
theorem TI.t8 (h : TI Bd win s) (hD : s.D2 = []) {cr' : Nat} {cs : List Nat} (hs : cr' + sm cs = s.a.cr + s.a.un.length) (hcs : ∀ c ∈ cs, 1 ≤ c ∧ c ≤ 10000) (hcr : 2 * cr' < s.a.win) :
    TI Bd win { s with a := drX s.a [] cr' cs, F1 := s.F1 ++ cs.map .crd, D2 := s.a.un } ∧ Phi Bd { s with a := drX s.a [] cr' cs, F1 := s.F1 ++ cs.map .crd, D2 := s.a.un } ≤ Phi Bd s := by
  obtain ⟨h1, h2, h3⟩ := h.lk.symm.drain hs hcs hcr
  refine ⟨⟨h1.symm, h.ij, ?_, ?_, h.k1, h.k2⟩, ?_⟩
  · show s.sb ++ (s.D1 ++ (s.b.un ++ (datS (s.F1 ++ cs.map .crd) ++ (s.P1 ++ s.co)))) = _
    rw [h3]
    exact h.q1
  · have := h.q2
    rw [hD] at this
    exact this
  · unfold Phi
    rw [cost_symm, cost_symm s.b s.a] at h2
    dsimp only
    omega
theorem TI.t9 (h : TI Bd win s) (hB : BdOk Bd) (hu : s.b.un = []) : ∃ k bs', s.j + k ≤ Bd.length ∧ (sS s.j s.so s.sb [] []).recv s.D1 = (sS (s.j + k) s.so bs' (tMk idF s.j ((Bd.drop s.j).take k)) (tMk rrF s.j ((Bd.drop s.j).take k)), 0) ∧
    TI Bd win { s with sb := bs', D1 := [], j := s.j + k } ∧ Phi Bd { s with sb := bs', D1 := [], j := s.j + k } = Phi Bd s := by
  have hl := hB.drop s.j
  have h1 := h.b1 hB
  have hij := h.ij
  have hBl := hB.l
  have hq := h.q1
  rw [hu, List.nil_append] at hq
  have hdl := List.length_drop (i := s.j) (l := Bd)
  obtain ⟨k, bs', g1, g2, g3, g4⟩ := s_recv' (out := s.so) (L := Bd.drop s.j) (by omega) (by omega) hl.2 (by omega) hq
  rw [List.drop_drop] at g3 g4
  refine ⟨k, bs', by omega, g2, ⟨h.lk, by dsimp only; omega, ?_, h.q2, g4, h.k2⟩, rfl⟩
  show bs' ++ ([] ++ (s.b.un ++ (datS s.F1 ++ (s.P1 ++ s.co)))) = _
  rw [hu]
  exact g3
theorem seg_app (Bd : List Bs) {i j : Nat} (h1 : i ≤ j) (h2 : j ≤ Bd.length) : seg Bd i j ++ Bd.drop j = Bd.drop i := by
  unfold seg
  conv => rhs; rw [← List.take_append_drop j Bd]
  rw [List.drop_append_of_le_length (by rw [List.length_take]; omega)]
theorem seg_drop (Bd : List Bs) (i j k : Nat) : (seg Bd i j).drop k = seg Bd (i + k) j := by unfold seg; rw [List.drop_drop]
theorem TI.t10 (h : TI Bd win s) (hB : BdOk Bd) (hu : s.a.un = []) : ∃ k bs', s.i + k ≤ s.jr ∧ (cS Bd.length s.co s.cb (tMk caF s.i (Bd.drop s.i)) []).recv s.D2 = (cS Bd.length s.co bs' (tMk caF (s.i + k) (Bd.drop (s.i + k))) (tMk rsF s.i ((Bd.drop s.i).take k)), 0) ∧
    TI Bd win { s with cb := bs', D2 := [], i := s.i + k } ∧ Phi Bd { s with cb := bs', D2 := [], i := s.i + k } = Phi Bd s := by
  have hl := hB.seg s.i s.jr
  have h1 := h.b2 hB
  have hij := h.ij
  have hBl := hB.l
  have hq := h.q2
  rw [hu, List.nil_append] at hq
  have hsl : (seg Bd s.i s.jr).length = s.jr - s.i := by unfold seg; rw [List.length_drop, List.length_take]; omega
  obtain ⟨k, bs', g1, g2, g3, g4⟩ := c_recv' (n := Bd.length) (out := s.co) (L := seg Bd s.i s.jr) (R := Bd.drop s.jr) (by omega) (by omega) hl.2 (by omega) hq
  have hik : s.i + k ≤ s.jr := by omega
  rw [seg_app Bd (by omega) (by omega), seg_drop, seg_app Bd hik (by omega)] at g2
  rw [seg_drop] at g3 g4
  have htk : (seg Bd s.i s.jr).take k = (Bd.drop s.i).take k := by
    rw [← seg_app Bd (i := s.i) (j := s.jr) (by omega) (by omega), List.take_append_of_le_length (by omega)]
  rw [htk] at g2
  refine ⟨k, bs', hik, g2, ⟨h.lk, by dsimp only; omega, h.q1, ?_, h.k1, g4⟩, rfl⟩
  show bs' ++ ([] ++ (s.a.un ++ (datS s.F2 ++ (s.P2 ++ s.so)))) = _
  rw [hu]
  exact g3
theorem seg_snoc (Bd : List Bs) {i j : Nat} {b : Bs} (h1 : i ≤ j) (h2 : Bd[j]? = some b) : seg Bd i (j + 1) = seg Bd i j ++ [b] := by
  have hlt := (List.getElem?_eq_some_iff.1 h2).1
  unfold seg
  rw [take_next h2, List.drop_append_of_le_length (by rw [List.length_take]; omega)]
theorem TI.t11 (h : TI Bd win s) {b : Bs} (hb : Bd[s.jr]? = some b) (hj : s.jr < s.j) : TI Bd win { s with so := s.so ++ encF 17 (rpF (s.jr + 1) b).b, jr := s.jr + 1 } ∧ Phi Bd { s with so := s.so ++ encF 17 (rpF (s.jr + 1) b).b, jr := s.jr + 1 } = Phi Bd s := by
  have hij := h.ij
  have hlt := (List.getElem?_eq_some_iff.1 hb).1
  have hsl : (seg Bd s.i s.jr).length = s.jr - s.i := by unfold seg; rw [List.length_drop, List.length_take]; omega
  have hs := seg_snoc Bd hij.1 hb
  have hmk : tMk rpF s.i (seg Bd s.i (s.jr + 1)) = tMk rpF s.i (seg Bd s.i s.jr) ++ [rpF (s.jr + 1) b] := by
    rw [hs, tMk_app, hsl, show s.i + (s.jr - s.i) = s.jr from by omega]
    rfl
  refine ⟨⟨h.lk, by dsimp only; omega, h.q1, ?_, h.k1, ?_⟩, ?_⟩
  · show s.cb ++ (s.D2 ++ (s.a.un ++ (datS s.F2 ++ (s.P2 ++ (s.so ++ encF 17 (rpF (s.jr + 1) b).b))))) = encA (tMk rpF s.i (seg Bd s.i (s.jr + 1)))
    rw [hmk, encA_app, ← h.q2, encA_one]
    simp only [List.append_assoc]
    rfl
  · show ∀ f r, tMk rpF s.i (seg Bd s.i (s.jr + 1)) = f :: r → s.cb.length < f.b.length + 6
    rw [hmk]
    intro f r hf
    rcases hseg : tMk rpF s.i (seg Bd s.i s.jr) with _ | ⟨f', r'⟩
    · have hq := congrArg List.length h.q2
      rw [hseg, List.length_append, show (encA []).length = 0 from rfl] at hq
      omega
    · rw [hseg, List.cons_append] at hf
      obtain ⟨rfl, -⟩ := List.cons.inj hf
      exact h.k2 f' r' hseg
  · unfold Phi
    have hd : Bd.drop s.jr = b :: Bd.drop (s.jr + 1) := by
      obtain ⟨h2, rfl⟩ := List.getElem?_eq_some_iff.1 hb
      exact List.drop_eq_getElem_cons h2
    rw [hd, tMk, encA_cons]
    simp only [List.length_append]
    show _ + 61 * (_ + _ + _ + (s.so.length + (encF 17 (rpF (s.jr + 1) b).b).length)) + _ = _ + _ + 61 * ((encF 17 (rpF (s.jr + 1) b).b).length + _)
    omega
theorem TI.still (h : TI Bd win s) (hco : s.co = []) (hso : s.so = []) (hD1 : s.D1 = []) (hD2 : s.D2 = []) (hu1 : s.a.un = []) (hu2 : s.b.un = []) (ha : s.a.out = []) (hb : s.b.out = []) (hj : s.jr = s.j) (hP1 : s.P1 = [] ∨ s.a.snd = 0) (hP2 : s.P2 = [] ∨ s.b.snd = 0) : s.i = Bd.length := by
  obtain ⟨f1, f2, f3⟩ := h.lk.still ha hb hu2
  obtain ⟨-, -, f4⟩ := h.lk.symm.still hb ha hu1
  have hp1 : s.P1 = [] := by rcases hP1 with e | e; exact e; omega
  have hp2 : s.P2 = [] := by rcases hP2 with e | e; exact e; omega
  have hij := h.ij
  have hq1 := h.q1
  have hq2 := h.q2
  rw [hD1, hu2, f1, hp1, hco] at hq1
  rw [hD2, hu1, f2, hp2, hso] at hq2
  simp only [show datS [] = [] from rfl, List.append_nil] at hq1 hq2
  have hjn : s.j = Bd.length := by
    rcases hm : tMk rqF s.j (Bd.drop s.j) with _ | ⟨f, r⟩
    · have h1 := tMk_len rqF s.j (Bd.drop s.j)
      rw [hm, List.length_nil, List.length_drop] at h1
      omega
    · have h1 := h.k1 f r hm
      have h2 := congrArg List.length hq1
      rw [hm, encA_cons, List.length_append, encF_len] at h2
      omega
  rcases hm : tMk rpF s.i (seg Bd s.i s.jr) with _ | ⟨f, r⟩
  · have h1 := tMk_len rpF s.i (seg Bd s.i s.jr)
    rw [hm, List.length_nil] at h1
    have hsl : (seg Bd s.i s.jr).length = s.jr - s.i := by unfold seg; rw [List.length_drop, List.length_take]; omega
    omega
  · have h1 := h.k2 f r hm
    have h2 := congrArg List.length hq2
    rw [hm, encA_cons, List.length_append, encF_len] at h2
    omega
theorem wr_end (x : MxX) (P : Bs) : P.drop (x.wq P) = [] ∨ (x.wr P).snd = 0 := by
  have h2 : (x.wr P).snd = x.snd - x.wq P := rfl
  rcases Nat.le_total P.length x.snd with h | h
  · left; exact List.drop_eq_nil_of_le (by unfold MxX.wq; omega)
  · right; rw [h2]; unfold MxX.wq; omega
end
end Go.Proofs.YtkcfgglmlogjbaaGreat
end
section
set_option linter.unusedVariables false
set_option maxRecDepth 20000
set_option maxHeartbeats 2000000
namespace Go.Proofs.YtkcfgglmlogjbaaGreat
def MxX.cut (x : MxX) (n : Nat) : MxX := { x with out := x.out.drop n }
def MxX.put (x : MxX) (A : List MF) (bs : Bs) : MxX := { x.got A with rd := bs }
theorem t_carry {ga gb : MG} {pa pb : Nat} {a b : MxX} (ha : MGd ga pa a) (hb : MGd gb pb b) {L : List MF} (hok : ∀ f ∈ L, f.ok) (hd : (datS L).length ≤ b.rcv) (hc : b.snd + crdS L ≤ b.win) (hu : b.un.length ≤ 10000) (hE : b.rd ++ a.out = encM L) (n : Nat) (hn : n ≤ 65536) (hout : a.out.length ≤ 1000000) (hfit : b.rd.length + n ≤ 65536) : Spec Tryz.prog 8 [ptrW pa, ptrW pb, .int .i64 (n : Int)] (mH ga ++ mH gb)
    (fun r H' => ∃ ga' gb' A B bs', L = A ++ B ∧ MGd ga' pa (a.cut n) ∧ MGd gb' pb (b.put A bs') ∧ bs' ++ a.out.drop n = encM B ∧ (∀ f r, B = f :: r → bs'.length < f.fr.b.length + 6) ∧ r = .bool true ∧ H' = mH ga' ++ mH gb') :=
  carry_ok ha hb hok hd hc hu hE n hn hout hfit
def sl (Bd : List Bs) (m e : Nat) : List Bs := (Bd.drop m).take (e - m)
theorem sl_nil (Bd : List Bs) {m e : Nat} (h : e ≤ m) : sl Bd m e = [] := by unfold sl; rw [show e - m = 0 from by omega]; rfl
theorem sl_cons {Bd : List Bs} {m e : Nat} {b : Bs} (h : m < e) (hb : Bd[m]? = some b) : sl Bd m e = b :: sl Bd (m + 1) e := by
  obtain ⟨h2, rfl⟩ := List.getElem?_eq_some_iff.1 hb
  unfold sl
  rw [List.drop_eq_getElem_cons h2, show e - m = (e - (m + 1)) + 1 from by omega, List.take_succ_cons]
theorem sl_of (Bd : List Bs) (m k : Nat) : (Bd.drop m).take k = sl Bd m (m + k) := by unfold sl; rw [show m + k - m = k from by omega]
theorem sl_len (Bd : List Bs) (m e : Nat) : (sl Bd m e).length ≤ Bd.length := by unfold sl; rw [List.length_take, List.length_drop]; omega
theorem pcb_S {n i : Nat} {out bs : Bs} {L : List Bs} {res : List Res} (hn : n ≤ 1000) (ho : out.length ≤ 60000) (hb : bs.length ≤ 60000) (hL : L.length ≤ 32) (hi : i ≤ 1000) (hr : res.length ≤ 1000) : PCB (cS n out bs (tMk caF i L) res) :=
  ⟨by dsimp only; omega, by dsimp only; omega, by dsimp only; omega, by dsimp only; rw [tMk_len]; exact hL, by dsimp only; rw [tMk_len]; omega, Nat.zero_le _, fun c hc => by rw [(ca_mem hc).2.2]; exact Nat.le_refl _, fun c hc => by have := (ca_mem hc).2.1; omega, fun _ => rfl⟩
theorem pvb_S {j i i' : Nat} {out bs : Bs} {L L' : List Bs} (hj : j ≤ 1000) (ho : out.length ≤ 60000) (hb : bs.length ≤ 60000) (hL : L.length ≤ 32) (hi : i ≤ 1000) (hL' : L'.length ≤ 1000) : PVB (sS j out bs (tMk idF i L) (tMk rrF i' L')) :=
  ⟨by dsimp only; omega, by dsimp only; omega, by dsimp only; omega, by dsimp only; rw [tMk_len]; exact hL, by dsimp only; rw [tMk_len]; omega, fun c hc => by have := id_mem hc; omega, fun _ => rfl⟩
theorem t_cout {g : CG} {p n : Nat} {out bs : Bs} {calls : List Ca} {res : List Res} (hg : CGd g p (cS n out bs calls res)) (hb : PCB (cS n out bs calls res)) (ho : out.length ≤ 65536) : Spec Tryz.prog 13 [ptrC p, .int .i64 65536] (cH g) (fun r H' => ∃ g' o c tl, CGd g' p (cS n [] bs calls res) ∧ Own o out.length c 1 (bvs out) tl ∧ r = .tuple #[slV o out.length c, .int .i64 0] ∧ H' = cH g' ++ [⟨o, cl (bvs (out) ++ tl) 5⟩]) := by
  refine (k_out1 hg hb 65536 (Nat.le_refl _)).mono ?_
  rintro r H' ⟨g', o, c, tl, h1, h2, h3, h4⟩
  rw [show (cS n out bs calls res).out.take 65536 = out from List.take_of_length_le ho] at h2 h3 h4
  rw [show (cS n out bs calls res).out.drop 65536 = [] from List.drop_eq_nil_of_le ho] at h1
  exact ⟨g', o, c, tl, h1, h2, h3, h4⟩
theorem t_sout {g : SG} {p j : Nat} {out bs : Bs} {opn : List Int} {qu : List Rr} (hg : SGd g p (sS j out bs opn qu)) (hb : PVB (sS j out bs opn qu)) (ho : out.length ≤ 65536) : Spec Tryz.prog 14 [ptrC p, .int .i64 65536] (sH g) (fun r H' => ∃ g' o c tl, SGd g' p (sS j [] bs opn qu) ∧ Own o out.length c 1 (bvs out) tl ∧ r = .tuple #[slV o out.length c, .int .i64 0] ∧ H' = sH g' ++ [⟨o, cl (bvs (out) ++ tl) 5⟩]) := by
  refine (s_out1 hg hb 65536 (Nat.le_refl _)).mono ?_
  rintro r H' ⟨g', o, c, tl, h1, h2, h3, h4⟩
  rw [show (sS j out bs opn qu).out.take 65536 = out from List.take_of_length_le ho] at h2 h3 h4
  rw [show (sS j out bs opn qu).out.drop 65536 = [] from List.drop_eq_nil_of_le ho] at h1
  exact ⟨g', o, c, tl, h1, h2, h3, h4⟩
theorem t_crecv {g : CG} {p : Nat} {v v' : PC} (hg : CGd g p v) (hb : PCB v) {l : Bs} {oa : Option Addr} {ent : Ent} {c0 : Nat} (hr : RdB oa ent l) (hl : l.length ≤ 65536) (he : v.recv l = (v', 0)) : Spec Tryz.prog 18 [ptrC p, .slice oa l.length c0] (cH g ++ [ent]) (fun r H' => ∃ g', CGd g' p v' ∧ r = .int .i64 0 ∧ H' = cH g' ++ [ent]) := by
  have h := k_recv hg hb hr hl (c0 := c0)
  rw [he] at h
  exact h
theorem t_srecv {g : SG} {p : Nat} {v v' : PV} (hg : SGd g p v) (hb : PVB v) {l : Bs} {oa : Option Addr} {ent : Ent} {c0 : Nat} (hr : RdB oa ent l) (hl : l.length ≤ 65536) (he : v.recv l = (v', 0)) : Spec Tryz.prog 17 [ptrC p, .slice oa l.length c0] (sH g ++ [ent]) (fun r H' => ∃ g', SGd g' p v' ∧ r = .int .i64 0 ∧ H' = sH g' ++ [ent]) := by
  have h := s_recv hg hb hr hl (c0 := c0)
  rw [he] at h
  exact h
theorem t_reply {g : SG} {p J m : Nat} {Bd : List Bs} {out bs b : Bs} (hg : SGd g p (sS J out bs (tMk idF m (sl Bd m J)) (tMk rrF (m + 1) (sl Bd (m + 1) J)))) (hB : BdOk Bd) (hJ : J ≤ 8) (hm : m < J) (hb9 : Bd[m]? = some b) (ho : out.length ≤ 60000) (hbs : bs.length ≤ 60000)
    {oa : Option Addr} {ent : Ent} {c : Nat} (hr : RdB oa ent (b ++ [lenB b])) : Spec Tryz.prog 20 [ptrC p, .int .i64 ((m + 1 : Nat) : Int), .int .i64 0, .slice oa (b ++ [lenB b]).length c] (sH g ++ [ent])
    (fun r H' => ∃ g', SGd g' p (sS J (out ++ encF 17 (rpF (m + 1) b).b) bs (tMk idF (m + 1) (sl Bd (m + 1) J)) (tMk rrF (m + 1) (sl Bd (m + 1) J))) ∧ r = .int .i64 0 ∧ H' = sH g' ++ [ent]) := by
  have hbl := hB.b b (List.mem_of_getElem? hb9)
  have h1 := sl_len Bd m J
  have h2 := sl_len Bd (m + 1) J
  have hl := hB.l
  have h := s_reply hg (pvb_S (by omega) ho hbs (by omega) (by omega) (by omega)) ((m + 1 : Nat) : Int) 0 hr (by rw [List.length_append, List.length_singleton]; omega) (c := c)
  rw [sl_cons hm hb9, s_reply' (by omega) hbl] at h
  exact h
theorem t_cnext {g : CG} {p n i m e : Nat} {Bd : List Bs} {out bs : Bs} {L : List Bs} (hg : CGd g p (cS n out bs (tMk caF i L) (tMk rsF m (sl Bd m e)))) (hb : PCB (cS n out bs (tMk caF i L) (tMk rsF m (sl Bd m e)))) (hme : m ≤ e ∧ e ≤ Bd.length) : Spec Tryz.prog 21 [ptrC p] (cH g)
    (fun r H' => ∃ g' o c tl id bd, CGd g' p (cS n out bs (tMk caF i L) (tMk rsF (m + 1) (sl Bd (m + 1) e))) ∧ Own o bd.length c 1 (bvs bd) tl ∧ (m < e → id = ((m + 1 : Nat) : Int) ∧ ∃ b, Bd[m]? = some b ∧ bd = b ++ [lenB b]) ∧ r = .tuple #[.agg #[.int .i64 id, .int .i64 0, slV o bd.length c], .bool (decide (m < e))] ∧ H' = cH g' ++ [⟨o, cl (bvs bd ++ tl) 5⟩]) := by
  rcases Nat.lt_or_ge m e with h | h
  · obtain ⟨b, hb9⟩ : ∃ b, Bd[m]? = some b := ⟨_, List.getElem?_eq_getElem (by omega)⟩
    have hs := sl_cons h hb9
    refine (k_next1 hg hb (rr := rsF (m + 1) b) (rest := tMk rsF (m + 1) (sl Bd (m + 1) e)) (by dsimp only; rw [hs]; rfl)).mono ?_
    rintro r H' ⟨g', o, c, tl, h1, h2, rfl, h4⟩
    exact ⟨g', o, c, tl, _, b ++ [lenB b], h1, h2, fun _ => ⟨rfl, b, hb9, rfl⟩, by rw [decide_eq_true h], h4⟩
  · refine Spec.re (SpecNone 5 ((k_next0 hg hb (by dsimp only; rw [sl_nil _ h]; rfl)).mono ?_))
    rintro r H' ⟨g', h1, rfl, rfl⟩
    refine ⟨⟨none, cl [] 5⟩, ⟨rfl, rfl⟩, cH g' ++ [⟨none, cl [] 5⟩], List.perm_append_comm (l₁ := [_]), g', none, 0, [], 0, [], ?_, Own.empty 1, fun e => absurd e (by omega), by rw [decide_eq_false (by omega)]; rfl, rfl⟩
    rw [sl_nil _ h] at h1
    rw [sl_nil _ (by omega)]
    exact h1
theorem t_snext {g : SG} {p m J i : Nat} {Bd : List Bs} {out bs : Bs} {L : List Bs} (hg : SGd g p (sS J out bs (tMk idF i L) (tMk rrF m (sl Bd m J)))) (hb : PVB (sS J out bs (tMk idF i L) (tMk rrF m (sl Bd m J)))) (hme : m ≤ J ∧ J ≤ Bd.length) : Spec Tryz.prog 19 [ptrC p] (sH g)
    (fun r H' => ∃ g' o c tl id dl bd, SGd g' p (sS J out bs (tMk idF i L) (tMk rrF (m + 1) (sl Bd (m + 1) J))) ∧ Own o bd.length c 1 (bvs bd) tl ∧ (m < J → id = ((m + 1 : Nat) : Int) ∧ Bd[m]? = some bd) ∧ r = .tuple #[.agg #[.int .i64 id, .int .u64 dl, slV o bd.length c], .bool (decide (m < J))] ∧ H' = sH g' ++ [⟨o, cl (bvs bd ++ tl) 5⟩]) := by
  rcases Nat.lt_or_ge m J with h | h
  · obtain ⟨b, hb9⟩ : ∃ b, Bd[m]? = some b := ⟨_, List.getElem?_eq_getElem (by omega)⟩
    have hs := sl_cons h hb9
    refine (s_next1 hg hb (rr := rrF (m + 1) b) (rest := tMk rrF (m + 1) (sl Bd (m + 1) J)) (by dsimp only; rw [hs]; rfl)).mono ?_
    rintro r H' ⟨g', o, c, tl, h1, h2, rfl, h4⟩
    exact ⟨g', o, c, tl, _, _, b, h1, h2, fun _ => ⟨rfl, hb9⟩, by rw [decide_eq_true h], h4⟩
  · refine Spec.re (SpecNone 5 ((s_next0 hg hb (by dsimp only; rw [sl_nil _ h]; rfl)).mono ?_))
    rintro r H' ⟨g', h1, rfl, rfl⟩
    refine ⟨⟨none, cl [] 5⟩, ⟨rfl, rfl⟩, sH g' ++ [⟨none, cl [] 5⟩], List.perm_append_comm (l₁ := [_]), g', none, 0, [], 0, 0, [], ?_, Own.empty 1, fun e => absurd e (by omega), by rw [decide_eq_false (by omega)]; rfl, rfl⟩
    rw [sl_nil _ h] at h1
    rw [sl_nil _ (by omega)]
    exact h1
theorem tMk_snoc {α : Type} (f : Nat → Bs → α) {Bd : List Bs} {m : Nat} {b : Bs} (hb : Bd[m]? = some b) : tMk f 0 (Bd.take (m + 1)) = tMk f 0 (Bd.take m) ++ [f (m + 1) b] := by
  have hlt := (List.getElem?_eq_some_iff.1 hb).1
  rw [take_next hb, tMk_app, List.length_take, show 0 + min m Bd.length = m from by omega]
  rfl
theorem memOut {DH : Heap} {e : Ent} (h : e ∈ DH) : ∃ G, DH.Perm (e :: G) := by
  obtain ⟨A, B, rfl⟩ := List.append_of_mem h
  exact ⟨A ++ B, List.perm_middle⟩
theorem t_call {g : CG} {p m : Nat} {Bd : List Bs} {b : Bs} (hg : CGd g p (cS m (encA (tMk rqF 0 (Bd.take m))) [] (tMk caF 0 (Bd.take m)) [])) (hB : BdOk Bd) (hb9 : Bd[m]? = some b) {oa : Option Addr} {c : Nat} {DH : Heap} (hr : ∃ ent ∈ DH, RdB oa ent b) :
    Spec Tryz.prog 10 [ptrC p, .slice oa b.length c, .int .u64 18446744073709551615] (cH g ++ DH) (fun r H' => ∃ g', CGd g' p (cS (m + 1) (encA (tMk rqF 0 (Bd.take (m + 1)))) [] (tMk caF 0 (Bd.take (m + 1))) []) ∧ r = .tuple #[.int .i64 ((m + 1 : Nat) : Int), .int .i64 0] ∧ H' = cH g' ++ DH) := by
  obtain ⟨ent, hm, hrb⟩ := hr
  obtain ⟨G, hG⟩ := memOut hm
  have hl := hB.l
  have hlt := (List.getElem?_eq_some_iff.1 hb9).1
  have hbl := hB.b b (List.mem_of_getElem? hb9)
  have h1 := encA_len_le rq_c (Bd.take m) 0 (fun x hx => hB.b x (List.mem_of_mem_take hx))
  have h2 : (Bd.take m).length = m := by rw [List.length_take]; omega
  have h3 : (tMk caF 0 (Bd.take m)).length = m := by rw [tMk_len, h2]
  have hc : (cS m (encA (tMk rqF 0 (Bd.take m))) [] (tMk caF 0 (Bd.take m)) []).call b NV = (cS (m + 1) (encA (tMk rqF 0 (Bd.take (m + 1)))) [] (tMk caF 0 (Bd.take (m + 1))) [], ((m + 1 : Nat) : Int), 0) := by
    unfold PC.call
    rw [if_neg (show ¬ NV ≤ 0 by decide), if_neg (by intro h; rcases h with h | h; exact absurd (show false = true from h) (by decide); exact h rfl), if_neg (by omega), if_neg (by intro h; rcases h with h | h; (have h : 32 ≤ (tMk caF 0 (Bd.take m)).length := h; omega); (have h : 65536 < (encA (tMk rqF 0 (Bd.take m))).length := h; omega)), tMk_snoc rqF hb9, tMk_snoc caF hb9, encA_app, encA_one]
    rfl
  have h := k_call hg (pcb_S (by omega) (by omega) (Nat.zero_le _) (by omega) (by omega) (Nat.zero_le _)) hrb NV (Nat.le_refl _) (c := c)
  rw [hc] at h
  have hp : ∀ X : Heap, (X ++ DH).Perm (X ++ [ent] ++ G) := fun X => by rw [List.append_assoc]; exact List.Perm.append_left X hG
  refine Spec.re (((h.fr G).perm (hp _)).mono ?_)
  rintro r H' ⟨H1, ⟨g', h1, rfl, rfl⟩, rfl⟩
  exact ⟨cH g' ++ DH, (hp _).symm, g', h1, rfl, rfl⟩
theorem ti0 {Bd : List Bs} (hB : BdOk Bd) {win : Nat} (hw : 1 ≤ win ∧ win ≤ 4096) : TI Bd win ⟨⟨win, 3, 2, win, win, 0, [], [], []⟩, ⟨win, 2, 3, win, win, 0, [], [], []⟩, [], [], [], [], [], [], encA (tMk rqF 0 Bd), [], [], [], 0, 0, 0⟩ ∧ Phi Bd ⟨⟨win, 3, 2, win, win, 0, [], [], []⟩, ⟨win, 2, 3, win, win, 0, [], [], []⟩, [], [], [], [], [], [], encA (tMk rqF 0 Bd), [], [], [], 0, 0, 0⟩ ≤ 120000 := by
  have h1 := encA_len_le rq_c Bd 0 hB.b
  have h2 := encA_len_le rp_c Bd 0 hB.b
  have hl := hB.l
  refine ⟨⟨⟨hw, rfl, rfl, rfl, rfl, (fun f hf => by cases hf), (fun f hf => by cases hf), (fun f r e => by cases e), (fun f r e => by cases e), rfl, rfl, by simp, by simp, by dsimp only; omega, by dsimp only; omega⟩, ⟨Nat.le_refl _, Nat.le_refl _, Nat.zero_le _⟩, rfl, rfl, ?_, ?_⟩, ?_⟩
  · intro f r e
    show 0 < _
    omega
  · intro f r e
    show 0 < _
    omega
  · unfold Phi cost
    rw [List.drop_zero]
    simp only [List.length_nil, show (datS []).length = 0 from rfl]
    omega
end Go.Proofs.YtkcfgglmlogjbaaGreat
end
section
set_option linter.unusedVariables false
set_option maxRecDepth 20000
set_option maxHeartbeats 2000000
namespace Go.Proofs.YtkcfgglmlogjbaaGreat
section
variable {Bd : List Bs} {win : Nat} {a b : MxX} {F1 F2 : List MF} {P1 P2 D1 D2 co so cb sb : Bs} {i jr j : Nat}
theorem TI.lens (h : TI Bd win (⟨a, b, F1, F2, P1, P2, D1, D2, co, so, cb, sb, i, jr, j⟩ : TS)) (hB : BdOk Bd) : sb.length + D1.length + b.un.length + (datS F1).length + P1.length + co.length ≤ 944 ∧ cb.length + D2.length + a.un.length + (datS F2).length + P2.length + so.length ≤ 904 := ⟨h.b1 hB, h.b2 hB⟩
theorem TI.outL (h : TI Bd win (⟨a, b, F1, F2, P1, P2, D1, D2, co, so, cb, sb, i, jr, j⟩ : TS)) (hB : BdOk Bd) (hp : Phi Bd (⟨a, b, F1, F2, P1, P2, D1, D2, co, so, cb, sb, i, jr, j⟩ : TS) ≤ 120000) : a.out.length ≤ 60000 ∧ b.out.length ≤ 60000 := h.outs hB hp
theorem TI.ijL (h : TI Bd win (⟨a, b, F1, F2, P1, P2, D1, D2, co, so, cb, sb, i, jr, j⟩ : TS)) : i ≤ jr ∧ jr ≤ j ∧ j ≤ Bd.length := h.ij
theorem TI.e12 (h : TI Bd win (⟨a, b, F1, F2, P1, P2, [], [], co, so, cb, sb, i, j, j⟩ : TS)) : TI Bd win (⟨a, b, F1, F2, P1 ++ co, P2 ++ so, [], [], [], [], cb, sb, i, j, j⟩ : TS) ∧ Phi Bd (⟨a, b, F1, F2, P1 ++ co, P2 ++ so, [], [], [], [], cb, sb, i, j, j⟩ : TS) ≤ Phi Bd (⟨a, b, F1, F2, P1, P2, [], [], co, so, cb, sb, i, j, j⟩ : TS) := by
  have h1 := h.t1
  have h2 := h1.1.t2
  exact ⟨h2.1, Nat.le_trans h2.2 h1.2⟩
theorem TI.e34 (h : TI Bd win (⟨a, b, F1, F2, P1, P2, [], [], [], [], cb, sb, i, j, j⟩ : TS)) : ∃ F1' F2', TI Bd win (⟨a.wr P1, b.wr P2, F1', F2', P1.drop (a.wq P1), P2.drop (b.wq P2), [], [], [], [], cb, sb, i, j, j⟩ : TS) ∧ Phi Bd (⟨a.wr P1, b.wr P2, F1', F2', P1.drop (a.wq P1), P2.drop (b.wq P2), [], [], [], [], cb, sb, i, j, j⟩ : TS) ≤ Phi Bd (⟨a, b, F1, F2, P1, P2, [], [], [], [], cb, sb, i, j, j⟩ : TS) ∧ (a.un = [] → b.un = [] → i < Bd.length → (a.wr P1).out ≠ [] ∨ (b.wr P2).out ≠ []) := by
  have h1 := h.t3
  have h2 := h1.1.t4
  refine ⟨_, _, h2.1, Nat.le_trans h2.2 h1.2, fun u1 u2 hi => ?_⟩
  by_cases e1 : (a.wr P1).out = []
  · by_cases e2 : (b.wr P2).out = []
    · have := h2.1.still rfl rfl rfl rfl u1 u2 e1 e2 rfl (wr_end a P1) (wr_end b P2)
      have : i = Bd.length := this
      omega
    · exact .inr e2
  · exact .inl e1
theorem TI.cc1 (h : TI Bd win (⟨a, b, F1, F2, P1, P2, D1, D2, co, so, cb, sb, i, jr, j⟩ : TS)) : (∀ f ∈ F1, f.ok) ∧ (datS F1).length ≤ b.rcv ∧ b.snd + crdS F1 ≤ b.win ∧ b.un.length ≤ 10000 ∧ b.rd ++ a.out = encM F1 ∧ b.rd.length ≤ 266 := by
  have l := h.lk
  have s1 := l.s1
  have s2 := l.s2
  have r1 := l.r1
  have r2 := l.r2
  have w := l.w
  have wb := l.wb
  dsimp only at s1 s2 r1 r2 wb
  exact ⟨l.o1, by omega, by omega, by omega, l.e1, l.rd_le⟩
theorem TI.cc2 (h : TI Bd win (⟨a, b, F1, F2, P1, P2, D1, D2, co, so, cb, sb, i, jr, j⟩ : TS)) : (∀ f ∈ F2, f.ok) ∧ (datS F2).length ≤ a.rcv ∧ a.snd + crdS F2 ≤ a.win ∧ a.un.length ≤ 10000 ∧ a.rd ++ b.out = encM F2 ∧ a.rd.length ≤ 266 := by
  have l := h.lk
  have s1 := l.s1
  have s2 := l.s2
  have r1 := l.r1
  have r2 := l.r2
  have w := l.w
  have wa := l.wa
  dsimp only at s1 s2 r1 r2 wa
  exact ⟨l.o2, by omega, by omega, by omega, l.e2, l.symm.rd_le⟩
theorem TI.e5 (h : TI Bd win (⟨a, b, F1, F2, P1, P2, D1, D2, co, so, cb, sb, i, jr, j⟩ : TS)) {A B : List MF} (hF : F1 = A ++ B) {bs' : Bs} {n : Nat} (hE : bs' ++ a.out.drop n = encM B) (hW : ∀ f r, B = f :: r → bs'.length < f.fr.b.length + 6) (hn : 16 ≤ n) :
    TI Bd win (⟨a.cut n, b.put A bs', B, F2, P1, P2, D1, D2, co, so, cb, sb, i, jr, j⟩ : TS) ∧ Phi Bd (⟨a.cut n, b.put A bs', B, F2, P1, P2, D1, D2, co, so, cb, sb, i, jr, j⟩ : TS) + (if a.out = [] then 0 else 16) ≤ Phi Bd (⟨a, b, F1, F2, P1, P2, D1, D2, co, so, cb, sb, i, jr, j⟩ : TS) := h.t5 hF hE hW hn
theorem TI.e6 (h : TI Bd win (⟨a, b, F1, F2, P1, P2, D1, D2, co, so, cb, sb, i, jr, j⟩ : TS)) {A B : List MF} (hF : F2 = A ++ B) {bs' : Bs} {n : Nat} (hE : bs' ++ b.out.drop n = encM B) (hW : ∀ f r, B = f :: r → bs'.length < f.fr.b.length + 6) (hn : 16 ≤ n) :
    TI Bd win (⟨a.put A bs', b.cut n, F1, B, P1, P2, D1, D2, co, so, cb, sb, i, jr, j⟩ : TS) ∧ Phi Bd (⟨a.put A bs', b.cut n, F1, B, P1, P2, D1, D2, co, so, cb, sb, i, jr, j⟩ : TS) + (if b.out = [] then 0 else 16) ≤ Phi Bd (⟨a, b, F1, F2, P1, P2, D1, D2, co, so, cb, sb, i, jr, j⟩ : TS) := h.t6 hF hE hW hn
theorem if16 {x y : Bs} (h : x ≠ [] ∨ y ≠ []) : 16 ≤ (if x = [] then 0 else 16) + (if y = [] then 0 else 16) := by
  by_cases hx : x = []
  · rcases h with h | h
    · exact absurd hx h
    · rw [if_neg h]; omega
  · rw [if_neg hx]; omega
theorem TI.dd1 (h : TI Bd win (⟨a, b, F1, F2, P1, P2, D1, D2, co, so, cb, sb, i, jr, j⟩ : TS)) : 2 * b.cr < b.win ∧ b.rcv + b.cr + b.un.length ≤ 10000 := by
  have l := h.lk
  have c1 := l.c1
  have r1 := l.r1
  have w := l.w
  have wb := l.wb
  dsimp only at c1 r1 wb
  omega
theorem TI.dd2 (h : TI Bd win (⟨a, b, F1, F2, P1, P2, D1, D2, co, so, cb, sb, i, jr, j⟩ : TS)) : 2 * a.cr < a.win ∧ a.rcv + a.cr + a.un.length ≤ 10000 := by
  have l := h.lk
  have c2 := l.c2
  have r2 := l.r2
  have w := l.w
  have wa := l.wa
  dsimp only at c2 r2 wa
  omega
theorem TI.e7 (h : TI Bd win (⟨a, b, F1, F2, P1, P2, [], D2, co, so, cb, sb, i, jr, j⟩ : TS)) {cr' : Nat} {cs : List Nat} (hs : cr' + sm cs = b.cr + b.un.length) (hcs : ∀ c ∈ cs, 1 ≤ c ∧ c ≤ 10000) (hcr : 2 * cr' < b.win) : ∃ F2', TI Bd win (⟨a, drX b [] cr' cs, F1, F2', P1, P2, b.un, D2, co, so, cb, sb, i, jr, j⟩ : TS) ∧ Phi Bd (⟨a, drX b [] cr' cs, F1, F2', P1, P2, b.un, D2, co, so, cb, sb, i, jr, j⟩ : TS) ≤ Phi Bd (⟨a, b, F1, F2, P1, P2, [], D2, co, so, cb, sb, i, jr, j⟩ : TS) := ⟨_, h.t7 rfl hs hcs hcr⟩
theorem TI.e8 (h : TI Bd win (⟨a, b, F1, F2, P1, P2, D1, [], co, so, cb, sb, i, jr, j⟩ : TS)) {cr' : Nat} {cs : List Nat} (hs : cr' + sm cs = a.cr + a.un.length) (hcs : ∀ c ∈ cs, 1 ≤ c ∧ c ≤ 10000) (hcr : 2 * cr' < a.win) : ∃ F1', TI Bd win (⟨drX a [] cr' cs, b, F1', F2, P1, P2, D1, a.un, co, so, cb, sb, i, jr, j⟩ : TS) ∧ Phi Bd (⟨drX a [] cr' cs, b, F1', F2, P1, P2, D1, a.un, co, so, cb, sb, i, jr, j⟩ : TS) ≤ Phi Bd (⟨a, b, F1, F2, P1, P2, D1, [], co, so, cb, sb, i, jr, j⟩ : TS) := ⟨_, h.t8 rfl hs hcs hcr⟩
theorem TI.e9 (h : TI Bd win (⟨a, b, F1, F2, P1, P2, D1, D2, co, so, cb, sb, i, jr, j⟩ : TS)) (hB : BdOk Bd) (hu : b.un = []) : ∃ J sb', j ≤ J ∧ J ≤ Bd.length ∧ (sS j so sb [] []).recv D1 = (sS J so sb' (tMk idF j (sl Bd j J)) (tMk rrF j (sl Bd j J)), 0) ∧ TI Bd win (⟨a, b, F1, F2, P1, P2, [], D2, co, so, cb, sb', i, jr, J⟩ : TS) ∧ Phi Bd (⟨a, b, F1, F2, P1, P2, [], D2, co, so, cb, sb', i, jr, J⟩ : TS) = Phi Bd (⟨a, b, F1, F2, P1, P2, D1, D2, co, so, cb, sb, i, jr, j⟩ : TS) := by
  obtain ⟨k, bs', h1, h2, h3, h4⟩ := h.t9 hB hu
  dsimp only at h1 h2
  rw [sl_of] at h2
  exact ⟨j + k, bs', by omega, h1, h2, h3, h4⟩
theorem TI.e10 (h : TI Bd win (⟨a, b, F1, F2, P1, P2, D1, D2, co, so, cb, sb, i, jr, j⟩ : TS)) (hB : BdOk Bd) (hu : a.un = []) : ∃ I cb', i ≤ I ∧ I ≤ jr ∧ (cS Bd.length co cb (tMk caF i (Bd.drop i)) []).recv D2 = (cS Bd.length co cb' (tMk caF I (Bd.drop I)) (tMk rsF i (sl Bd i I)), 0) ∧ TI Bd win (⟨a, b, F1, F2, P1, P2, D1, [], co, so, cb', sb, I, jr, j⟩ : TS) ∧ Phi Bd (⟨a, b, F1, F2, P1, P2, D1, [], co, so, cb', sb, I, jr, j⟩ : TS) = Phi Bd (⟨a, b, F1, F2, P1, P2, D1, D2, co, so, cb, sb, i, jr, j⟩ : TS) := by
  obtain ⟨k, bs', h1, h2, h3, h4⟩ := h.t10 hB hu
  dsimp only at h1 h2
  rw [sl_of] at h2
  exact ⟨i + k, bs', by omega, h1, h2, h3, h4⟩
theorem TI.e11 (h : TI Bd win (⟨a, b, F1, F2, P1, P2, D1, D2, co, so, cb, sb, i, jr, j⟩ : TS)) {bd : Bs} (hb : Bd[jr]? = some bd) (hj : jr < j) : TI Bd win (⟨a, b, F1, F2, P1, P2, D1, D2, co, so ++ encF 17 (rpF (jr + 1) bd).b, cb, sb, i, jr + 1, j⟩ : TS) ∧ Phi Bd (⟨a, b, F1, F2, P1, P2, D1, D2, co, so ++ encF 17 (rpF (jr + 1) bd).b, cb, sb, i, jr + 1, j⟩ : TS) = Phi Bd (⟨a, b, F1, F2, P1, P2, D1, D2, co, so, cb, sb, i, jr, j⟩ : TS) := h.t11 hb hj
end
theorem inn_of {H : Heap} {oa : Option Addr} {ent : Ent} {l : Bs} (hr : RdB oa ent l) (hm : ent ∈ H) : 0 < l.length → ∃ b k cs e2 fr, oa = some ⟨b, k, none⟩ ∧ (⟨some b, .cells (List.toArray cs) e2 fr⟩ : Ent) ∈ H ∧ At cs k (bvs l) := fun hl => by
  obtain ⟨b, k, cs, e, fr, h1, rfl, h3⟩ := hr hl
  exact ⟨b, k, cs, e, fr, h1, hm, h3⟩
theorem R_strAdd {X : Ctx} {E : Env} {H : Heap} {o : Oper} {t t' : TypeId} {x y : Operand} {a b : Bs} (ho : o.op = .binOp .add t x y t') (hx : Go.Proofs.YtkcfgglmlogjbaaGreat.ev E x = some (.string ⟨a.toArray⟩)) (hy : Go.Proofs.YtkcfgglmlogjbaaGreat.ev E y = some (.string ⟨b.toArray⟩)) (hl : a.length + b.length ≤ 1000000) : Runs X o E H (.string ⟨(a ++ b).toArray⟩) :=
  R_bin ho hx hy (fun w => by simp [eqGuard]) fun w => by
    have h1 : (⟨a.toArray⟩ : ByteArray).size = a.length := by rw [ByteArray.size]; simp
    have h2 : (⟨b.toArray⟩ : ByteArray).size = b.length := by rw [ByteArray.size]; simp
    have h3 : (⟨a.toArray⟩ : ByteArray) ++ ⟨b.toArray⟩ = ⟨(a ++ b).toArray⟩ := by
      apply ByteArray.ext
      rw [ByteArray.data_append]
      simp
    rw [binOp_string_add]
    unfold Op.stringOp
    dsimp only
    rw [if_neg (by rw [h1, h2]; show ¬ ((a.length + b.length : Nat) : Int) > 9223372036854775807; omega), h3, Sem.run_pure]
theorem t_err {g : MG} {p : Nat} {x : MxX} (hg : MGd g p x) : Spec Tryz.prog 12 [ptrW p] (mH g) (fun r H' => r = .int .i64 0 ∧ H' = mH g) := by
  obtain ⟨h, rfl, rfl⟩ := hg
  refine (((merr_ok (.int .i64 (g.x.win : Int)) (.int .i64 (g.x.own : Int)) (.int .i64 (g.x.oth : Int)) g.m.wv (ptrW g.m.rp) g.m.mb g.m.p (sVal g.m.ob g.m.ok g.x.out.length g.m.oc)).fr [mxR g.m g.x, mxB g.m g.x, mxM g.m, mxS g.m g.x, mxU g.m g.x, mxO g.m g.x])).mono ?_
  rintro r H' ⟨H1, ⟨rfl, rfl⟩, rfl⟩
  exact ⟨rfl, rfl⟩
theorem t_mopen (p mb rp win : Nat) (hw : 1 ≤ win ∧ win ≤ 4096) : Spec Tryz.prog 7 [ptrW p] [⟨some p, cl [.int .i64 (win : Int), .map (some mb), .int .i64 1, .int .i64 2, .slice none 0 0, .slice none 0 0, ptrW rp, .int .i64 0] 70⟩, ⟨some mb, .map #[] 0⟩, ⟨some rp, cl [.slice none 0 0, .int .i64 0] 32⟩] (fun r H' => ∃ g, MGd g p ⟨win, 3, 2, win, win, 0, encF 1 (bigB 1 4), [], []⟩ ∧ r = .tuple #[.int .i64 1, .int .i64 0] ∧ H' = mH g) :=
  (mopen_ok p mb rp win hw).mono (by rintro r H' ⟨m, e1, e2, e3, e4⟩; exact ⟨⟨m, _⟩, ⟨e2, e1, rfl⟩, e3, e4⟩)
end Go.Proofs.YtkcfgglmlogjbaaGreat
end
section
set_option linter.unusedVariables false
set_option maxRecDepth 20000
set_option maxHeartbeats 2000000
namespace Go.Proofs.YtkcfgglmlogjbaaGreat
theorem WL_turnT {X : Ctx} {ops : Array Oper} {p : Post} {l : List Oper} {E : Env} {H F B : Heap} {a : Ent} (hx : ∀ F : Heap, ∀ H0 w0 w, HW H0 w0 (a :: F) w → HW H0 w0 (B ++ F) w) (q : Pull a H F) (k : WL X ops p l E (B ++ F)) : WL X ops p l E H :=
  fun a w ha hw => k a w ha (hx _ _ _ _ (hw.perm q.perm))
theorem bvs_mapT (l : Bs) : bvs l = l.map fun b => Value.int .u8 (b.toNat : Int) := by
  induction l with
  | nil => rfl
  | cons b r ih => rw [List.map_cons, ← ih]; rfl
theorem bvs_at {cs : List Value} {k i : Nat} {l : Bs} {x : UInt8} (hat : At cs k (bvs l)) (hx : l[i]? = some x) : cs[k + i * 1]? = some (.int .u8 (x.toNat : Int)) := by
  rw [Nat.mul_one]
  exact hat i _ (by rw [bvs_mapT, List.getElem?_map, hx]; rfl)
structure TcW where
  k : Nat
  g : CG
structure TkW where
  t : Nat
  ga : MG
  gb : MG
  gc : CG
  gs : SG
  a : MxX
  b : MxX
  F1 : List MF
  F2 : List MF
  P1 : Bs
  P2 : Bs
  co : Bs
  so : Bs
  cb : Bs
  sb : Bs
  i : Nat
  j : Nat
  o1 : Option Nat
  k1 : Nat
  c1 : Nat
  p1 : List Value
  q1 : List Value
  o2 : Option Nat
  k2 : Nat
  c2 : Nat
  p2 : List Value
  q2 : List Value
structure SwW where
  m : Nat
  gs : SG
  so : Bs
  id : Int
  dl : Int
  bd : Bs
  o : Option Nat
  c : Nat
  tl : List Value
  bn : Nat
structure CwW where
  m : Nat
  gc : CG
  id : Int
  bd : Bs
  o : Option Nat
  c : Nat
  tl : List Value
  bn : Nat
end Go.Proofs.YtkcfgglmlogjbaaGreat
end
section
set_option linter.unusedVariables false
set_option maxRecDepth 20000
set_option maxHeartbeats 8000000
namespace Go.Proofs.YtkcfgglmlogjbaaGreat
theorem stacked_n (L : List Pt) {ol : Option Addr} {cl9 : Nat} (win : Nat) (hw : 1 ≤ win ∧ win ≤ 4096) (Z : Bs) {oz : Option Addr} {cz : Nat} (DH : Heap) {Bd : List Bs} (hB : BdOk Bd) (hLl : Bd.length = L.length) (hLB : ∀ (i : Nat) (m : Pt), L[i]? = some m → Bd[i]? = some m.l) (hdat : ∀ m ∈ L, ∃ en ∈ DH, RdB m.oa en m.l)
    (hlst : 0 < L.length → ∃ b k cs e fr, ol = some ⟨b, k, none⟩ ∧ (⟨some b, .cells (List.toArray cs) e fr⟩ : Ent) ∈ DH ∧ ∀ (i : Nat) (m : Pt), L[i]? = some m → cs[k + i * 1]? = some (.slice m.oa m.l.length m.c)) (hz : ∃ en ∈ DH, RdB oz en Z) (hzl : Z.length ≤ 20) (hz0 : 0 < Z.length) : Spec Tryz.prog 5 [.slice ol L.length cl9, .int .i64 (win : Int), .slice oz Z.length cz] DH (fun r H' => r = .bool true ∧ H' = DH) := by
  have hBl := hB.l
  refine Spec.of (E := [(0, .slice ol L.length cl9), (1, .int .i64 (win : Int)), (2, .slice oz Z.length cz)]) Tryz.func5 rfl (by kernel_rfl) Tryz.ntmps5 rfl rfl (fun w => ?_)
  refine WC_seq ?_
  refine WC_region ?_
  refine WL_val rfl rfl rfl (R_assign rfl rfl) ?_
  refine WL_nil ?_
  refine WQ_code ?_
  refine WC_seq ?_
  refine WC_region ?_
  refine WL_val rfl rfl rfl (R_move rfl rfl) ?_
  refine WL_do rfl rfl rfl (D_call (mnew_c win hw) rfl rfl rfl rfl (pqD)) ?_
  rintro _ _ ⟨_, ⟨pa, mba, rpa, rfl, rfl⟩, rfl⟩
  refine WL_val rfl rfl rfl (R_move rfl rfl) ?_
  refine WL_val rfl rfl rfl (R_extract rfl rfl rfl) ?_
  refine WL_val rfl rfl rfl (R_extract rfl rfl rfl) ?_
  refine WL_val rfl rfl rfl (R_assign rfl rfl) ?_
  refine WL_val rfl rfl rfl (R_assign rfl rfl) ?_
  refine WL_nil ?_
  refine WQ_code ?_
  refine WC_seq ?_
  refine WC_region ?_
  refine WL_val rfl rfl rfl (R_move rfl rfl) ?_
  refine WL_do rfl rfl rfl (D_call (mnew_s win hw) rfl rfl rfl rfl (pqD)) ?_
  rintro _ _ ⟨_, ⟨pb, mbb, rpb, rfl, rfl⟩, rfl⟩
  refine WL_val rfl rfl rfl (R_move rfl rfl) ?_
  refine WL_val rfl rfl rfl (R_extract rfl rfl rfl) ?_
  refine WL_val rfl rfl rfl (R_extract rfl rfl rfl) ?_
  refine WL_val rfl rfl rfl (R_assign rfl rfl) ?_
  refine WL_val rfl rfl rfl (R_assign rfl rfl) ?_
  refine WL_nil ?_
  refine WQ_code ?_
  refine WC_seq ?_
  refine WC_region ?_
  refine WL_val rfl rfl rfl (R_build rfl zv40 pl40 rfl rfl) ?_
  refine WL_do rfl rfl rfl (D_box (cs := [_, _, _, _, _, _, _, _, _]) rfl rfl rfl) ?_
  rintro _ _ ⟨b1, rfl, rfl⟩
  obtain ⟨gpc0, hpc0, hx1⟩ := c_new b1
  refine WL_turnT hx1 plD ?_
  refine WL_val rfl rfl rfl (R_build rfl zv45 pl45 rfl rfl) ?_
  refine WL_do rfl rfl rfl (D_box (cs := [_, _, _, _, _, _, _]) rfl rfl rfl) ?_
  rintro _ _ ⟨b2, rfl, rfl⟩
  obtain ⟨gpv0, hpv0, hx2⟩ := s_new b2
  refine WL_turnT hx2 plD ?_
  refine WL_val rfl rfl rfl (R_assign rfl rfl) ?_
  refine WL_val rfl rfl rfl (R_assign rfl rfl) ?_
  refine WL_nil ?_
  refine WQ_code ?_
  refine WC_seq ?_
  refine WC_seq ?_
  refine WC_region ?_
  refine WL_val rfl rfl rfl (R_move rfl rfl) ?_
  refine WL_val rfl rfl rfl (R_ptrEqNil rfl Tryz.underlying26 rfl) ?_
  refine WL_val rfl rfl rfl (R_move rfl rfl) ?_
  refine WL_val rfl rfl rfl (R_move rfl rfl) ?_
  refine WL_val rfl rfl rfl (R_ptrEqNil rfl Tryz.underlying26 rfl) ?_
  refine WL_val rfl rfl rfl (R_pickF rfl rfl rfl) ?_
  refine WL_val rfl rfl rfl (R_move rfl rfl) ?_
  refine WL_val rfl rfl rfl (R_move rfl rfl) ?_
  refine WL_val rfl rfl rfl (R_neq rfl rfl rfl) ?_
  refine WL_set (s := 56) (v := .bool false) rfl (by rfl) ?_
  refine WL_val rfl rfl rfl (R_pickF rfl rfl rfl) ?_
  refine WL_val rfl rfl rfl (R_move rfl rfl) ?_
  refine WL_val rfl rfl rfl (R_move rfl rfl) ?_
  refine WL_val rfl rfl rfl (R_neq rfl rfl rfl) ?_
  refine WL_set (s := 60) (v := .bool false) rfl (by rfl) ?_
  refine WL_val rfl rfl rfl (R_pickF rfl rfl rfl) ?_
  refine WL_nil ?_
  refine WQ_code ?_
  refine WC_F rfl ?_
  refine WC_skip ?_
  refine WQ_code ?_
  refine WC_seq ?_
  refine WC_region ?_
  refine WL_val rfl rfl rfl (R_move rfl rfl) ?_
  refine WL_do rfl rfl rfl (D_call (t_mopen pa mba rpa win hw) rfl rfl rfl rfl (pqD)) ?_
  rintro _ _ ⟨_, ⟨ga0, hga0, rfl, rfl⟩, rfl⟩
  refine WL_val rfl rfl rfl (R_move rfl rfl) ?_
  refine WL_val rfl rfl rfl (R_extract rfl rfl rfl) ?_
  refine WL_val rfl rfl rfl (R_extract rfl rfl rfl) ?_
  refine WL_val rfl rfl rfl (R_assign rfl rfl) ?_
  refine WL_val rfl rfl rfl (R_assign rfl rfl) ?_
  refine WL_nil ?_
  refine WQ_code ?_
  refine WC_seq ?_
  refine WC_seq ?_
  refine WC_region ?_
  refine WL_val rfl rfl rfl (R_move rfl rfl) ?_
  refine WL_val rfl rfl rfl (R_neq rfl rfl rfl) ?_
  refine WL_set (s := 68) (v := .bool false) rfl (by rfl) ?_
  refine WL_val rfl rfl rfl (R_move rfl rfl) ?_
  refine WL_val rfl rfl rfl (R_move rfl rfl) ?_
  refine WL_val rfl rfl rfl (R_neq rfl rfl rfl) ?_
  refine WL_set (s := 71) (v := .bool false) rfl (by rfl) ?_
  refine WL_val rfl rfl rfl (R_pickF rfl rfl rfl) ?_
  refine WL_val rfl rfl rfl (R_move rfl rfl) ?_
  refine WL_val rfl rfl rfl (R_move rfl rfl) ?_
  refine WL_val rfl rfl rfl (R_move rfl rfl) ?_
  refine WL_do rfl rfl rfl (D_call (carry0_ok hga0) rfl rfl rfl rfl (pqD)) ?_
  rintro _ _ ⟨_, ⟨ga1, gb1, wo, wc, wt, hga1, hgb1, hwv, hWo, rfl, rfl⟩, rfl⟩
  refine WL_val rfl rfl rfl (R_not rfl rfl) ?_
  refine WL_set (s := 77) (v := .bool false) rfl (by rfl) ?_
  refine WL_val rfl rfl rfl (R_pickF rfl rfl rfl) ?_
  refine WL_nil ?_
  refine WQ_code ?_
  refine WC_F rfl ?_
  refine WC_skip ?_
  refine WQ_code ?_
  refine WC_seq ?_
  refine WC_seq ?_
  refine WC_region ?_
  refine WL_val rfl rfl rfl (R_move rfl rfl) ?_
  refine WL_do rfl rfl rfl (D_call (t_accept hgb1 hwv hWo) rfl rfl rfl rfl (pqD)) ?_
  rintro _ _ ⟨_, ⟨gb2, hgb2, rfl, rfl⟩, rfl⟩
  refine WL_val rfl rfl rfl (R_move rfl rfl) ?_
  refine WL_val rfl rfl rfl (R_extract rfl rfl rfl) ?_
  refine WL_val rfl rfl rfl (R_extract rfl rfl rfl) ?_
  refine WL_val rfl rfl rfl (R_assign rfl rfl) ?_
  refine WL_val rfl rfl rfl (R_assign rfl rfl) ?_
  refine WL_nil ?_
  refine WQ_code ?_
  refine WC_seq ?_
  refine WC_region ?_
  refine WL_val rfl rfl rfl (R_move rfl rfl) ?_
  refine WL_val rfl rfl rfl (R_neq rfl rfl rfl) ?_
  refine WL_set (s := 85) (v := .bool false) rfl (by rfl) ?_
  refine WL_val rfl rfl rfl (R_move rfl rfl) ?_
  refine WL_val rfl rfl rfl (R_move rfl rfl) ?_
  refine WL_val rfl rfl rfl (R_neq rfl rfl rfl) ?_
  refine WL_set (s := 88) (v := .bool false) rfl (by rfl) ?_
  refine WL_val rfl rfl rfl (R_pickF rfl rfl rfl) ?_
  refine WL_nil ?_
  refine WQ_code ?_
  refine WC_F rfl ?_
  refine WC_skip ?_
  refine WQ_code ?_
  refine WC_seq ?_
  refine WC_seq ?_
  refine WC_region ?_
  refine WL_val rfl rfl rfl (R_assign rfl rfl) ?_
  refine WL_nil ?_
  refine WQ_code ?_
  refine WC_block ?_
  refine WC_loopF (G := TcW) [6, 16, 17, 18, 90, 91, 92, 93, 94, 95, 96, 97, 98, 99, 100, 101, 102, 103, 104, 105, 106, 107, 108, 109, 110, 111, 112] (fun q => q.k ≤ L.length ∧ CGd q.g b1 (cS q.k (encA (tMk rqF 0 (Bd.take q.k))) [] (tMk caF 0 (Bd.take q.k)) [])) (fun q => [(16, .int .i64 (q.k : Int))]) (fun q => cH q.g) (fun q => L.length - q.k) (⟨0, gpc0⟩) (⟨Nat.zero_le _, hpc0⟩) leZ (pqD) ?_
  rintro q ⟨hqk, hcc⟩
  refine WC_seq ?_
  refine WC_seq ?_
  refine WC_region ?_
  refine WL_val rfl rfl rfl (R_move rfl rfl) ?_
  refine WL_val rfl rfl rfl (R_move rfl rfl) ?_
  refine WL_val rfl rfl rfl (R_len rfl Tryz.underlying22 rfl) ?_
  refine WL_val rfl rfl rfl (R_lss rfl rfl rfl) ?_
  refine WL_nil ?_
  refine WQ_code ?_
  refine WC_dec rfl (fun c1 => ?_) (fun c1 => ?_)
  · refine WC_skip ?_
    refine WQ_code ?_
    refine WC_seq ?_
    refine WC_block ?_
    refine WC_seq ?_
    refine WC_region ?_
    refine WL_val rfl rfl rfl (R_move rfl rfl) ?_
    refine WL_val rfl rfl rfl (R_move rfl rfl) ?_
    refine WL_val rfl rfl rfl (R_move rfl rfl) ?_
    obtain ⟨mv, hmv⟩ := getE (T := L) (i := q.k) (by omega)
    have hmb := hLB q.k mv hmv
    obtain ⟨en, hen, hrd⟩ := hdat mv (List.mem_of_getElem? hmv)
    obtain ⟨lb, lk, lcs, le, lfr, rfl, hlm, hlat⟩ := hlst (by omega)
    refine WL_val rfl rfl rfl (R_indexAddrN rfl Tryz.underlying22 Tryz.sizeOf23 rfl rfl (by omega)) ?_
    refine WL_val rfl rfl rfl (R_loadG rfl sc23 rfl (pulls_mem (pqD : Pulls DH _ _) hlm) (hlat q.k mv hmv)) ?_
    refine WL_do rfl rfl rfl (D_call (t_call hcc hB hmb (hdat mv (List.mem_of_getElem? hmv))) rfl rfl rfl rfl (pqD)) ?_
    rintro _ _ ⟨_, ⟨gc2, hgc2, rfl, rfl⟩, rfl⟩
    refine WL_val rfl rfl rfl (R_move rfl rfl) ?_
    refine WL_val rfl rfl rfl (R_extract rfl rfl rfl) ?_
    refine WL_val rfl rfl rfl (R_extract rfl rfl rfl) ?_
    refine WL_val rfl rfl rfl (R_assign rfl rfl) ?_
    refine WL_val rfl rfl rfl (R_assign rfl rfl) ?_
    refine WL_nil ?_
    refine WQ_code ?_
    refine WC_seq ?_
    refine WC_region ?_
    refine WL_val rfl rfl rfl (R_move rfl rfl) ?_
    refine WL_val rfl rfl rfl (R_move rfl rfl) ?_
    refine WL_val rfl rfl rfl (R_addR (r := ((q.k + 1 : Nat) : Int)) rfl rfl rfl (by rw [wrap64_in (by omega) (by omega)]; omega)) ?_
    refine WL_val rfl rfl rfl (R_neq rfl rfl rfl) ?_
    refine WL_set (s := 108) (v := .bool false) rfl (by exact congrArg Value.bool (decide_eq_false (fun e => e rfl))) ?_
    refine WL_val rfl rfl rfl (R_move rfl rfl) ?_
    refine WL_val rfl rfl rfl (R_move rfl rfl) ?_
    refine WL_val rfl rfl rfl (R_neq rfl rfl rfl) ?_
    refine WL_set (s := 111) (v := .bool false) rfl (by rfl) ?_
    refine WL_val rfl rfl rfl (R_pickF rfl rfl rfl) ?_
    refine WL_nil ?_
    refine WQ_code ?_
    refine WC_F rfl ?_
    refine WC_skip ?_
    refine WQ_code ?_
    refine WC_region ?_
    refine WL_val rfl rfl rfl (R_move rfl rfl) ?_
    refine WL_val rfl rfl rfl (R_add rfl rfl rfl (by omega)) ?_
    refine WL_val rfl rfl rfl (R_assign rfl rfl) ?_
    refine WL_nil ?_
    refine WQ_nextF (gg := q) (⟨q.k + 1, gc2⟩) (⟨by dsimp only; omega, hgc2⟩) (by dsimp only; omega) leZ (psZ) rfl (pqD)
  · have hk9 : q.k = Bd.length := by omega
    rw [hk9, List.take_length] at hcc
    refine WC_exit ?_
    refine WQ_code ?_
    refine WC_seq ?_
    refine WC_region ?_
    refine WL_val rfl rfl rfl (R_assign rfl rfl) ?_
    refine WL_val rfl rfl rfl (R_assign rfl rfl) ?_
    refine WL_nil ?_
    refine WQ_code ?_
    refine WC_seq ?_
    refine WC_region ?_
    refine WL_val rfl rfl rfl (R_move rfl rfl) ?_
    refine WL_val rfl rfl rfl (R_len rfl Tryz.underlying22 rfl) ?_
    refine WL_val rfl rfl rfl (R_assign rfl rfl) ?_
    refine WL_nil ?_
    refine WQ_code ?_
    refine WC_seq ?_
    refine WC_seq ?_
    refine WC_region ?_
    refine WL_val rfl rfl rfl (R_assign rfl rfl) ?_
    refine WL_nil ?_
    refine WQ_code ?_
    refine WC_block ?_
    refine WC_none 5 ?_
    refine WC_none 5 ?_
    refine WC_loopF (G := TkW) [6, 19, 20, 21, 22, 23, 24, 25, 26, 27, 28, 29, 30, 31, 32, 33, 115, 116, 117, 118, 119, 120, 121, 122, 123, 124, 125, 126, 127, 128, 129, 130, 131, 132, 133, 134, 135, 136, 137, 138, 139, 140, 141, 142, 143, 144, 145, 146, 147, 148, 149, 150, 151, 152, 153, 154, 155, 156, 157, 158, 159, 160, 161, 162, 163, 164, 165, 166, 167, 168, 169, 170, 171, 172, 173, 174, 175, 176, 177, 178, 179, 180, 181, 182, 183, 184, 185, 186, 187, 188, 189, 190, 191, 192, 193, 194, 195, 196, 197, 198, 199, 200, 201, 202, 203, 204, 205, 206, 207, 208, 209, 210, 211, 212, 213, 214, 215, 216, 217, 218, 219, 220, 221, 222, 223, 224, 225, 226, 227, 228, 229, 230, 231, 232, 233, 234, 235, 236, 237, 238, 239, 240, 241, 242, 243, 244, 245, 246, 247, 248, 249, 250, 251, 252, 253, 254, 255, 256, 257, 258, 259, 260, 261, 262, 263, 264, 265, 266, 267, 268, 269, 270, 271, 272, 273, 274, 275, 276, 277, 278, 279, 280, 281, 282, 283, 284, 285, 286, 287, 288, 289, 290, 291, 292, 293, 294, 295, 296, 297, 298, 299, 300, 301, 302, 303, 304, 305, 306, 307, 308, 309, 310, 311, 312, 313, 314, 315, 316, 317, 318, 319, 320, 321, 322, 323, 324, 325, 326, 327, 328, 329, 330, 331, 332, 333, 334, 335, 336] (fun y => MGd y.ga pa y.a ∧ MGd y.gb pb y.b ∧ CGd y.gc b1 (cS Bd.length y.co y.cb (tMk caF y.i (Bd.drop y.i)) []) ∧ SGd y.gs b2 (sS y.j y.so y.sb [] []) ∧ TI Bd win (⟨y.a, y.b, y.F1, y.F2, y.P1, y.P2, [], [], y.co, y.so, y.cb, y.sb, y.i, y.j, y.j⟩ : TS) ∧ Phi Bd (⟨y.a, y.b, y.F1, y.F2, y.P1, y.P2, [], [], y.co, y.so, y.cb, y.sb, y.i, y.j, y.j⟩ : TS) + 16 * y.t ≤ 120000 ∧ (y.a.un = [] ∧ y.b.un = []) ∧ OwnS y.o1 y.k1 y.P1.length y.c1 1 y.p1 (bvs y.P1) y.q1 ∧ OwnS y.o2 y.k2 y.P2.length y.c2 1 y.p2 (bvs y.P2) y.q2) (fun y => [(22, .int .i64 (y.t : Int)), (19, sVal y.o1 y.k1 y.P1.length y.c1), (20, sVal y.o2 y.k2 y.P2.length y.c2), (21, .int .i64 ((L.length - y.i : Nat) : Int))]) (fun y => mH y.ga ++ mH y.gb ++ cH y.gc ++ sH y.gs ++ [⟨y.o1, cl (y.p1 ++ (bvs (y.P1) ++ y.q1)) 5⟩, ⟨y.o2, cl (y.p2 ++ (bvs (y.P2) ++ y.q2)) 5⟩]) (fun y => 20000 - y.t) (⟨0, ga1, gb2, q.g, gpv0, ⟨win, 3, 2, win, win, 0, [], [], []⟩, ⟨win, 2, 3, win, win, 0, [], [], []⟩, [], [], [], [], encA (tMk rqF 0 Bd), [], [], [], 0, 0, none, 0, 0, [], [], none, 0, 0, [], []⟩) (⟨hga1, hgb2, hcc, hpv0, (ti0 hB hw).1, (ti0 hB hw).2, ⟨rfl, rfl⟩, OwnS.empty 1, OwnS.empty 1⟩) leZ (pqD) ?_
    rintro y ⟨hga, hgb, hgc, hgs, hTI, hPh, hun, hO1, hO2⟩
    have hij0 := hTI.ijL
    have hl0 := hTI.lens hB
    have hou0 := hTI.outL hB (by omega)
    refine WC_seq ?_
    refine WC_seq ?_
    refine WC_region ?_
    refine WL_val rfl rfl rfl (R_move rfl rfl) ?_
    refine WL_val rfl rfl rfl (R_lss rfl rfl rfl) ?_
    refine WL_nil ?_
    refine WQ_code ?_
    refine WC_dT rfl (by omega) ?_
    refine WC_skip ?_
    refine WQ_code ?_
    refine WC_seq ?_
    refine WC_block ?_
    refine WC_seq ?_
    refine WC_seq ?_
    refine WC_region ?_
    refine WL_val rfl rfl rfl (R_move rfl rfl) ?_
    refine WL_val rfl rfl rfl (R_eql rfl rfl rfl) ?_
    refine WL_nil ?_
    refine WQ_code ?_
    refine WC_dec rfl (fun c2 => ?_) (fun c2 => ?_)
    · have hnil : tMk caF y.i (Bd.drop y.i) = [] := by rw [List.drop_eq_nil_of_le (by omega)]; rfl
      refine WC_seq ?_
      refine WC_region ?_
      refine WL_val rfl rfl rfl (R_move rfl rfl) ?_
      refine WL_do rfl rfl rfl (D_call (k_open hgc (pcb_S (by omega) (by omega) (by omega) (by rw [List.length_drop]; omega) (by omega) (Nat.zero_le _))) rfl rfl rfl rfl (pqD)) ?_
      rintro _ _ ⟨_, ⟨oq, cq, tq, rfl, ownq, rfl⟩, rfl⟩
      refine WL_val rfl rfl rfl (R_len rfl Tryz.underlying42 rfl) ?_
      refine WL_val rfl rfl rfl (R_eql rfl rfl rfl) ?_
      refine WL_set (s := 124) (v := .bool true) rfl (by exact congrArg Value.bool (decide_eq_true (by rw [List.length_map]; show (((tMk caF y.i (Bd.drop y.i)).length : Nat) : Int) = 0; rw [hnil]; rfl))) ?_
      refine WL_val rfl rfl rfl (R_move rfl rfl) ?_
      refine WL_val rfl rfl rfl (R_move rfl rfl) ?_
      refine WL_do rfl rfl rfl (D_call (t_err hga) rfl rfl rfl rfl (pqD)) ?_
      rintro _ _ ⟨_, ⟨rfl, rfl⟩, rfl⟩
      refine WL_val rfl rfl rfl (R_eql rfl rfl rfl) ?_
      refine WL_set (s := 128) (v := .bool true) rfl (by rfl) ?_
      refine WL_val rfl rfl rfl (R_pickT rfl rfl rfl) ?_
      refine WL_val rfl rfl rfl (R_move rfl rfl) ?_
      refine WL_val rfl rfl rfl (R_move rfl rfl) ?_
      refine WL_do rfl rfl rfl (D_call (t_err hgb) rfl rfl rfl rfl (pqD)) ?_
      rintro _ _ ⟨_, ⟨rfl, rfl⟩, rfl⟩
      refine WL_val rfl rfl rfl (R_eql rfl rfl rfl) ?_
      refine WL_set (s := 133) (v := .bool true) rfl (by rfl) ?_
      refine WL_val rfl rfl rfl (R_pickT rfl rfl rfl) ?_
      refine WL_val rfl rfl rfl (R_assign rfl rfl) ?_
      refine WL_nil ?_
      refine WQ_code ?_
      refine WC_ret ?_
      refine WQ_ret rfl rfl (.cons (.tmp rfl) .nil) rfl (by
          exact ⟨rfl, rfl⟩) (pqD)
    · have hin : y.i < Bd.length := by omega
      obtain ⟨hT2, hP2⟩ := hTI.e12
      have hl2 := hT2.lens hB
      obtain ⟨F1a, F2a, hT4, hP4, hne⟩ := hT2.e34
      have hne := hne hun.1 hun.2 hin
      have hl4 := hT4.lens hB
      have hou4 := hT4.outL hB (by omega)
      have h4 := hT4.cc1
      refine WC_skip ?_
      refine WQ_code ?_
      refine WC_seq ?_
      refine WC_region ?_
      refine WL_val rfl rfl rfl (R_assign rfl rfl) ?_
      refine WL_nil ?_
      refine WQ_code ?_
      refine WC_seq ?_
      refine WC_seq ?_
      refine WC_region ?_
      refine WL_val rfl rfl rfl (R_move rfl rfl) ?_
      refine WL_val rfl rfl rfl (R_len rfl Tryz.underlying23 rfl) ?_
      refine WL_val rfl rfl rfl (R_gtr rfl rfl rfl) ?_
      refine WL_nil ?_
      refine WQ_code ?_
      refine WC_dT rfl (by omega) ?_
      refine WC_region ?_
      refine WL_val rfl rfl rfl (R_move rfl rfl) ?_
      refine WL_val rfl rfl rfl (R_move rfl rfl) ?_
      refine WL_val rfl rfl rfl (R_move rfl rfl) ?_
      refine WL_val rfl rfl rfl (R_len rfl Tryz.underlying23 rfl) ?_
      refine WL_val rfl rfl rfl (R_remR (r := ((y.t % Z.length : Nat) : Int)) rfl rfl rfl (by omega) (by rw [Int.tmod_eq_emod_of_nonneg (by omega)]; norm_cast)) ?_
      obtain ⟨ez, hez, hrz⟩ := hz
      obtain ⟨zb, zk, zcs, ze, zfr, rfl, rfl, hzat⟩ := hrz hz0
      obtain ⟨zx, hzx⟩ := getE (T := Z) (i := y.t % Z.length) (Nat.mod_lt _ hz0)
      have hzl9 := u8_lt zx
      obtain ⟨n9, hn9⟩ : ∃ n9 : Nat, n9 = 16 + zx.toNat := ⟨_, rfl⟩
      refine WL_val rfl rfl rfl (R_indexAddrN rfl Tryz.underlying23 Tryz.sizeOf5 rfl rfl (by exact Nat.mod_lt _ hz0)) ?_
      refine WL_val rfl rfl rfl (R_loadG rfl sc5 rfl (pulls_mem (pqD : Pulls DH _ _) hez) (bvs_at hzat hzx)) ?_
      refine WL_val rfl rfl rfl (R_conv (r := (zx.toNat : Int)) rfl Tryz.underlying5 Tryz.underlying3 rfl (by rw [wrap64_in (by omega) (by omega)])) ?_
      refine WL_val rfl rfl rfl (R_addR (r := (n9 : Int)) rfl rfl rfl (by rw [wrap64_in (by omega) (by omega)]; omega)) ?_
      refine WL_val rfl rfl rfl (R_assign rfl rfl) ?_
      refine WL_nil ?_
      refine WQ_code ?_
      refine WC_seq ?_
      refine WC_region ?_
      refine WL_val rfl rfl rfl (R_move rfl rfl) ?_
      refine WL_do rfl rfl rfl (D_call (t_cout hgc (pcb_S (by omega) (by omega) (by omega) (by rw [List.length_drop]; omega) (by omega) (Nat.zero_le _)) (by omega)) rfl rfl rfl rfl (pqD)) ?_
      rintro _ _ ⟨_, ⟨gc1, o9, c9, tl9, hgc1, own9, rfl, rfl⟩, rfl⟩
      refine WL_val rfl rfl rfl (R_move rfl rfl) ?_
      refine WL_val rfl rfl rfl (R_extract rfl rfl rfl) ?_
      refine WL_val rfl rfl rfl (R_extract rfl rfl rfl) ?_
      refine WL_val rfl rfl rfl (R_assign rfl rfl) ?_
      refine WL_val rfl rfl rfl (R_assign rfl rfl) ?_
      refine WL_nil ?_
      refine WQ_code ?_
      refine WC_seq ?_
      refine WC_region ?_
      refine WL_val rfl rfl rfl (R_move rfl rfl) ?_
      refine WL_do rfl rfl rfl (D_call (t_sout hgs (pvb_S (L := []) (L' := []) (i := 0) (i' := 0) (by omega) (by omega) (by omega) (Nat.zero_le _) (Nat.zero_le _) (Nat.zero_le _)) (by omega)) rfl rfl rfl rfl (pqD)) ?_
      rintro _ _ ⟨_, ⟨gs1, o8, c8, tl8, hgs1, own8, rfl, rfl⟩, rfl⟩
      refine WL_val rfl rfl rfl (R_move rfl rfl) ?_
      refine WL_val rfl rfl rfl (R_extract rfl rfl rfl) ?_
      refine WL_val rfl rfl rfl (R_extract rfl rfl rfl) ?_
      refine WL_val rfl rfl rfl (R_assign rfl rfl) ?_
      refine WL_val rfl rfl rfl (R_assign rfl rfl) ?_
      refine WL_nil ?_
      refine WQ_code ?_
      refine WC_seq ?_
      refine WC_seq ?_
      refine WC_region ?_
      refine WL_val rfl rfl rfl (R_move rfl rfl) ?_
      refine WL_val rfl rfl rfl (R_neq rfl rfl rfl) ?_
      refine WL_set (s := 158) (v := .bool false) rfl (by rfl) ?_
      refine WL_val rfl rfl rfl (R_move rfl rfl) ?_
      refine WL_val rfl rfl rfl (R_move rfl rfl) ?_
      refine WL_val rfl rfl rfl (R_neq rfl rfl rfl) ?_
      refine WL_set (s := 161) (v := .bool false) rfl (by rfl) ?_
      refine WL_val rfl rfl rfl (R_pickF rfl rfl rfl) ?_
      refine WL_nil ?_
      refine WQ_code ?_
      refine WC_F rfl ?_
      refine WC_skip ?_
      refine WQ_code ?_
      refine WC_seq ?_
      refine WC_region ?_
      refine WL_val rfl rfl rfl (R_move rfl rfl) ?_
      refine WL_val rfl rfl rfl (R_move rfl rfl) ?_
      refine WL_do rfl rfl rfl (D_appendB rfl si23 rfl hO1 plD rfl (RdB.own own9) mmD (by omega) (by omega)) ?_
      rintro _ _ ⟨obA, kkA, ccA, ppA, ttA, rfl, hOA, rfl, _⟩
      rw [← bvs_app, show y.P1.length + y.co.length = (y.P1 ++ y.co).length from by simp] at hOA ⊢
      refine WL_val rfl rfl rfl (R_move rfl rfl) ?_
      refine WL_val rfl rfl rfl (R_move rfl rfl) ?_
      refine WL_do rfl rfl rfl (D_appendB rfl si23 rfl hO2 plD rfl (RdB.own own8) mmD (by omega) (by omega)) ?_
      rintro _ _ ⟨obB, kkB, ccB, ppB, ttB, rfl, hOB, rfl, _⟩
      rw [← bvs_app, show y.P2.length + y.so.length = (y.P2 ++ y.so).length from by simp] at hOB ⊢
      refine WL_val rfl rfl rfl (R_assign rfl rfl) ?_
      refine WL_val rfl rfl rfl (R_assign rfl rfl) ?_
      refine WL_nil ?_
      refine WQ_code ?_
      refine WC_seq ?_
      refine WC_region ?_
      refine WL_val rfl rfl rfl (R_assign rfl rfl) ?_
      refine WL_val rfl rfl rfl (R_assign rfl rfl) ?_
      refine WL_nil ?_
      refine WQ_code ?_
      refine WC_seq ?_
      refine WC_region ?_
      refine WL_val rfl rfl rfl (R_move rfl rfl) ?_
      refine WL_val rfl rfl rfl (R_move rfl rfl) ?_
      refine WL_val rfl rfl rfl (R_move rfl rfl) ?_
      refine WL_do rfl rfl rfl (D_call (pump_ok hga hOA (by rw [List.length_append]; omega) (by omega)) rfl rfl rfl rfl (pqD)) ?_
      rintro _ _ ⟨_, ⟨ga1, oA, kA, cA, pA, qA, hga1, hOA2, rfl, rfl⟩, rfl⟩
      refine WL_val rfl rfl rfl (R_move rfl rfl) ?_
      refine WL_val rfl rfl rfl (R_extract rfl rfl rfl) ?_
      refine WL_val rfl rfl rfl (R_extract rfl rfl rfl) ?_
      refine WL_val rfl rfl rfl (R_assign rfl rfl) ?_
      refine WL_val rfl rfl rfl (R_assign rfl rfl) ?_
      refine WL_nil ?_
      refine WQ_code ?_
      refine WC_seq ?_
      refine WC_region ?_
      refine WL_val rfl rfl rfl (R_move rfl rfl) ?_
      refine WL_val rfl rfl rfl (R_move rfl rfl) ?_
      refine WL_val rfl rfl rfl (R_move rfl rfl) ?_
      refine WL_do rfl rfl rfl (D_call (pump_ok hgb hOB (by rw [List.length_append]; omega) (by omega)) rfl rfl rfl rfl (pqD)) ?_
      rintro _ _ ⟨_, ⟨gb1, oB, kB, cB, pB, qB, hgb1, hOB2, rfl, rfl⟩, rfl⟩
      refine WL_val rfl rfl rfl (R_move rfl rfl) ?_
      refine WL_val rfl rfl rfl (R_extract rfl rfl rfl) ?_
      refine WL_val rfl rfl rfl (R_extract rfl rfl rfl) ?_
      refine WL_val rfl rfl rfl (R_assign rfl rfl) ?_
      refine WL_val rfl rfl rfl (R_assign rfl rfl) ?_
      refine WL_nil ?_
      refine WQ_code ?_
      refine WC_seq ?_
      refine WC_seq ?_
      refine WC_region ?_
      refine WL_val rfl rfl rfl (R_move rfl rfl) ?_
      refine WL_val rfl rfl rfl (R_not rfl rfl) ?_
      refine WL_set (s := 184) (v := .bool false) rfl (by rfl) ?_
      refine WL_val rfl rfl rfl (R_move rfl rfl) ?_
      refine WL_val rfl rfl rfl (R_move rfl rfl) ?_
      refine WL_val rfl rfl rfl (R_not rfl rfl) ?_
      refine WL_set (s := 187) (v := .bool false) rfl (by rfl) ?_
      refine WL_val rfl rfl rfl (R_pickF rfl rfl rfl) ?_
      refine WL_val rfl rfl rfl (R_move rfl rfl) ?_
      refine WL_val rfl rfl rfl (R_move rfl rfl) ?_
      refine WL_val rfl rfl rfl (R_move rfl rfl) ?_
      refine WL_val rfl rfl rfl (R_move rfl rfl) ?_
      refine WL_do rfl rfl rfl (D_call (t_carry hga1 hgb1 h4.1 h4.2.1 h4.2.2.1 h4.2.2.2.1 h4.2.2.2.2.1 n9 (by omega) (by omega) (by omega)) rfl rfl rfl rfl (pqD)) ?_
      rintro _ _ ⟨_, ⟨ga2, gb2, A1, B1, bs1, hL1, hga2, hgb2, hE1, hW1, rfl, rfl⟩, rfl⟩
      refine WL_val rfl rfl rfl (R_not rfl rfl) ?_
      refine WL_set (s := 194) (v := .bool false) rfl (by rfl) ?_
      refine WL_val rfl rfl rfl (R_pickF rfl rfl rfl) ?_
      refine WL_val rfl rfl rfl (R_move rfl rfl) ?_
      refine WL_val rfl rfl rfl (R_move rfl rfl) ?_
      refine WL_val rfl rfl rfl (R_move rfl rfl) ?_
      refine WL_val rfl rfl rfl (R_move rfl rfl) ?_
      obtain ⟨hT5, hP5⟩ := hT4.e5 hL1 hE1 hW1 (by omega)
      have h5 := hT5.cc2
      have hou5 := hT5.outL hB (by omega)
      refine WL_do rfl rfl rfl (D_call (t_carry hgb2 hga2 h5.1 h5.2.1 h5.2.2.1 h5.2.2.2.1 h5.2.2.2.2.1 n9 (by omega) (by omega) (by omega)) rfl rfl rfl rfl (pqD)) ?_
      rintro _ _ ⟨_, ⟨gb3, ga3, A2, B2, bs2, hL2, hgb3, hga3, hE2, hW2, rfl, rfl⟩, rfl⟩
      refine WL_val rfl rfl rfl (R_not rfl rfl) ?_
      refine WL_set (s := 201) (v := .bool false) rfl (by rfl) ?_
      refine WL_val rfl rfl rfl (R_pickF rfl rfl rfl) ?_
      refine WL_nil ?_
      refine WQ_code ?_
      refine WC_F rfl ?_
      refine WC_skip ?_
      refine WQ_code ?_
      refine WC_seq ?_
      refine WC_region ?_
      refine WL_val rfl rfl rfl (R_move rfl rfl) ?_
      refine WL_val rfl rfl rfl (R_move rfl rfl) ?_
      obtain ⟨hT6, hP6⟩ := hT5.e6 hL2 hE2 hW2 (by omega)
      rw [show (((y.b.wr (y.P2 ++ y.so)).put A1 bs1)).out = ((y.b.wr (y.P2 ++ y.so))).out from rfl] at hP6
      have h16 := if16 hne
      have h7 := hT6.dd1
      have hl6 := hT6.lens hB
      have hou6 := hT6.outL hB (by omega)
      refine WL_do rfl rfl rfl (D_call (drained_ok hgb3 h7.1 h7.2 (by omega) (by omega)) rfl rfl rfl rfl (pqD)) ?_
      rintro _ _ ⟨_, ⟨gb4, cs1, cr1, od1, kd1, cd1, pd1, td1, hgb4, hsm1, hcs1, hcr1, hOd1, rfl, rfl⟩, rfl⟩
      refine WL_val rfl rfl rfl (R_move rfl rfl) ?_
      refine WL_val rfl rfl rfl (R_extract rfl rfl rfl) ?_
      refine WL_val rfl rfl rfl (R_extract rfl rfl rfl) ?_
      refine WL_val rfl rfl rfl (R_assign rfl rfl) ?_
      refine WL_val rfl rfl rfl (R_assign rfl rfl) ?_
      refine WL_nil ?_
      refine WQ_code ?_
      refine WC_seq ?_
      refine WC_region ?_
      refine WL_val rfl rfl rfl (R_move rfl rfl) ?_
      refine WL_val rfl rfl rfl (R_move rfl rfl) ?_
      obtain ⟨F2b, hT7, hP7⟩ := hT6.e7 hsm1 hcs1 hcr1
      have h8 := hT7.dd2
      have hl7 := hT7.lens hB
      have hou7 := hT7.outL hB (by omega)
      refine WL_do rfl rfl rfl (D_call (drained_ok hga3 h8.1 h8.2 (by omega) (by omega)) rfl rfl rfl rfl (pqD)) ?_
      rintro _ _ ⟨_, ⟨ga4, cs2, cr2, od2, kd2, cd2, pd2, td2, hga4, hsm2, hcs2, hcr2, hOd2, rfl, rfl⟩, rfl⟩
      refine WL_val rfl rfl rfl (R_move rfl rfl) ?_
      refine WL_val rfl rfl rfl (R_extract rfl rfl rfl) ?_
      refine WL_val rfl rfl rfl (R_extract rfl rfl rfl) ?_
      refine WL_val rfl rfl rfl (R_assign rfl rfl) ?_
      refine WL_val rfl rfl rfl (R_assign rfl rfl) ?_
      refine WL_nil ?_
      refine WQ_code ?_
      refine WC_seq ?_
      refine WC_seq ?_
      refine WC_region ?_
      refine WL_val rfl rfl rfl (R_move rfl rfl) ?_
      refine WL_val rfl rfl rfl (R_not rfl rfl) ?_
      refine WL_set (s := 216) (v := .bool false) rfl (by rfl) ?_
      refine WL_val rfl rfl rfl (R_move rfl rfl) ?_
      refine WL_val rfl rfl rfl (R_move rfl rfl) ?_
      refine WL_val rfl rfl rfl (R_not rfl rfl) ?_
      refine WL_set (s := 219) (v := .bool false) rfl (by rfl) ?_
      refine WL_val rfl rfl rfl (R_pickF rfl rfl rfl) ?_
      refine WL_val rfl rfl rfl (R_move rfl rfl) ?_
      refine WL_val rfl rfl rfl (R_move rfl rfl) ?_
      refine WL_val rfl rfl rfl (R_move rfl rfl) ?_
      obtain ⟨F1b, hT8, hP8⟩ := hT7.e8 hsm2 hcs2 hcr2
      have hl8 := hT8.lens hB
      obtain ⟨J, sb9, hJ1, hJ2, hrv1, hT9, hP9⟩ := hT8.e9 hB rfl
      obtain ⟨I9, cb9, hI1, hI2, hrv2, hT10, hP10⟩ := hT9.e10 hB rfl
      have hl9 := hT9.lens hB
      have hl10 := hT10.lens hB
      refine WL_do rfl rfl rfl (D_call (t_srecv hgs1 (pvb_S (L := []) (L' := []) (i := 0) (i' := 0) (by omega) (by omega) (by omega) (Nat.zero_le _) (Nat.zero_le _) (Nat.zero_le _)) (RdB.ownS hOd1) (by omega) hrv1) rfl rfl rfl rfl (pqD)) ?_
      rintro _ _ ⟨_, ⟨gs2, hgs2, rfl, rfl⟩, rfl⟩
      refine WL_val rfl rfl rfl (R_neq rfl rfl rfl) ?_
      refine WL_set (s := 225) (v := .bool false) rfl (by rfl) ?_
      refine WL_val rfl rfl rfl (R_pickF rfl rfl rfl) ?_
      refine WL_val rfl rfl rfl (R_move rfl rfl) ?_
      refine WL_val rfl rfl rfl (R_move rfl rfl) ?_
      refine WL_val rfl rfl rfl (R_move rfl rfl) ?_
      refine WL_do rfl rfl rfl (D_call (t_crecv hgc1 (pcb_S (by omega) (Nat.zero_le _) (by omega) (by rw [List.length_drop]; omega) (by omega) (Nat.zero_le _)) (RdB.ownS hOd2) (by omega) hrv2) rfl rfl rfl rfl (pqD)) ?_
      rintro _ _ ⟨_, ⟨gc2, hgc2, rfl, rfl⟩, rfl⟩
      refine WL_val rfl rfl rfl (R_neq rfl rfl rfl) ?_
      refine WL_set (s := 231) (v := .bool false) rfl (by rfl) ?_
      refine WL_val rfl rfl rfl (R_pickF rfl rfl rfl) ?_
      refine WL_nil ?_
      refine WQ_code ?_
      refine WC_F rfl ?_
      refine WC_skip ?_
      refine WQ_code ?_
      refine WC_seq ?_
      refine WC_seq ?_
      refine WC_region ?_
      refine WL_val rfl rfl rfl (R_move rfl rfl) ?_
      refine WL_do rfl rfl rfl (D_call (t_snext hgs2 (pvb_S (by omega) (Nat.zero_le _) (by omega) (by have := sl_len Bd y.j J; omega) (by omega) (by have := sl_len Bd y.j J; omega)) ⟨hJ1, hJ2⟩) rfl rfl rfl rfl (pqD)) ?_
      rintro _ _ ⟨_, ⟨gs3, o3, c3, tl3, id3, dl3, bd3, hgs3, own3, hcur3, rfl, rfl⟩, rfl⟩
      refine WL_val rfl rfl rfl (R_move rfl rfl) ?_
      refine WL_val rfl rfl rfl (R_extract rfl rfl rfl) ?_
      refine WL_val rfl rfl rfl (R_extract rfl rfl rfl) ?_
      refine WL_do rfl rfl rfl (D_alloc rfl zv59) ?_
      rintro _ _ ⟨b3, rfl, rfl⟩
      refine WL_do0 rfl rfl (D_store (vs := [_, _, _]) rfl Tryz.sizeOf59 rfl rfl rfl rfl rfl (plD) (by exact Nat.le_of_ble_eq_true rfl)) ?_
      rintro _ _ rfl
      refine WL_val rfl rfl rfl (R_assign rfl rfl) ?_
      refine WL_nil ?_
      refine WQ_code ?_
      refine WC_block ?_
      refine WC_loopF (G := SwW) [6, 30, 31, 238, 239, 240, 241, 242, 243, 244, 245, 246, 247, 248, 249, 250, 251, 252, 253, 254, 255, 256, 257, 258, 259, 260, 261, 262, 263, 264, 265, 266, 267, 268, 269, 270, 271, 272, 273, 274, 275, 276, 277, 278, 279, 280, 281, 282, 283] (fun u => y.j ≤ u.m ∧ u.m ≤ J ∧ SGd u.gs b2 (sS J u.so sb9 (tMk idF u.m (sl Bd u.m J)) (tMk rrF (u.m + 1) (sl Bd (u.m + 1) J))) ∧ (u.m < J → u.id = ((u.m + 1 : Nat) : Int) ∧ Bd[u.m]? = some u.bd) ∧ Own u.o u.bd.length u.c 1 (bvs u.bd) u.tl ∧ TI Bd win (⟨(drX (((y.a.wr (y.P1 ++ y.co)).cut n9).put A2 bs2) [] cr2 cs2), (drX (((y.b.wr (y.P2 ++ y.so)).put A1 bs1).cut n9) [] cr1 cs1), F1b, F2b, ((y.P1 ++ y.co).drop (y.a.wq (y.P1 ++ y.co))), ((y.P2 ++ y.so).drop (y.b.wq (y.P2 ++ y.so))), [], [], [], u.so, cb9, sb9, I9, u.m, J⟩ : TS) ∧ Phi Bd (⟨(drX (((y.a.wr (y.P1 ++ y.co)).cut n9).put A2 bs2) [] cr2 cs2), (drX (((y.b.wr (y.P2 ++ y.so)).put A1 bs1).cut n9) [] cr1 cs1), F1b, F2b, ((y.P1 ++ y.co).drop (y.a.wq (y.P1 ++ y.co))), ((y.P2 ++ y.so).drop (y.b.wq (y.P2 ++ y.so))), [], [], [], u.so, cb9, sb9, I9, u.m, J⟩ : TS) + 16 * (y.t + 1) ≤ 120000) (fun u => [(31, .bool (decide (u.m < J))), (30, ptrW u.bn)]) (fun u => sH u.gs ++ [⟨some u.bn, cl [.int .i64 u.id, .int .u64 u.dl, slV u.o u.bd.length u.c] 59⟩, ⟨u.o, cl (bvs (u.bd) ++ u.tl) 5⟩]) (fun u => J - u.m) (⟨y.j, gs3, [], id3, dl3, bd3, o3, c3, tl3, b3⟩) (⟨Nat.le_refl _, hJ1, hgs3, hcur3, own3, hT10, by dsimp only; omega⟩) leZ (pqD) ?_
      rintro u ⟨hm1, hm2, hgu, hcu, ownu, hTu, hPu⟩
      refine WC_seq ?_
      refine WC_seq ?_
      refine WC_region ?_
      refine WL_val rfl rfl rfl (R_move rfl rfl) ?_
      refine WL_nil ?_
      refine WQ_code ?_
      refine WC_dec rfl (fun c3 => ?_) (fun c3 => ?_)
      · have hmJ : u.m < J := c3
        obtain ⟨hid, hbd⟩ := hcu hmJ
        have hblu := hB.b u.bd (List.mem_of_getElem? hbd)
        have hlu := hTu.lens hB
        obtain ⟨mv, hmv⟩ := getE (T := L) (i := u.m) (by omega)
        have hmb := hLB u.m mv hmv
        obtain ⟨en, hen, hrd⟩ := hdat mv (List.mem_of_getElem? hmv)
        obtain ⟨lb, lk, lcs, le, lfr, rfl, hlm, hlat⟩ := hlst (by omega)
        rw [hbd] at hmb
        have hmb : u.bd = mv.l := Option.some.inj hmb
        refine WC_skip ?_
        refine WQ_code ?_
        refine WC_seq ?_
        refine WC_block ?_
        refine WC_seq ?_
        refine WC_drawBR ([] ++ sH u.gs) [(0, .q), (1, .q), (2, .q), (3, .q), (4, .q), (5, .q), (6, .q), (7, .q), (8, .q), (9, .q), (10, .q), (11, .q), (12, .q), (13, .q), (14, .q), (15, .q), (16, .q), (17, .q), (18, .q), (19, .q), (20, .q), (21, .q), (22, .q), (23, .q), (24, .q), (25, .q), (26, .q), (27, .q), (28, .q), (30, .q), (31, .q), (32, .q), (33, .q), (29, .n [34]), (34, .b []), (35, .n []), (36, .n []), (37, .q), (38, .q)] followsMixed rfl rfl (by kernel_rfl) (pqD) ?_
        refine WB_val rfl rfl rfl rfl (R_fieldAddr rfl fa59_0 rfl) ?_
        refine WB_val rfl rfl rfl rfl (R_load rfl sc3 rfl (mmD) rfl) ?_
        refine WB_val rfl rfl rfl rfl (R_lss rfl rfl rfl) ?_
        refine WB_set (s := 246) (v := .bool false) rfl (by exact congrArg Value.bool (decide_eq_false (by omega))) ?_
        refine WB_val rfl rfl rfl rfl (R_move rfl rfl) ?_
        refine WB_val rfl rfl rfl rfl (R_fieldAddr rfl fa59_0 rfl) ?_
        refine WB_val rfl rfl rfl rfl (R_load rfl sc3 rfl (mmD) rfl) ?_
        refine WB_val rfl rfl rfl rfl (R_move rfl rfl) ?_
        refine WB_val rfl rfl rfl rfl (R_len rfl Tryz.underlying22 rfl) ?_
        refine WB_val rfl rfl rfl rfl (R_gtr rfl rfl rfl) ?_
        refine WB_set (s := 252) (v := .bool false) rfl (by exact congrArg Value.bool (decide_eq_false (by omega))) ?_
        refine WB_val rfl rfl rfl rfl (R_pickF rfl rfl rfl) ?_
        refine WB_val rfl rfl rfl rfl (R_move rfl rfl) ?_
        refine WB_val rfl rfl rfl rfl (R_fieldAddr rfl fa59_2 rfl) ?_
        refine WB_val rfl rfl rfl rfl (R_load rfl sc23 rfl (mmD) rfl) ?_
        refine WB_val rfl rfl rfl rfl (R_byteStr rfl Tryz.underlying23 Tryz.underlying5 Tryz.underlying9 rfl (RdB.own ownu) mmD) ?_
        refine WB_val rfl rfl rfl rfl (R_move rfl rfl) ?_
        refine WB_val rfl rfl rfl rfl (R_fieldAddr rfl fa59_0 rfl) ?_
        refine WB_val rfl rfl rfl rfl (R_load rfl sc3 rfl (mmD) rfl) ?_
        refine WB_val rfl rfl rfl rfl (R_subR (r := ((u.m : Nat) : Int)) rfl rfl rfl (by rw [hid, wrap64_in (by omega) (by omega)]; omega)) ?_
        refine WB_val rfl rfl rfl rfl (R_indexAddrN rfl Tryz.underlying22 Tryz.sizeOf23 rfl rfl (by omega)) ?_
        refine WB_val rfl rfl rfl rfl (R_loadG rfl sc23 rfl (pulls_mem (pqD : Pulls DH _ _) hlm) (hlat u.m mv hmv)) ?_
        refine WB_val rfl rfl rfl rfl (R_byteStr rfl Tryz.underlying23 Tryz.underlying5 Tryz.underlying9 rfl hrd (pulls_mem (pqD : Pulls DH _ _) hen)) ?_
        refine WB_val rfl rfl rfl rfl (R_strNe rfl Tryz.underlying9 rfl rfl) ?_
        refine WB_set (s := 265) (v := .bool false) rfl (by exact congrArg Value.bool (decide_eq_false (fun e => e (by rw [hmb])))) ?_
        refine WB_val rfl rfl rfl rfl (R_pickF rfl rfl rfl) ?_
        refine WB_val rfl rfl rfl rfl (R_move rfl rfl) ?_
        refine WB_val rfl rfl rfl rfl (R_move rfl rfl) ?_
        refine WB_val rfl rfl rfl rfl (R_fieldAddr rfl fa59_0 rfl) ?_
        refine WB_val rfl rfl rfl rfl (R_load rfl sc3 rfl (mmD) rfl) ?_
        refine WB_set (s := 270) (v := .int .i64 ((u.m + 1 : Nat) : Int)) rfl (by rw [hid]) ?_
        refine WB_val rfl rfl rfl rfl (R_fieldAddr rfl fa59_2 rfl) ?_
        refine WB_val rfl rfl rfl rfl (R_load rfl sc23 rfl (mmD) rfl) ?_
        refine WB_val rfl rfl rfl rfl (R_fieldAddr rfl fa59_2 rfl) ?_
        refine WB_val rfl rfl rfl rfl (R_load rfl sc23 rfl (mmD) rfl) ?_
        refine WB_val rfl rfl rfl rfl (R_len rfl Tryz.underlying23 rfl) ?_
        refine WB_val rfl rfl rfl rfl (R_conv (r := ((lenB u.bd).toNat : Int)) rfl Tryz.underlying3 Tryz.underlying5 rfl (u8_of _)) ?_
        refine WB_do rfl rfl rfl rfl (.cons rfl rfl (B_buildSlice rfl si23 rfl rfl rfl) .nil) (fun _ => D_appendIn rfl si23 rfl rfl (inn_of (RdB.own ownu) mmD) (by rw [Nat.mul_one]; exact bvs_len u.bd) (by omega) (by omega)) ?_
        rintro _ _ ⟨o5, c5, tl5, rfl, own5, rfl⟩
        refine ⟨⟨_, pqD⟩, ?_⟩
        refine WB_birth rfl rfl rfl rfl .nil (B_buildSlice rfl si23 rfl rfl rfl) (fun b4 => ?_)
        refine WB_do rfl rfl rfl rfl .nil (fun _ => D_appendBO rfl si23 rfl own5 plD rfl (RdB.blk b4 [lenB u.bd]) mmD (by simp; omega) (by simp; omega)) ?_
        rintro _ _ ⟨o6, c6, tl6, rfl, own6, rfl⟩
        refine ⟨⟨_, pqD⟩, ?_⟩
        rw [← bvs_app, show u.bd.length + [lenB u.bd].length = (u.bd ++ [lenB u.bd]).length from by simp] at own6 ⊢
        have hT11 := hTu.e11 hbd hmJ
        refine WB_do rfl rfl rfl rfl .nil (fun _ => D_call (t_reply hgu hB (by omega) hmJ hbd (by omega) (by omega) (RdB.own own6)) rfl rfl rfl rfl (pqD)) ?_
        rintro _ _ ⟨_, ⟨gs4, hgs4, rfl, rfl⟩, rfl⟩
        refine ⟨⟨_, pqD⟩, ?_⟩
        refine WB_val rfl rfl rfl rfl (R_neq rfl rfl rfl) ?_
        refine WB_set (s := 281) (v := .bool false) rfl (by rfl) ?_
        refine WB_val rfl rfl rfl rfl (R_pickF rfl rfl rfl) ?_
        refine WB_nil ?_
        refine WQ_code ?_
        refine WC_F rfl ?_
        refine WC_skip ?_
        refine WQ_code ?_
        refine WC_seq ?_
        refine WC_seq ?_
        refine WC_region ?_
        refine WL_val rfl rfl rfl (R_loadA (vs := [_, _, _]) rfl ag59 rfl (mmD) rfl (atZ)) ?_
        refine WL_nil ?_
        refine WQ_code ?_
        refine WC_region ?_
        refine WL_do rfl rfl rfl (D_alloc rfl zv59) ?_
        rintro _ _ ⟨b5, rfl, rfl⟩
        refine WL_do0 rfl rfl (D_store (vs := [_, _, _]) rfl Tryz.sizeOf59 rfl rfl rfl rfl rfl (plD) (by exact Nat.le_of_ble_eq_true rfl)) ?_
        rintro _ _ rfl
        refine WL_nil ?_
        refine WQ_code ?_
        refine WC_region ?_
        refine WL_val rfl rfl rfl (R_move rfl rfl) ?_
        refine WL_do rfl rfl rfl (D_call (t_snext hgs4 (pvb_S (by omega) (by have h1 := hT11.1.lens hB; omega) (by omega) (by have := sl_len Bd (u.m + 1) J; omega) (by omega) (by have := sl_len Bd (u.m + 1) J; omega)) ⟨by omega, hJ2⟩) rfl rfl rfl rfl (pqD)) ?_
        rintro _ _ ⟨_, ⟨gs5, o7, c7, tl7, id7, dl7, bd7, hgs5, own7, hcur7, rfl, rfl⟩, rfl⟩
        refine WL_val rfl rfl rfl (R_move rfl rfl) ?_
        refine WL_val rfl rfl rfl (R_extract rfl rfl rfl) ?_
        refine WL_val rfl rfl rfl (R_extract rfl rfl rfl) ?_
        refine WL_do0 rfl rfl (D_store (vs := [_, _, _]) rfl Tryz.sizeOf59 rfl rfl rfl rfl rfl (plD) (by exact Nat.le_of_ble_eq_true rfl)) ?_
        rintro _ _ rfl
        refine WL_val rfl rfl rfl (R_assign rfl rfl) ?_
        refine WL_nil ?_
        refine WQ_nextF (gg := u) (⟨u.m + 1, gs5, u.so ++ encF 17 (rpF (u.m + 1) u.bd).b, id7, dl7, bd7, o7, c7, tl7, b5⟩) (⟨by dsimp only; omega, by dsimp only; omega, hgs5, hcur7, own7, hT11.1, by rw [hT11.2]; exact hPu⟩) (by dsimp only; omega) leZ (psZ) rfl (pqD)
      · have hmE : u.m = J := by omega
        subst hmE
        rw [sl_nil Bd (Nat.le_refl _), sl_nil Bd (Nat.le_succ _)] at hgu
        refine WC_exit ?_
        refine WQ_code ?_
        refine WC_seq ?_
        refine WC_region ?_
        refine WL_val rfl rfl rfl (R_move rfl rfl) ?_
        refine WL_do rfl rfl rfl (D_call (t_cnext hgc2 (pcb_S (by omega) (Nat.zero_le _) (by omega) (by rw [List.length_drop]; omega) (by omega) (by rw [tMk_len]; have := sl_len Bd y.i I9; omega)) ⟨hI1, by omega⟩) rfl rfl rfl rfl (pqD)) ?_
        rintro _ _ ⟨_, ⟨gc3, o4, c4, tl4, id4, bd4, hgc3, own4, hcur4, rfl, rfl⟩, rfl⟩
        refine WL_val rfl rfl rfl (R_move rfl rfl) ?_
        refine WL_val rfl rfl rfl (R_extract rfl rfl rfl) ?_
        refine WL_val rfl rfl rfl (R_extract rfl rfl rfl) ?_
        refine WL_do rfl rfl rfl (D_alloc rfl zv64) ?_
        rintro _ _ ⟨b6, rfl, rfl⟩
        refine WL_do0 rfl rfl (D_store (vs := [_, _, _]) rfl Tryz.sizeOf64 rfl rfl rfl rfl rfl (plD) (by exact Nat.le_of_ble_eq_true rfl)) ?_
        rintro _ _ rfl
        refine WL_val rfl rfl rfl (R_assign rfl rfl) ?_
        refine WL_nil ?_
        refine WQ_code ?_
        refine WC_block ?_
        refine WC_loopF (G := CwW) [6, 21, 32, 33, 289, 290, 291, 292, 293, 294, 295, 296, 297, 298, 299, 300, 301, 302, 303, 304, 305, 306, 307, 308, 309, 310, 311, 312, 313, 314, 315, 316, 317, 318, 319, 320, 321, 322, 323, 324, 325, 326, 327, 328, 329, 330, 331, 332, 333, 334, 335, 336] (fun z => y.i ≤ z.m ∧ z.m ≤ I9 ∧ CGd z.gc b1 (cS Bd.length [] cb9 (tMk caF I9 (Bd.drop I9)) (tMk rsF (z.m + 1) (sl Bd (z.m + 1) I9))) ∧ (z.m < I9 → z.id = ((z.m + 1 : Nat) : Int) ∧ ∃ b, Bd[z.m]? = some b ∧ z.bd = b ++ [lenB b]) ∧ Own z.o z.bd.length z.c 1 (bvs z.bd) z.tl) (fun z => [(33, .bool (decide (z.m < I9))), (32, ptrW z.bn), (21, .int .i64 ((L.length - z.m : Nat) : Int))]) (fun z => cH z.gc ++ [⟨some z.bn, cl [.int .i64 z.id, .int .i64 0, slV z.o z.bd.length z.c] 64⟩, ⟨z.o, cl (bvs (z.bd) ++ z.tl) 5⟩]) (fun z => I9 - z.m) (⟨y.i, gc3, id4, bd4, o4, c4, tl4, b6⟩) (⟨Nat.le_refl _, hI1, hgc3, hcur4, own4⟩) leZ (pqD) ?_
        rintro z ⟨hz1, hz2, hgz, hcz, ownz⟩
        refine WC_seq ?_
        refine WC_seq ?_
        refine WC_region ?_
        refine WL_val rfl rfl rfl (R_move rfl rfl) ?_
        refine WL_nil ?_
        refine WQ_code ?_
        refine WC_dec rfl (fun c4 => ?_) (fun c4 => ?_)
        · have hzI : z.m < I9 := c4
          obtain ⟨hid, bz, hbd, hbz⟩ := hcz hzI
          have hblz := hB.b bz (List.mem_of_getElem? hbd)
          obtain ⟨mv, hmv⟩ := getE (T := L) (i := z.m) (by omega)
          have hmb := hLB z.m mv hmv
          obtain ⟨en, hen, hrd⟩ := hdat mv (List.mem_of_getElem? hmv)
          obtain ⟨lb, lk, lcs, le, lfr, rfl, hlm, hlat⟩ := hlst (by omega)
          rw [hbd] at hmb
          have hmb : bz = mv.l := Option.some.inj hmb
          have hzbl : z.bd.length = bz.length + 1 := by rw [hbz]; simp
          have hmvl : mv.l.length ≤ 100 := by rw [← hmb]; exact hblz
          refine WC_skip ?_
          refine WQ_code ?_
          refine WC_seq ?_
          refine WC_block ?_
          refine WC_seq ?_
          refine WC_seq ?_
          refine WC_drawB _ [(0, .q), (1, .q), (2, .q), (3, .q), (4, .q), (5, .q), (6, .q), (7, .q), (8, .q), (9, .q), (10, .q), (11, .q), (12, .q), (13, .q), (14, .q), (15, .q), (16, .q), (17, .q), (18, .q), (19, .q), (20, .q), (21, .q), (22, .q), (23, .q), (24, .q), (25, .q), (26, .q), (27, .q), (28, .q), (29, .q), (30, .q), (31, .q), (32, .q), (33, .q), (34, .b []), (35, .n []), (36, .q), (37, .q), (38, .q)] followsMixed rfl rfl (by kernel_rfl) .all ?_
          refine WB_val rfl rfl rfl rfl (R_fieldAddr rfl fa64_0 rfl) ?_
          refine WB_val rfl rfl rfl rfl (R_load rfl sc3 rfl (mmD) rfl) ?_
          refine WB_val rfl rfl rfl rfl (R_lss rfl rfl rfl) ?_
          refine WB_set (s := 297) (v := .bool false) rfl (by exact congrArg Value.bool (decide_eq_false (by omega))) ?_
          refine WB_val rfl rfl rfl rfl (R_move rfl rfl) ?_
          refine WB_val rfl rfl rfl rfl (R_fieldAddr rfl fa64_0 rfl) ?_
          refine WB_val rfl rfl rfl rfl (R_load rfl sc3 rfl (mmD) rfl) ?_
          refine WB_val rfl rfl rfl rfl (R_move rfl rfl) ?_
          refine WB_val rfl rfl rfl rfl (R_len rfl Tryz.underlying22 rfl) ?_
          refine WB_val rfl rfl rfl rfl (R_gtr rfl rfl rfl) ?_
          refine WB_set (s := 303) (v := .bool false) rfl (by exact congrArg Value.bool (decide_eq_false (by omega))) ?_
          refine WB_val rfl rfl rfl rfl (R_pickF rfl rfl rfl) ?_
          refine WB_val rfl rfl rfl rfl (R_move rfl rfl) ?_
          refine WB_val rfl rfl rfl rfl (R_fieldAddr rfl fa64_1 rfl) ?_
          refine WB_val rfl rfl rfl rfl (R_load rfl sc27 rfl (mmD) rfl) ?_
          refine WB_val rfl rfl rfl rfl (R_neq rfl rfl rfl) ?_
          refine WB_set (s := 308) (v := .bool false) rfl (by rfl) ?_
          refine WB_val rfl rfl rfl rfl (R_pickF rfl rfl rfl) ?_
          refine WB_val rfl rfl rfl rfl (R_move rfl rfl) ?_
          refine WB_val rfl rfl rfl rfl (R_fieldAddr rfl fa64_2 rfl) ?_
          refine WB_val rfl rfl rfl rfl (R_load rfl sc23 rfl (mmD) rfl) ?_
          refine WB_val rfl rfl rfl rfl (R_byteStr rfl Tryz.underlying23 Tryz.underlying5 Tryz.underlying9 rfl (RdB.own ownz) mmD) ?_
          refine WB_val rfl rfl rfl rfl (R_move rfl rfl) ?_
          refine WB_val rfl rfl rfl rfl (R_fieldAddr rfl fa64_0 rfl) ?_
          refine WB_val rfl rfl rfl rfl (R_load rfl sc3 rfl (mmD) rfl) ?_
          refine WB_val rfl rfl rfl rfl (R_subR (r := ((z.m : Nat) : Int)) rfl rfl rfl (by rw [hid, wrap64_in (by omega) (by omega)]; omega)) ?_
          refine WB_val rfl rfl rfl rfl (R_indexAddrN rfl Tryz.underlying22 Tryz.sizeOf23 rfl rfl (by omega)) ?_
          refine WB_val rfl rfl rfl rfl (R_loadG rfl sc23 rfl (pulls_mem (pqD : Pulls DH _ _) hlm) (hlat z.m mv hmv)) ?_
          refine WB_val rfl rfl rfl rfl (R_byteStr rfl Tryz.underlying23 Tryz.underlying5 Tryz.underlying9 rfl hrd (pulls_mem (pqD : Pulls DH _ _) hen)) ?_
          refine WB_val rfl rfl rfl rfl (R_move rfl rfl) ?_
          refine WB_val rfl rfl rfl rfl (R_fieldAddr rfl fa64_0 rfl) ?_
          refine WB_val rfl rfl rfl rfl (R_load rfl sc3 rfl (mmD) rfl) ?_
          refine WB_val rfl rfl rfl rfl (R_subR (r := ((z.m : Nat) : Int)) rfl rfl rfl (by rw [hid, wrap64_in (by omega) (by omega)]; omega)) ?_
          refine WB_val rfl rfl rfl rfl (R_indexAddrN rfl Tryz.underlying22 Tryz.sizeOf23 rfl rfl (by omega)) ?_
          refine WB_val rfl rfl rfl rfl (R_loadG rfl sc23 rfl (pulls_mem (pqD : Pulls DH _ _) hlm) (hlat z.m mv hmv)) ?_
          refine WB_val rfl rfl rfl rfl (R_len rfl Tryz.underlying23 rfl) ?_
          refine WB_val rfl rfl rfl rfl (R_conv (r := ((lenB mv.l).toNat : Int)) rfl Tryz.underlying3 Tryz.underlying5 rfl (u8_of _)) ?_
          refine WB_birth rfl rfl rfl rfl .nil (B_buildSlice rfl si23 rfl rfl rfl) (fun b7 => ?_)
          refine WB_do rfl rfl rfl rfl .nil (fun _ => Runs.does (R_byteStr rfl Tryz.underlying23 Tryz.underlying5 Tryz.underlying9 rfl (RdB.blk b7 [lenB mv.l]) mmD)) ?_
          rintro _ _ ⟨rfl, rfl⟩
          refine ⟨⟨_, pqD⟩, ?_⟩
          refine WB_val rfl rfl rfl rfl (R_strAdd rfl rfl rfl (by simp; omega)) ?_
          refine WB_val rfl rfl rfl rfl (R_strNe rfl Tryz.underlying9 rfl rfl) ?_
          refine WB_set (s := 332) (v := .bool false) rfl (by exact congrArg Value.bool (decide_eq_false (fun e => e (by rw [hbz, hmb])))) ?_
          refine WB_val rfl rfl rfl rfl (R_pickF rfl rfl rfl) ?_
          refine WB_nil ?_
          refine WQ_code ?_
          refine WC_F rfl ?_
          refine WC_skip ?_
          refine WQ_code ?_
          refine WC_region ?_
          refine WL_val rfl rfl rfl (R_move rfl rfl) ?_
          refine WL_val rfl rfl rfl (R_subR (r := ((L.length - (z.m + 1) : Nat) : Int)) rfl rfl rfl (by rw [wrap64_in (by omega) (by omega)]; omega)) ?_
          refine WL_val rfl rfl rfl (R_assign rfl rfl) ?_
          refine WL_nil ?_
          refine WQ_code ?_
          refine WC_seq ?_
          refine WC_seq ?_
          refine WC_region ?_
          refine WL_val rfl rfl rfl (R_loadA (vs := [_, _, _]) rfl ag64 rfl (mmD) rfl (atZ)) ?_
          refine WL_nil ?_
          refine WQ_code ?_
          refine WC_region ?_
          refine WL_do rfl rfl rfl (D_alloc rfl zv64) ?_
          rintro _ _ ⟨b8, rfl, rfl⟩
          refine WL_do0 rfl rfl (D_store (vs := [_, _, _]) rfl Tryz.sizeOf64 rfl rfl rfl rfl rfl (plD) (by exact Nat.le_of_ble_eq_true rfl)) ?_
          rintro _ _ rfl
          refine WL_nil ?_
          refine WQ_code ?_
          refine WC_region ?_
          refine WL_val rfl rfl rfl (R_move rfl rfl) ?_
          refine WL_do rfl rfl rfl (D_call (t_cnext hgz (pcb_S (by omega) (Nat.zero_le _) (by omega) (by rw [List.length_drop]; omega) (by omega) (by rw [tMk_len]; have := sl_len Bd (z.m + 1) I9; omega)) ⟨by omega, by omega⟩) rfl rfl rfl rfl (pqD)) ?_
          rintro _ _ ⟨_, ⟨gc5, o10, c10, tl10, id10, bd10, hgc5, own10, hcur10, rfl, rfl⟩, rfl⟩
          refine WL_val rfl rfl rfl (R_move rfl rfl) ?_
          refine WL_val rfl rfl rfl (R_extract rfl rfl rfl) ?_
          refine WL_val rfl rfl rfl (R_extract rfl rfl rfl) ?_
          refine WL_do0 rfl rfl (D_store (vs := [_, _, _]) rfl Tryz.sizeOf64 rfl rfl rfl rfl rfl (plD) (by exact Nat.le_of_ble_eq_true rfl)) ?_
          rintro _ _ rfl
          refine WL_val rfl rfl rfl (R_assign rfl rfl) ?_
          refine WL_nil ?_
          refine WQ_nextF (gg := z) (⟨z.m + 1, gc5, id10, bd10, o10, c10, tl10, b8⟩) (⟨by dsimp only; omega, by dsimp only; omega, hgc5, hcur10, own10⟩) (by dsimp only; omega) leZ (psZ) rfl (pqD)
        · have hzE : z.m = I9 := by omega
          subst hzE
          rw [sl_nil Bd (Nat.le_succ _)] at hgz
          refine WC_exit ?_
          refine WQ_code ?_
          refine WC_region ?_
          refine WL_val rfl rfl rfl (R_move rfl rfl) ?_
          refine WL_val rfl rfl rfl (R_add rfl rfl rfl (by omega)) ?_
          refine WL_val rfl rfl rfl (R_assign rfl rfl) ?_
          refine WL_nil ?_
          refine WQ_nextL (⟨y.t + 1, ga4, gb4, z.gc, u.gs, (drX (((y.a.wr (y.P1 ++ y.co)).cut n9).put A2 bs2) [] cr2 cs2), (drX (((y.b.wr (y.P2 ++ y.so)).put A1 bs1).cut n9) [] cr1 cs1), F1b, F2b, ((y.P1 ++ y.co).drop (y.a.wq (y.P1 ++ y.co))), ((y.P2 ++ y.so).drop (y.b.wq (y.P2 ++ y.so))), [], u.so, cb9, sb9, z.m, u.m, oA, kA, cA, pA, qA, oB, kB, cB, pB, qB⟩) (⟨hga4, hgb4, hgz, hgu, hTu, hPu, ⟨rfl, rfl⟩, hOA2, hOB2⟩) (by dsimp only; omega) leZ (pqD)
end Go.Proofs.YtkcfgglmlogjbaaGreat
end
