/-
 Chapter 49 (proxy), part PxK0: contracts of functions that the laws call, each for the heap it names.
-/
import Derived.Test.YtelmlkdibcdebaaGreatY02
import Derived.Test.YtelmlkdibcdebaaGreatRows
set_option linter.unusedVariables false
set_option maxRecDepth 20000
set_option maxHeartbeats 4000000
namespace Go.Proofs.YtelmlkdibcdebaaGreat
section
def un (V : List Vw) : List Bk := V.map fun v => ⟨v.1, v.2.1, v.2.2.1, v.2.2.2.1, 0, v.2.2.2.2⟩
theorem vw_un (V : List Vw) : (un V).map vw = V := by
 unfold un
 rw [List.map_map]
 exact (List.map_congr_left (fun v _ => rfl)).trans (List.map_id V)
theorem un_len (V : List Vw) : (un V).length = V.length := List.length_map _
section
variable {L L2 : List Bk}
theorem cv_len (h : L.map vw = L2.map vw) : L.length = L2.length := by
 have := congrArg List.length h
 rwa [List.length_map, List.length_map] at this
theorem gBv (L : List Bk) (a : Int) : vw (gB L a) = ((L.map vw)[a.toNat]?).getD (vw zeroK) := by
 unfold gB
 rw [List.getElem?_map]
 cases L[a.toNat]? <;> rfl
theorem cv_gB (h : L.map vw = L2.map vw) (a : Int) : vw (gB L a) = vw (gB L2 a) := by rw [gBv, gBv, h]
theorem cv_w (h : L.map vw = L2.map vw) (a : Int) : (gB L a).w = (gB L2 a).w := congrArg (fun v : Vw => v.1) (cv_gB h a)
theorem cv_sh (h : L.map vw = L2.map vw) (a : Int) : (gB L a).sh = (gB L2 a).sh := congrArg (fun v : Vw => v.2.1) (cv_gB h a)
theorem cv_act (h : L.map vw = L2.map vw) (a : Int) : (gB L a).act = (gB L2 a).act := congrArg (fun v : Vw => v.2.2.1) (cv_gB h a)
theorem cv_up (h : L.map vw = L2.map vw) (a : Int) : (gB L a).up = (gB L2 a).up := congrArg (fun v : Vw => v.2.2.2.1) (cv_gB h a)
theorem cv_b (h : L.map vw = L2.map vw) (a : Int) : (gB L a).b = (gB L2 a).b := congrArg (fun v : Vw => v.2.2.2.2) (cv_gB h a)
theorem cv_ok (h : L.map vw = L2.map vw) (now i : Nat) : okAt L now i = okAt L2 now i := by
 have e : ∀ M : List Bk, okAt M now i = match (M.map vw)[i]? with
   | some v => v.2.2.2.1 && decide (rdB v.2.2.2.2 now)
   | none => false := fun M => by
  unfold okAt
  rw [List.getElem?_map]
  cases M[i]? <;> rfl
 rw [e, e, h]
theorem cv_cand (h : L.map vw = L2.map vw) (now : Nat) : cand L now = cand L2 now := by
 unfold cand candK
 rw [cv_len h, show okAt L now = okAt L2 now from funext (cv_ok h now)]
theorem cv_least (h : L.map vw = L2.map vw) (a b : Int) : leastQ L a b = leastQ L2 a b := by
 unfold leastQ; rw [cv_act h, cv_act h, cv_w h, cv_w h]
theorem cv_wei (h : L.map vw = L2.map vw) (a b : Int) : weiQ L a b = weiQ L2 a b := by
 unfold weiQ; rw [cv_sh h, cv_sh h]
theorem cv_bump1 (h : L.map vw = L2.map vw) (a : Int) : (bump1 L a).map vw = (bump1 L2 a).map vw := by
 unfold bump1
 rw [List.map_set, List.map_set, h]
 refine congrArg _ ?_
 show ((gB L a).w, (gB L a).sh + (gB L a).w, (gB L a).act, (gB L a).up, (gB L a).b) = ((gB L2 a).w, (gB L2 a).sh + (gB L2 a).w, (gB L2 a).act, (gB L2 a).up, (gB L2 a).b)
 rw [cv_w h, cv_sh h, cv_up h, cv_act h, cv_b h]
end
theorem cv_bump (l : List Int) : ∀ {L L2 : List Bk}, L.map vw = L2.map vw → (bump L l).map vw = (bump L2 l).map vw := by
 induction l with
 | nil => intro L L2 h; exact h
 | cons a r ih => intro L L2 h; exact ih (cv_bump1 h a)
section
variable {L L2 : List Bk}
theorem cv_sumW (h : L.map vw = L2.map vw) (l : List Int) : sumW L l = sumW L2 l := by
 unfold sumW
 rw [show (fun (s : Int) i => s + (gB L i).w) = fun s i => s + (gB L2 i).w from funext fun s => funext fun i => by rw [cv_w h]]
theorem cv_leastI (h : L.map vw = L2.map vw) (l : List Int) : leastI L l = leastI L2 l := by
 unfold leastI
 exact sel_congr fun a _ b _ => by rw [cv_least h]
theorem cv_weiI (h : L.map vw = L2.map vw) (l : List Int) : weiI L l = weiI L2 l := by
 unfold weiI
 exact sel_congr fun a _ b _ => by rw [cv_wei h]
theorem cv_drop1 (h : L.map vw = L2.map vw) (a s : Int) : (drop1 L a s).map vw = (drop1 L2 a s).map vw := by
 unfold drop1
 rw [List.map_set, List.map_set, h]
 refine congrArg _ ?_
 show ((gB L a).w, (gB L a).sh - s, (gB L a).act, (gB L a).up, (gB L a).b) = ((gB L2 a).w, (gB L2 a).sh - s, (gB L2 a).act, (gB L2 a).up, (gB L2 a).b)
 rw [cv_w h, cv_sh h, cv_up h, cv_act h, cv_b h]
theorem cv_pickI (h : L.map vw = L2.map vw) (k nx : Nat) (key : ByteArray) (l : List Int) : pickI k L nx key l = pickI k L2 nx key l := by
 unfold pickI
 rw [cv_leastI h, cv_weiI (cv_bump l h)]
theorem cv_pickL (h : L.map vw = L2.map vw) (k : Nat) (l : List Int) : (pickL k L l).map vw = (pickL k L2 l).map vw := by
 unfold pickL
 split
 ·rw [cv_weiI (cv_bump l h), cv_sumW h]
  exact cv_drop1 (cv_bump l h) _ _
 ·exact h
theorem cv_pickS (h : L.map vw = L2.map vw) (k now : Nat) (l : List Int) (i : Nat) : (pickS k L now l i).map vw = (pickS k L2 now l i).map vw := by
 unfold pickS
 rw [List.map_set, List.map_set, cv_pickL h]
 refine congrArg _ ?_
 show ((gB _ _).w, (gB _ _).sh, (gB L _).act + 1, (gB _ _).up, alB (gB L _).b now) = ((gB _ _).w, (gB _ _).sh, (gB L2 _).act + 1, (gB _ _).up, alB (gB L2 _).b now)
 have hp := cv_pickL h k l
 rw [cv_w hp, cv_sh hp, cv_up hp, cv_act h, cv_b h]
theorem cv_doneS (h : L.map vw = L2.map vw) (now j : Nat) (gn : Int) (good : Bool) : (doneS L now j gn good).map vw = (doneS L2 now j gn good).map vw := by
 unfold doneS
 rw [List.map_set, List.map_set, h]
 refine congrArg _ ?_
 show ((gB _ _).w, (gB _ _).sh, (gB L _).act - 1, (gB _ _).up, dnK (gB L _).b now gn good) = ((gB _ _).w, (gB _ _).sh, (gB L2 _).act - 1, (gB _ _).up, dnK (gB L2 _).b now gn good)
 rw [cv_w h, cv_sh h, cv_up h, cv_act h, cv_b h]
end
structure BS where
 k : Nat
 V : List Vw
 nx : Nat
 gv : Nat
 last : Nat
 C : List Cl
structure BIs (N : Nat) (m : Bm) (s : BS) : Prop where
 is : BalIs N m s.C
 k : m.k = s.k
 V : m.L.map vw = s.V
 nx : m.nx = s.nx
 gv : m.gv = s.gv
 last : m.last = s.last
abbrev BS.cand (s : BS) (now : Nat) : List Int := Go.Proofs.YtelmlkdibcdebaaGreat.cand (un s.V) now
abbrev BS.pickI (s : BS) (key : ByteArray) (now : Nat) : Int := Go.Proofs.YtelmlkdibcdebaaGreat.pickI s.k (un s.V) s.nx key (s.cand now)
def BS.pick (s : BS) (key : ByteArray) (now : Nat) : BS :=
 { s with V := (pickS s.k (un s.V) now (s.cand now) (s.pickI key now).toNat).map vw, nx := pickN s.k s.V.length s.nx (s.cand now), gv := s.gv + 1, last := now, C := (((s.gv + 1 : Nat) : Int), (s.pickI key now, (alB (gB (un s.V) (s.pickI key now)).b now).gen)) :: s.C }
def BS.done (s : BS) (now : Nat) (n : Int) (j : Nat) (gn : Int) (good : Bool) : BS := { s with V := (doneS (un s.V) now j gn good).map vw, last := now, C := delL s.C n }
def bs0 (k : Nat) (W : List Int) (limit : Int) (op : Nat) : BS := ⟨k, W.map (fun w => (w, 0, 0, true, newB limit 1 op)), 0, 0, 0, []⟩
theorem BIs.un {N : Nat} {m : Bm} {s : BS} (h : BIs N m s) : m.L.map vw = (Go.Proofs.YtelmlkdibcdebaaGreat.un s.V).map vw := by rw [vw_un]; exact h.V
theorem BIs.len {N : Nat} {m : Bm} {s : BS} (h : BIs N m s) : m.n = s.V.length := by rw [← h.V, List.length_map]; exact h.is.hn.symm
theorem BIs.cand {N : Nat} {m : Bm} {s : BS} (h : BIs N m s) (now : Nat) : Go.Proofs.YtelmlkdibcdebaaGreat.cand m.L now = s.cand now := cv_cand h.un now
theorem BIs.pickI {N : Nat} {m : Bm} {s : BS} (h : BIs N m s) (key : ByteArray) (now : Nat) : Go.Proofs.YtelmlkdibcdebaaGreat.pickI m.k m.L m.nx key (Go.Proofs.YtelmlkdibcdebaaGreat.cand m.L now) = s.pickI key now := by
 rw [h.cand, h.k, h.nx, cv_pickI h.un]
theorem BIs.le {N N2 : Nat} {m : Bm} {s : BS} (h : BIs N m s) (hN : N ≤ N2) : BIs N2 m s := ⟨h.is.le hN, h.k, h.V, h.nx, h.gv, h.last⟩
theorem bp_ok {N : Nat} {m : Bm} {s : BS} (h : BIs N m s) (hN : N ≤ 9000) (now : Nat) (key : ByteArray) (hk : key.size ≤ 64) (h1 : s.last ≤ now) (h2 : now ≤ 18446744073709551614) (hne : s.cand now ≠ []) : Spec Tryz.prog 60 [ptrB m.p, .int .u64 (now : Int), .string key] (balH m)
  (fun r H' => ∃ m', r = .tuple #[.agg #[.int .i64 (s.pickI key now), .int .i64 ((s.gv + 1 : Nat) : Int)], .int .i64 0] ∧ H' = balH m' ∧ m'.p = m.p ∧ BIs (N + 1) m' (s.pick key now)) := by
 have hne' : Go.Proofs.YtelmlkdibcdebaaGreat.cand m.L now ≠ [] := by rw [h.cand]; exact hne
 obtain ⟨i, x, hi, hx, _, hr⟩ := cand_mem (pickI_mem m.k m.L m.nx key hne')
 have hlast := h.last
 refine (bpick_raw m N s.C h.is hN now key hk (by omega) h2 i x hx hr hne' hi).mono ?_
 rintro r H' ⟨es', mc', hr', hM, hH⟩
 have hpi : s.pickI key now = (i : Int) := by rw [← h.pickI]; exact hi
 have hb := h.is.pick hN (by omega) h2 hx hr hne' (mc := mc') hM
 refine ⟨_, ?_, hH, rfl, ?_⟩
 ·rw [hr', hpi, h.gv]
 ·have hC : (s.pick key now).C = (((m.gv + 1 : Nat) : Int), ((i : Int), (alB x.b now).gen)) :: s.C := by
   show (((s.gv + 1 : Nat) : Int), (s.pickI key now, (alB (gB (Go.Proofs.YtelmlkdibcdebaaGreat.un s.V) (s.pickI key now)).b now).gen)) :: s.C = _
   rw [hpi, ← cv_b h.un, gB_at hx, h.gv]
  refine ⟨by rw [hC]; exact hb, h.k, ?_, ?_, ?_, rfl⟩
  ·show (pickS m.k m.L now (Go.Proofs.YtelmlkdibcdebaaGreat.cand m.L now) i).map vw = (pickS s.k (Go.Proofs.YtelmlkdibcdebaaGreat.un s.V) now (s.cand now) (s.pickI key now).toNat).map vw
   rw [hpi, Int.toNat_natCast, h.cand, h.k, cv_pickS h.un]
  ·show pickN m.k m.n m.nx (Go.Proofs.YtelmlkdibcdebaaGreat.cand m.L now) = pickN s.k s.V.length s.nx (s.cand now)
   rw [h.cand, h.k, h.nx, h.len]
  ·show m.gv + 1 = s.gv + 1
   rw [h.gv]
theorem bpn_ok {N : Nat} {m : Bm} {s : BS} (h : BIs N m s) (hN : N ≤ 9000) (now : Nat) (key : ByteArray) (hk : key.size ≤ 64) (h1 : s.last ≤ now) (h2 : now ≤ 18446744073709551614) (hne : s.cand now = []) : Spec Tryz.prog 60 [ptrB m.p, .int .u64 (now : Int), .string key] (balH m)
  (fun r H' => r = .tuple #[.agg #[.int .i64 0, .int .i64 0], .int .i64 9] ∧ H' = balH m) := by
 have hlast := h.last
 exact bpick_none m N s.C h.is hN now key hk (by omega) h2 (by rw [h.cand]; exact hne)
theorem bd_ok {N : Nat} {m : Bm} {s : BS} (h : BIs N m s) (hN : N ≤ 9000) (now : Nat) (n : Int) (good : Bool) (h1 : s.last ≤ now) (h2 : now ≤ 18446744073709551614) (j : Nat) (gn : Int) (hc : (n, ((j : Int), gn)) ∈ s.C) :
  Spec Tryz.prog 38 [ptrB m.p, .int .u64 (now : Int), .int .i64 n, .bool good] (balH m) (fun r H' => ∃ m', r = .int .i64 0 ∧ H' = balH m' ∧ m'.p = m.p ∧ BIs (N + 1) m' (s.done now n j gn good)) := by
 have hlast := h.last
 have hbk := h.is.bk _ hc
 have hhn := h.is.hn
 obtain ⟨x, hx⟩ := getE (T := m.L) (i := j) (by dsimp only at hbk; omega)
 have hgn := h.is.gn _ hc
 refine (bdone_raw m N s.C h.is hN now n good (by omega) h2 j gn x hx hc ⟨hgn.1, hgn.2 x (by dsimp only; rw [Int.toNat_natCast]; exact hx)⟩).mono ?_
 rintro r H' ⟨es', mc', hr', hM, hH⟩
 exact ⟨_, hr', hH, rfl, h.is.done hN (by omega) h2 hx (mc := mc') hM, h.k, cv_doneS h.un now j gn good, h.nx, h.gv, rfl⟩
end
structure Plan where
 base : Nat
 most : Nat
 num : Int
 den : Int
 tries : Int
 jit : Int
 seed : Nat
def pl (p : Plan) : List Value := [.int .u64 (p.base : Int), .int .u64 (p.most : Int), .int .i64 p.num, .int .i64 p.den, .int .i64 p.tries, .int .i64 p.jit, .int .u32 (p.seed : Int)]
abbrev OkP (p : Plan) : Prop := 1 ≤ p.base ∧ p.base ≤ p.most ∧ p.most ≤ 4294967296 ∧ 1 ≤ p.den ∧ p.den ≤ p.num ∧ p.num ≤ 1000 ∧ 1 ≤ p.tries ∧ p.tries ≤ 100 ∧ 0 ≤ p.jit ∧ p.jit ≤ 100
theorem within_ok (n a b : Int) : Spec Tryz.prog 58 [.int .i64 n, .int .i64 a, .int .i64 b] [] (fun r H' => r = .bool (decide (a ≤ n ∧ n ≤ b)) ∧ H' = []) := by
 refine Spec.of (E := [(0, .int .i64 n), (1, .int .i64 a), (2, .int .i64 b)]) Tryz.func58 rfl (by kernel_rfl) Tryz.ntmps58 rfl rfl (fun w => ?_)
 refine WCr (WLa Z (WL_nil (WQ_code (WCr (WLa Z (WLa Z (WLa Z (WLa Z ?_))))))))
 refine WL_splitD (s := 10) Z (fun c1 => ?_) (fun c1 => ?_)
 ·refine WLa Z (WLa Z (WLa Z (WLa Z (WLa Z (WL_nil (WQ_code (WC_ret ?_)))))))
  refine WQ1 Z (by
    exact ⟨congrArg Value.bool (by rw [Bool.eq_iff_iff]; simp [] <;> omega), rfl⟩) pqZ
 ·refine WLa Z (WLa Z (WLa Z (WLa Z (WLa Z (WL_nil (WQ_code (WC_ret ?_)))))))
  refine WQ1 Z (by
    exact ⟨congrArg Value.bool (by rw [Bool.eq_iff_iff]; simp [] <;> omega), rfl⟩) pqZ
theorem valid_ok (p : Plan) : Spec Tryz.prog 27 [.agg (pl p).toArray] [] (fun r H' => r = .bool (decide (OkP p)) ∧ H' = []) := by
 refine Spec.of (E := [(0, .agg (pl p).toArray)]) Tryz.func27 rfl (by kernel_rfl) Tryz.ntmps27 rfl rfl (fun w => ?_)
 refine WCr (WLd Z (D_box (cs := [_, _, _, _, _, _, _]) Z Z Z) ?_)
 rintro _ _ ⟨b1, rfl, rfl⟩
 refine WLa Z (WL_nil (WQ_code (WCr (WLf Z fa28_0 (WLl Z sc25 mmZ Z (WLa Z (WLa Z ?_)))))))
 refine WL_splitD (s := 6) Z (fun c1 => ?_) (fun c1 => ?_)
 ·refine WLf Z fa28_1 (WLl Z sc25 mmZ Z (WLf Z fa28_0 (WLl Z sc25 mmZ Z (WLa Z (WLa Z (WLa Z ?_))))))
  refine WL_splitD (s := 13) Z (fun c2 => ?_) (fun c2 => ?_)
  ·refine WLf Z fa28_1 (WLl Z sc25 mmZ Z (WLa Z (WLa Z (WLa Z ?_))))
   refine WL_splitD (s := 18) Z (fun c3 => ?_) (fun c3 => ?_)
   ·refine WLf Z fa28_3 (WLl Z sc3 mmZ Z (WLq Z (within_ok _ _ _) Z pqZ ?_))
    refine WLa Z (WLa Z ?_)
    refine WL_splitD (s := 23) Z (fun c4 => ?_) (fun c4 => ?_)
    ·refine WLf Z fa28_2 (WLl Z sc3 mmZ Z (WLf Z fa28_3 (WLl Z sc3 mmZ Z (WLq Z (within_ok _ _ _) Z pqZ ?_))))
     refine WLa Z (WLa Z ?_)
     refine WL_splitD (s := 30) Z (fun c5 => ?_) (fun c5 => ?_)
     ·refine WLf Z fa28_4 (WLl Z sc3 mmZ Z (WLq Z (within_ok _ _ _) Z pqZ ?_))
      refine WLa Z (WLa Z ?_)
      refine WL_splitD (s := 35) Z (fun c6 => ?_) (fun c6 => ?_)
      ·refine WLf Z fa28_5 (WLl Z sc3 mmZ Z (WLq Z (within_ok _ _ _) Z pqZ ?_))
       refine WLa Z (WLa Z (WL_nil (WQ_code (WC_ret ?_))))
       refine WQ1 Z (by
         exact ⟨congrArg Value.bool (by rw [Bool.eq_iff_iff]; simp [OkP] <;> omega), rfl⟩) pqZ
      ·refine WLa Z (WLa Z (WLa Z (WLa Z (WLa Z (WL_nil (WQ_code (WC_ret ?_)))))))
       refine WQ1 Z (by
         exact ⟨congrArg Value.bool (by rw [Bool.eq_iff_iff]; simp [OkP] <;> omega), rfl⟩) pqZ
     ·refine WLa Z (WLa Z (WLa Z (WLa Z (WLa Z (WLa Z (WLa Z (WLa Z (WLa Z (WLa Z (WL_nil (WQ_code (WC_ret ?_))))))))))))
      refine WQ1 Z (by
        exact ⟨congrArg Value.bool (by rw [Bool.eq_iff_iff]; simp [OkP] <;> omega), rfl⟩) pqZ
    ·refine WLa Z (WLa Z (WLa Z (WLa Z (WLa Z (WLa Z (WLa Z (WLa Z (WLa Z (WLa Z (WLa Z (WLa Z (WLa Z (WLa Z (WLa Z (WLa Z (WLa Z (WL_nil (WQ_code (WC_ret ?_)))))))))))))))))))
     refine WQ1 Z (by
       exact ⟨congrArg Value.bool (by rw [Bool.eq_iff_iff]; simp [OkP] <;> omega), rfl⟩) pqZ
   ·refine WLa Z (WLa Z (WLa Z (WLa Z (WLa Z (WLa Z (WLa Z (WLa Z (WLa Z (WLa Z (WLa Z (WLa Z (WLa Z (WLa Z (WLa Z (WLa Z (WLa Z (WLa Z (WLa Z (WLa Z (WLa Z (WLa Z (WL_nil (WQ_code (WC_ret ?_))))))))))))))))))))))))
    refine WQ1 Z (by
      exact ⟨congrArg Value.bool (by rw [Bool.eq_iff_iff]; simp [OkP] <;> omega), rfl⟩) pqZ
  ·refine WLa Z (WLa Z (WLa Z (WLa Z (WLa Z (WLa Z (WLa Z (WLa Z (WLa Z (WLa Z (WLa Z (WLa Z (WLa Z (WLa Z (WLa Z (WLa Z (WLa Z (WLa Z (WLa Z (WLa Z (WLa Z (WLa Z (WLa Z (WLa Z (WLa Z (WLa Z (WLa Z (WL_nil (WQ_code (WC_ret ?_)))))))))))))))))))))))))))))
   refine WQ1 Z (by
     exact ⟨congrArg Value.bool (by rw [Bool.eq_iff_iff]; simp [OkP] <;> omega), rfl⟩) pqZ
 ·refine WLa Z (WLa Z (WLa Z (WLa Z (WLa Z (WLa Z (WLa Z (WLa Z (WLa Z (WLa Z (WLa Z (WLa Z (WLa Z (WLa Z (WLa Z (WLa Z (WLa Z (WLa Z (WLa Z (WLa Z (WLa Z (WLa Z (WLa Z (WLa Z (WLa Z (WLa Z (WLa Z (WLa Z (WLa Z (WLa Z (WLa Z (WLa Z (WLa Z (WLa Z (WL_nil (WQ_code (WC_ret ?_))))))))))))))))))))))))))))))))))))
  refine WQ1 Z (by
    exact ⟨congrArg Value.bool (by rw [Bool.eq_iff_iff]; simp [OkP] <;> omega), rfl⟩) pqZ
structure Ss where
 num : Int
 key : ByteArray
 dl : Nat
 tr : Nat
 st : Int
 til : Nat
 cal : Int
 be : Int
 cn : Int
 p : Nat
abbrev encS9 (x : Ss) : List Value := [.int .i64 x.num, .string x.key, .int .u64 (x.dl : Int), .int .i64 (x.tr : Int), .int .i64 x.st, .int .u64 (x.til : Int), .int .i64 x.cal, .int .i64 x.be, .int .i64 x.cn]
abbrev ptrS (p : Nat) : Value := .pointer (some ⟨p, 0, none⟩)
abbrev seE (x : Ss) : Ent := ⟨some x.p, cl (encS9 x) 90⟩
def ssH (S : List Ss) : Heap := S.map seE
structure Xv where
 k : Int
 s : Int
 b : Int
 c : Int
 e : Int
abbrev encX (x : Xv) : List Value := [.int .i64 x.k, .int .i64 x.s, .int .i64 x.b, .int .i64 x.c, .int .i64 x.e]
abbrev xvV (x : Xv) : Value := .agg #[.int .i64 x.k, .int .i64 x.s, .int .i64 x.b, .int .i64 x.c, .int .i64 x.e]
theorem encX5 (x : Xv) : (encX x).length = 5 := rfl
structure PX where
 b : BS
 P : List PS
 pl : Plan
 now : Nat
 S : List Ss
 E : List Xv
structure XM where
 p : Nat
 bm : Bm
 pm : List PM
 ob : Option Nat
 oc : Nat
 otl : List Value
 sb : Nat
 ses : Array MapEntry
 smc : Nat
 eb : Option Nat
 ek : Nat
 ec : Nat
 epre : List Value
 etl : List Value
abbrev plL (p : Plan) : List Value := [.int .u64 (p.base : Int), .int .u64 (p.most : Int), .int .i64 p.num, .int .i64 p.den, .int .i64 p.tries, .int .i64 p.jit, .int .u32 (p.seed : Int)]
abbrev pxC (m : XM) (x : PX) : List Value := [ptrB m.bm.p, slV m.ob x.P.length m.oc, .int .u64 (x.pl.base : Int), .int .u64 (x.pl.most : Int), .int .i64 x.pl.num, .int .i64 x.pl.den, .int .i64 x.pl.tries, .int .i64 x.pl.jit, .int .u32 (x.pl.seed : Int), .int .u64 (x.now : Int), .map (some m.sb), sVal m.eb m.ek x.E.length m.ec]
abbrev pxE (m : XM) (x : PX) : Ent := ⟨some m.p, cl (pxC m x) 68⟩
abbrev pxQ (m : XM) : Ent := ⟨m.ob, cl (m.pm.flatMap (fun q => [ptrP q.p]) ++ m.otl) 79⟩
abbrev pxM (m : XM) : Ent := ⟨some m.sb, .map m.ses m.smc⟩
abbrev pxV (m : XM) (x : PX) : Ent := ⟨m.eb, cl (m.epre ++ (x.E.flatMap encX ++ m.etl)) 63⟩
def poolsH : List PM → List PS → Heap
 | m :: ms, s :: ss => poH m s ++ poolsH ms ss
 | _, _ => []
theorem pools_at : ∀ {ms : List PM} {ss : List PS} {i : Nat} {mi : PM} {si : PS}, ms[i]? = some mi → ss[i]? = some si → ∃ R, (poolsH ms ss).Perm (poH mi si ++ R) ∧ ∀ m' s', (poolsH (ms.set i m') (ss.set i s')).Perm (poH m' s' ++ R)
 | [], _, _, _, _, h, _ => by simp at h
 | _ :: _, [], _, _, _, _, h => by simp at h
 | m :: ms, s :: ss, 0, mi, si, h1, h2 => by
  simp at h1 h2
  subst h1; subst h2
  exact ⟨poolsH ms ss, List.Perm.refl _, fun m' s' => List.Perm.refl _⟩
 | m :: ms, s :: ss, i + 1, mi, si, h1, h2 => by
  obtain ⟨R, hR, hs⟩ := pools_at (ms := ms) (ss := ss) (i := i) (by simpa using h1) (by simpa using h2)
  refine ⟨poH m s ++ R, ?_, fun m' s' => ?_⟩
  ·show (poH m s ++ poolsH ms ss).Perm _
   refine (hR.append_left _).trans ?_
   rw [← List.append_assoc, ← List.append_assoc]
   exact List.perm_append_comm.append_right _
  ·show (poH m s ++ poolsH (ms.set i m') (ss.set i s')).Perm _
   refine ((hs m' s').append_left _).trans ?_
   rw [← List.append_assoc, ← List.append_assoc]
   exact List.perm_append_comm.append_right _
theorem Spec.pool {f : FuncId} {args : List Value} {ms : List PM} {ss : List PS} {i : Nat} {mi : PM} {si : PS} (h1 : ms[i]? = some mi) (h2 : ss[i]? = some si) {Q : Value → PM → PS → Prop}
  (h : Spec Tryz.prog f args (poH mi si) (fun r H' => ∃ m' s', H' = poH m' s' ∧ Q r m' s')) : Spec Tryz.prog f args (poolsH ms ss) (fun r H' => ∃ m' s', H' = poolsH (ms.set i m') (ss.set i s') ∧ Q r m' s') := by
 obtain ⟨R, hR, hs⟩ := pools_at h1 h2
 refine Spec.re (((h.fr R).perm hR).mono ?_)
 rintro r H' ⟨H1, ⟨m', s', rfl, hq⟩, rfl⟩
 exact ⟨_, (hs m' s').symm, m', s', rfl, hq⟩
theorem ssH_split (A B : List Ss) (x : Ss) : (ssH (A ++ x :: B)).Perm (seE x :: ssH (A ++ B)) := by
 unfold ssH
 rw [List.map_append, List.map_cons, List.map_append]
 exact List.perm_middle
def PX.tell (x : PX) (v : Xv) : PX := { x with E := x.E ++ [v] }
def PX.may (x : PX) (right : Bool) (now : Nat) : Int := if right = false then 2 else if now < x.now ∨ now = 18446744073709551615 then 3 else 0
abbrev sesM (S : List Ss) : List (Int × Nat) := S.map fun s => (s.num, s.p)
abbrev XEO (m : XM) (x : PX) : Prop := OwnS m.eb m.ek x.E.length m.ec 5 m.epre (x.E.flatMap encX) m.etl
structure PXIs (N : Nat) (m : XM) (x : PX) : Prop where
 bal : BIs N m.bm x.b
 len : m.pm.length = x.P.length
 po : ∀ (i : Nat) (mi : PM) (si : PS), m.pm[i]? = some mi → x.P[i]? = some si → PIs mi si
 oq : Own m.ob x.P.length m.oc 1 (m.pm.flatMap (fun q => [ptrP q.p])) m.otl
 mp : Mk ekW ptrS m.ses m.smc (sesM x.S)
 eO : XEO m x
 ok : OkP x.pl
 seed : x.pl.seed < 4294967296
 num : ∀ s ∈ x.S, 0 ≤ s.num ∧ s.num ≤ 100
 vl : x.b.V.length = x.P.length
 now : x.now ≤ 18446744073709551614
theorem xright_ok (n : Int) : Spec Tryz.prog 31 [.int .i64 n] [] (fun r H' => r = .bool (decide (0 ≤ n ∧ n ≤ 100)) ∧ H' = []) := by
 refine Spec.of (E := [(0, .int .i64 n)]) Tryz.func31 rfl (by kernel_rfl) Tryz.ntmps31 rfl rfl (fun w => ?_)
 refine WCr (WLa Z (WL_nil (WQ_code (WCr (WLa Z (WLa Z (WLa Z ?_)))))))
 refine WL_splitD (s := 5) Z (fun c1 => ?_) (fun c1 => ?_)
 ·refine WLa Z (WLa Z (WLa Z (WLa Z (WL_nil (WQ_code (WC_ret ?_))))))
  refine WQ1 Z (by
    exact ⟨congrArg Value.bool (by first | exact decide_eq_decide.2 (by omega) | exact (decide_eq_false (by omega)).symm), rfl⟩) pqZ
 ·refine WLa Z (WLa Z (WLa Z (WLa Z (WL_nil (WQ_code (WC_ret ?_))))))
  refine WQ1 Z (by
    exact ⟨congrArg Value.bool (by first | exact decide_eq_decide.2 (by omega) | exact (decide_eq_false (by omega)).symm), rfl⟩) pqZ
theorem xmay_ok (m : XM) (x : PX) (right : Bool) (now : Nat) : Spec Tryz.prog 30 [ptrP m.p, .bool right, .int .u64 (now : Int)] [pxE m x] (fun r H' => r = .int .i64 (x.may right now) ∧ H' = [pxE m x]) := by
 refine Spec.of (E := [(0, ptrP m.p), (1, .bool right), (2, .int .u64 (now : Int))]) Tryz.func30 rfl (by kernel_rfl) Tryz.ntmps30 rfl rfl (fun w => ?_)
 refine WCr (WLa Z (WL_nil (WQ_code (WC_seq (WC_block (WCr (WLa Z (WLv Z (R_ptrEqNil Z Tryz.underlying33 Z) ?_))))))))
 refine WLa Z (WLa Z (WLa Z (WLf Z fa68_4 (WLl Z sc66 mmZ Z (WLv Z (R_mapEqNil Z Tryz.underlying66 Z) ?_)))))
 refine WLa Z (WLa Z (WL_nil (WQ_code (WC_F Z (WCr (WLa Z (WLa Z (WLa Z (WL_nil (WQ_code ?_))))))))))
 refine WC_if Z (fun c1 => ?_) (fun c1 => ?_)
 ·have hr : right = false := by simpa using c1
  refine WCr (WLa Z (WL_nil (WQ_code (WC_ret ?_))))
  refine WQ1 Z (by
    first | exact ⟨congrArg (Value.int .i64) (by unfold PX.may; rw [if_pos hr]), rfl⟩ | exact ⟨congrArg (Value.int .i64) (by unfold PX.may; rw [if_neg (by rw [hr]; decide), if_pos (by omega)]), rfl⟩ | exact ⟨congrArg (Value.int .i64) (by unfold PX.may; rw [if_neg (by rw [hr]; decide), if_neg (by omega)]), rfl⟩) pqZ
 ·have hr : right = true := by simpa using c1
  refine WCr (WLa Z (WLa Z (WLa Z (WLf Z fa68_3 (WLl Z sc25 mmZ Z (WLa Z (WLa Z ?_)))))))
  refine WL_splitD (s := 27) Z (fun c2 => ?_) (fun c2 => ?_)
  ·refine WLa Z (WLa Z (WLa Z (WLa Z (WL_nil (WQ_code (WC_T Z (WCr (WLa Z (WL_nil (WQ_code (WC_ret ?_)))))))))))
   refine WQ1 Z (by
     first | exact ⟨congrArg (Value.int .i64) (by unfold PX.may; rw [if_pos hr]), rfl⟩ | exact ⟨congrArg (Value.int .i64) (by unfold PX.may; rw [if_neg (by rw [hr]; decide), if_pos (by omega)]), rfl⟩ | exact ⟨congrArg (Value.int .i64) (by unfold PX.may; rw [if_neg (by rw [hr]; decide), if_neg (by omega)]), rfl⟩) pqZ
  ·refine WLa Z (WLa Z (WLa Z (WLa Z (WL_nil (WQ_code ?_)))))
   refine WC_dec Z (fun c3 => ?_) (fun c3 => ?_)
   ·refine WCr (WLa Z (WL_nil (WQ_code (WC_ret ?_))))
    refine WQ1 Z (by
      first | exact ⟨congrArg (Value.int .i64) (by unfold PX.may; rw [if_pos hr]), rfl⟩ | exact ⟨congrArg (Value.int .i64) (by unfold PX.may; rw [if_neg (by rw [hr]; decide), if_pos (by omega)]), rfl⟩ | exact ⟨congrArg (Value.int .i64) (by unfold PX.may; rw [if_neg (by rw [hr]; decide), if_neg (by omega)]), rfl⟩) pqZ
   ·refine WC_skip (WQ_code (WCr (WLa Z (WL_nil (WQ_code (WC_ret ?_))))))
    refine WQ1 Z (by
      first | exact ⟨congrArg (Value.int .i64) (by unfold PX.may; rw [if_pos hr]), rfl⟩ | exact ⟨congrArg (Value.int .i64) (by unfold PX.may; rw [if_neg (by rw [hr]; decide), if_pos (by omega)]), rfl⟩ | exact ⟨congrArg (Value.int .i64) (by unfold PX.may; rw [if_neg (by rw [hr]; decide), if_neg (by omega)]), rfl⟩) pqZ
theorem xfull_ok (m : XM) (x : PX) (hE : x.E.length ≤ 10000) : Spec Tryz.prog 32 [ptrP m.p] [pxE m x] (fun r H' => r = .int .i64 0 ∧ H' = [pxE m x]) := by
 refine Spec.of (E := [(0, ptrP m.p)]) Tryz.func32 rfl (by kernel_rfl) Tryz.ntmps32 rfl rfl (fun w => ?_)
 refine WCr (WLa Z (WL_nil (WQ_code (WC_seq (WCr (WLa Z (WLa Z (WLf Z fa68_5 (WLl Z sc58 mmZ Z (WLv Z (R_lenS Z Tryz.underlying58 Z) ?_))))))))))
 refine WLa Z (WL_nil (WQ_code (WC_dF Z (by omega) ?_)))
 refine WC_skip (WQ_code (WCr (WLa Z (WL_nil (WQ_code (WC_ret ?_))))))
 refine WQ1 Z (by
   exact ⟨rfl, rfl⟩) pqZ
theorem xtell_ok (m : XM) (x : PX) (hO : XEO m x) (hE : x.E.length ≤ 1000000) (v : Xv) : Spec Tryz.prog 65 [ptrP m.p, xvV v] [pxE m x, pxV m x] (fun r H' => ∃ eb ek ec epre etl, r = .tuple #[] ∧ H' = [pxE { m with eb := eb, ek := ek, ec := ec, epre := epre, etl := etl } (x.tell v), pxV { m with eb := eb, ek := ek, ec := ec, epre := epre, etl := etl } (x.tell v)] ∧ XEO { m with eb := eb, ek := ek, ec := ec, epre := epre, etl := etl } (x.tell v)) := by
 refine Spec.of (E := [(0, ptrP m.p), (1, xvV v)]) Tryz.func65 rfl (by kernel_rfl) Tryz.ntmps65 rfl rfl (fun w => ?_)
 refine WCr (WLd Z (D_box (cs := [_, _, _, _, _]) Z Z Z) ?_)
 rintro _ _ ⟨b1, rfl, rfl⟩
 refine WL_nil (WQ_code (WC_drawY (pxE m x :: [pxV m x]) [(m.p, 11, sVal m.eb m.ek x.E.length m.ec)] [10] [(0, false), (1, false), (2, false), (3, false), (4, true)] [(5, true), (6, false), (7, false), (8, true), (9, true), (10, false)] followsMixed Z Z (by kernel_rfl) pqZ (.cons mmZ Z .nil) ?_))
 refine WYE_val Z Z Z Z (R_move Z Z) ?_
 refine WYE_val Z Z Z Z (R_move Z Z) ?_
 refine WYE_val Z Z Z Z (R_nilCheck Z Z) ?_
 refine WYE_val Z Z Z Z (R_fieldAddr Z fa68_5 Z) ?_
 refine WYE_early Z Z Z Z Z sc58 Z (by repeat (first | exact List.Mem.head _ | refine List.Mem.tail _ ?_)) ?_
 refine WYE_rest ?_
 refine WY_val Z Z Z Z (R_loadA (vs := [_, _, _, _, _]) Z ag63 Z mmZ Z atZ) ?_
 refine WY_do Z Z Z Z (D_buildSlice Z si58 Z Z Z) ?_
 rintro _ _ ⟨b2, rfl, rfl⟩
 refine ⟨⟨_, pqZ⟩, .inr (.cons mmZ rfl .nil), ?_⟩
 refine WY_do Z Z Z Z (D_appendS Z si58 Z hO plZ Z mmZ (atZ : At _ 0 [_, _, _, _, _]) Z Z (by decide) (by omega) (by omega)) ?_
 rintro _ _ ⟨obS, kS, cS, preS, tlS, rfl, ownS, rfl⟩
 refine ⟨⟨_, pqZ⟩, .inr (.cons mmZ rfl .nil), ?_⟩
 refine WY_val Z Z Z Z (R_nilCheck Z Z) ?_
 refine WY_val Z Z Z Z (R_fieldAddr Z fa68_5 Z) ?_
 refine WY_do0 Z Z Z (D_store (vs := [_]) Z Tryz.sizeOf58 Z Z Z Z Z plZ (nb Z)) ?_
 rintro _ _ rfl
 refine ⟨⟨_, pqZ⟩, .inl rfl, ?_⟩
 refine WY_nil ?_
 rw [show x.E.flatMap encX ++ [Value.int .i64 v.k, .int .i64 v.s, .int .i64 v.b, .int .i64 v.c, .int .i64 v.e] = (x.tell v).E.flatMap encX from by simp [PX.tell], show x.E.length + 1 = (x.tell v).E.length from by simp [PX.tell]] at ownS ⊢
 refine WQ2 Z (by
   exact ⟨obS, kS, cS, preS, tlS, rfl, rfl, ownS⟩) pqZ
theorem xact_ok (m : XM) (x : PX) (hO : XEO m x) (hE : x.E.length ≤ 1000000) (s : Ss) (c : Int) : Spec Tryz.prog 36 [ptrP m.p, ptrS s.p, .int .i64 c] [pxE m x, seE s, pxV m x] (fun r H' => ∃ eb ek ec epre etl, r = .tuple #[] ∧ H' = [pxE { m with eb := eb, ek := ek, ec := ec, epre := epre, etl := etl } (x.tell ⟨1, s.num, s.be, c, 0⟩), seE { s with st := 4, cn := c }, pxV { m with eb := eb, ek := ek, ec := ec, epre := epre, etl := etl } (x.tell ⟨1, s.num, s.be, c, 0⟩)] ∧ XEO { m with eb := eb, ek := ek, ec := ec, epre := epre, etl := etl } (x.tell ⟨1, s.num, s.be, c, 0⟩)) := by
 refine Spec.of (E := [(0, ptrP m.p), (1, ptrS s.p), (2, .int .i64 c)]) Tryz.func36 rfl (by kernel_rfl) Tryz.ntmps36 rfl rfl (fun w => ?_)
 refine WCr (WLa Z (WLa Z (WLa Z (WLa Z (WLf Z fa90_4 (WLs (vs := [_]) Z Tryz.sizeOf49 Z Z plZ (nb Z) ?_))))))
 refine WLa Z (WLf Z fa90_8 (WLs (vs := [_]) Z Tryz.sizeOf3 Z Z plZ (nb Z) ?_))
 refine WL_nil (WQ_code (WC_drawR (pxE m x :: [pxV m x]) [(0, true), (1, true), (2, true), (3, true), (4, true), (5, true), (6, true), (7, true), (8, true), (9, true), (10, true), (11, false)] followsMixed Z Z (by kernel_rfl) pqZ ?_))
 refine WMa Z (WMa Z (WMa Z (WMf Z fa90_0 (WMl Z sc3 mmZ Z (WMa Z (WMa Z (WMf Z fa90_7 (WMl Z sc3 mmZ Z (WMa Z (WMv Z (R_build Z zv63 pl63 Z Z) ?_))))))))))
 refine WMd Z (D_call (xtell_ok m x hO hE ⟨1, s.num, s.be, c, 0⟩) Z Z Z Z pqZ) ?_
 rintro _ _ ⟨_, ⟨eb1, ek1, ec1, epre1, etl1, rfl, rfl, hO1⟩, rfl⟩
 refine ⟨⟨_, pqZ⟩, ?_⟩
 refine WM_nil ?_
 refine WQ2 Z (by
   exact ⟨eb1, ek1, ec1, epre1, etl1, rfl, rfl, hO1⟩) pqZ
theorem xdial_ok (m : XM) (x : PX) (hO : XEO m x) (hE : x.E.length ≤ 1000000) (s : Ss) (c : Int) : Spec Tryz.prog 62 [ptrP m.p, ptrS s.p, .int .i64 c] [pxE m x, seE s, pxV m x] (fun r H' => ∃ eb ek ec epre etl, r = .tuple #[] ∧ H' = [pxE { m with eb := eb, ek := ek, ec := ec, epre := epre, etl := etl } (x.tell ⟨2, s.num, s.be, c, 0⟩), seE { s with st := 3, cn := c }, pxV { m with eb := eb, ek := ek, ec := ec, epre := epre, etl := etl } (x.tell ⟨2, s.num, s.be, c, 0⟩)] ∧ XEO { m with eb := eb, ek := ek, ec := ec, epre := epre, etl := etl } (x.tell ⟨2, s.num, s.be, c, 0⟩)) := by
 refine Spec.of (E := [(0, ptrP m.p), (1, ptrS s.p), (2, .int .i64 c)]) Tryz.func62 rfl (by kernel_rfl) Tryz.ntmps62 rfl rfl (fun w => ?_)
 refine WCr (WLa Z (WLa Z (WLa Z (WLa Z (WLf Z fa90_4 (WLs (vs := [_]) Z Tryz.sizeOf49 Z Z plZ (nb Z) ?_))))))
 refine WLa Z (WLf Z fa90_8 (WLs (vs := [_]) Z Tryz.sizeOf3 Z Z plZ (nb Z) ?_))
 refine WL_nil (WQ_code (WC_drawR (pxE m x :: [pxV m x]) [(0, true), (1, true), (2, true), (3, true), (4, true), (5, true), (6, true), (7, true), (8, true), (9, true), (10, true), (11, false)] followsMixed Z Z (by kernel_rfl) pqZ ?_))
 refine WMa Z (WMa Z (WMa Z (WMf Z fa90_0 (WMl Z sc3 mmZ Z (WMa Z (WMa Z (WMf Z fa90_7 (WMl Z sc3 mmZ Z (WMa Z (WMv Z (R_build Z zv63 pl63 Z Z) ?_))))))))))
 refine WMd Z (D_call (xtell_ok m x hO hE ⟨2, s.num, s.be, c, 0⟩) Z Z Z Z pqZ) ?_
 rintro _ _ ⟨_, ⟨eb1, ek1, ec1, epre1, etl1, rfl, rfl, hO1⟩, rfl⟩
 refine ⟨⟨_, pqZ⟩, ?_⟩
 refine WM_nil ?_
 refine WQ2 Z (by
   exact ⟨eb1, ek1, ec1, epre1, etl1, rfl, rfl, hO1⟩) pqZ
def nz0 (s k : Nat) : Nat := (s * 2654435761 + k) % 4294967296
def nz1 (s k : Nat) : Nat := nz0 s k ^^^ (nz0 s k / 65536)
def nz2 (s k : Nat) : Nat := nz1 s k * 2246822519 % 4294967296
def nz3 (s k : Nat) : Nat := nz2 s k ^^^ (nz2 s k / 8192)
def nz (s k : Nat) : Nat := nz3 s k % 65536
theorem nz0_lt (s k : Nat) : nz0 s k < 4294967296 := Nat.mod_lt _ (by omega)
theorem nz1_lt (s k : Nat) : nz1 s k < 4294967296 := by
 have := nz0_lt s k
 exact Nat.xor_lt_two_pow (n := 32) (by omega) (by omega)
theorem nz2_lt (s k : Nat) : nz2 s k < 4294967296 := Nat.mod_lt _ (by omega)
theorem nz3_lt (s k : Nat) : nz3 s k < 4294967296 := by
 have := nz2_lt s k
 exact Nat.xor_lt_two_pow (n := 32) (by omega) (by omega)
theorem nz_lt (s k : Nat) : nz s k < 65536 := Nat.mod_lt _ (by omega)
theorem noise_ok (s k : Nat) (hs : s < 4294967296) (hk : k < 1000000) : Spec Tryz.prog 162 [.int .u32 (s : Int), .int .i64 (k : Int)] [] (fun r H' => r = .int .u64 (nz s k : Nat) ∧ H' = []) := by
 have h0 := nz0_lt s k
 have h1 := nz1_lt s k
 have h2 := nz2_lt s k
 have h3 := nz3_lt s k
 have h4 := nz_lt s k
 refine Spec.of (E := [(0, .int .u32 (s : Int)), (1, .int .i64 (k : Int))]) Tryz.func162 rfl (by kernel_rfl) Tryz.ntmps162 rfl rfl (fun w => ?_)
 refine WCr (WLa Z (WL_nil (WQ_code (WCr (WLa Z (WLv Z (R_mulR (r := ((s * 2654435761 % 4294967296 : Nat) : Int)) Z Z Z (by rw [IntKind.wrap_u32]; omega)) ?_))))))
 refine WLa Z (WLv Z (R_conv (r := (k : Int)) Z Tryz.underlying3 Tryz.underlying26 Z (IntWalk.u32_in _ (by omega))) ?_)
 refine WLv Z (R_addR (r := ((nz0 s k : Nat) : Int)) Z Z Z (by rw [IntKind.wrap_u32, nz0]; omega)) ?_
 refine WLa Z (WL_nil (WQ_code (WCr (WLa Z (WLa Z (WLv Z (R_shrR (r := ((nz0 s k / 65536 : Nat) : Int)) Z Z Z (by omega) (shrN (s := 16) (b := 32) (by decide))) ?_))))))
 refine WLv Z (R_xorR (r := ((nz1 s k : Nat) : Int)) Z Z Z (xor32 h0 (by omega))) ?_
 refine WLa Z (WL_nil (WQ_code (WCr (WLa Z (WLv Z (R_mulR (r := ((nz2 s k : Nat) : Int)) Z Z Z (by rw [IntKind.wrap_u32, nz2]; omega)) ?_)))))
 refine WLa Z (WL_nil (WQ_code (WCr (WLa Z (WLa Z (WLv Z (R_shrR (r := ((nz2 s k / 8192 : Nat) : Int)) Z Z Z (by omega) (shrN (s := 13) (b := 32) (by decide))) ?_))))))
 refine WLv Z (R_xorR (r := ((nz3 s k : Nat) : Int)) Z Z Z (xor32 h2 (by omega))) ?_
 refine WLa Z (WL_nil (WQ_code (WCr (WLa Z (WLv Z (R_andR (r := ((nz s k : Nat) : Int)) Z Z Z ((and32 (b := 65535) h3 (by decide)).trans (congrArg Int.ofNat (Nat.and_two_pow_sub_one_eq_mod (nz3 s k) 16)))) ?_)))))
 refine WLv Z (R_conv (r := ((nz s k : Nat) : Int)) Z Tryz.underlying26 Tryz.underlying24 Z (w64 (by omega))) ?_
 refine WLa Z (WL_nil (WQ_code (WC_ret ?_)))
 refine WQ1 Z (by
   exact ⟨rfl, rfl⟩) pqZ
def fullN (p : Plan) : Nat → Nat
 | 0 => p.base
 | n + 1 => min p.most (fullN p n * p.num.toNat / p.den.toNat)
def lessN (p : Plan) (n : Nat) : Nat := fullN p n * p.jit.toNat * nz p.seed (n + 1) / 6553600
def delayN (p : Plan) : Nat → Nat
 | 0 => 0
 | n + 1 => fullN p n - lessN p n
theorem fullN_le {p : Plan} (hp : OkP p) : ∀ n, fullN p n ≤ 4294967296
 | 0 => Nat.le_trans hp.2.1 hp.2.2.1
 | n + 1 => by
  have := hp.2.2.1
  simp only [fullN]; omega
theorem full_num {p : Plan} (hp : OkP p) (n : Nat) : fullN p n * p.num.toNat ≤ 4294967296 * 1000 :=
 Nat.mul_le_mul (fullN_le hp n) (by obtain ⟨h1, h2, h3, h4, h5, h6, _⟩ := hp; omega)
theorem full_jit {p : Plan} (hp : OkP p) (n : Nat) : fullN p n * p.jit.toNat ≤ 4294967296 * 100 :=
 Nat.mul_le_mul (fullN_le hp n) (by obtain ⟨h1, h2, h3, h4, h5, h6, h7, h8, h9, h10⟩ := hp; omega)
theorem full_nz {p : Plan} (hp : OkP p) (n : Nat) : fullN p n * p.jit.toNat * nz p.seed (n + 1) ≤ 4294967296 * 100 * 65536 :=
 Nat.mul_le_mul (full_jit hp n) (Nat.le_of_lt (nz_lt _ _))
theorem lessN_le {p : Plan} (hp : OkP p) (n : Nat) : lessN p n ≤ fullN p n := by
 refine Nat.div_le_of_le_mul ?_
 have h1 : p.jit.toNat * nz p.seed (n + 1) ≤ 100 * 65536 := Nat.mul_le_mul (by obtain ⟨h1, h2, h3, h4, h5, h6, h7, h8, h9, h10⟩ := hp; omega) (Nat.le_of_lt (nz_lt _ _))
 rw [Nat.mul_assoc, Nat.mul_comm]
 exact Nat.mul_le_mul_right _ h1
theorem delayN_le {p : Plan} (hp : OkP p) : ∀ k, delayN p k ≤ 4294967296
 | 0 => Nat.zero_le _
 | n + 1 => Nat.le_trans (Nat.sub_le _ _) (fullN_le hp n)
def satN (a b : Nat) : Nat := min (a + b) 18446744073709551615
theorem vadd_ok (a b : Nat) (ha : a ≤ 18446744073709551615) (hb : b ≤ 18446744073709551615) : Spec Tryz.prog 70 [.int .u64 (a : Int), .int .u64 (b : Int)] [] (fun r H' => r = .int .u64 (satN a b : Nat) ∧ H' = []) := by
 refine Spec.of (E := [(0, .int .u64 (a : Int)), (1, .int .u64 (b : Int))]) Tryz.func70 rfl (by kernel_rfl) Tryz.ntmps70 rfl rfl (fun w => ?_)
 refine WCr (WLa Z (WL_nil (WQ_code (WC_seq (WCr (WLa Z (WLv Z (R_subR (r := (18446744073709551615 - a : Int)) Z Z Z (w64 ⟨by omega, by omega⟩)) ?_)))))))
 refine WLa Z (WLa Z (WL_nil (WQ_code ?_)))
 refine WC_dec Z (fun c1 => ?_) (fun c1 => ?_)
 ·refine WCr (WLa Z (WL_nil (WQ_code (WC_ret ?_))))
  refine WQ1 Z (by
    exact ⟨congrArg (Value.int .u64) (by first | rfl | (rw [satN]; omega)), rfl⟩) pqZ
 ·refine WC_skip (WQ_code (WCr (WLa Z (WLa Z (WLv Z (R_addR (r := ((satN a b : Nat) : Int)) Z Z Z (by rw [satN, w64 ⟨by omega, by omega⟩]; omega)) ?_)))))
  refine WLa Z (WL_nil (WQ_code (WC_ret ?_)))
  refine WQ1 Z (by
    exact ⟨congrArg (Value.int .u64) (by first | rfl | (rw [satN]; omega)), rfl⟩) pqZ
def encD (x : Nat × Nat) : List Value := [.int .i64 (x.1 : Int), .int .u64 (x.2 : Int)]
def dlTo (p : Plan) (n : Nat) : List (Nat × Nat) := (List.range n).map fun k => (k, delayN p k)
abbrev dl (p : Plan) : List (Nat × Nat) := dlTo p p.tries.toNat
theorem dlTo_len (p : Plan) (n : Nat) : (dlTo p n).length = n := by simp [dlTo]
theorem dlTo_succ (p : Plan) (n : Nat) : dlTo p (n + 1) = dlTo p n ++ [(n, delayN p n)] := by simp [dlTo, List.range_succ]
theorem dlTo_get (p : Plan) {n k : Nat} (h : k < n) : (dlTo p n)[k]? = some (k, delayN p k) := by simp [dlTo, h]
theorem dlTo_pre (p : Plan) {n k : Nat} (h : k ≤ n) : ∃ r, dlTo p n = dlTo p k ++ r := by
 refine ⟨((List.range (n - k)).map fun j => (k + j, delayN p (k + j))), ?_⟩
 obtain ⟨d, rfl⟩ : ∃ d, n = k + d := ⟨n - k, by omega⟩
 simp only [dlTo, List.range_add, List.map_append, List.map_map, Nat.add_sub_cancel_left]
 rfl
theorem dl_dec (p : Plan) {k : Nat} (h : k < p.tries.toNat) : ∃ r, dl p = dlTo p k ++ (k, delayN p k) :: r := by
 obtain ⟨r, hr⟩ := dlTo_pre p (show k + 1 ≤ p.tries.toNat from h)
 exact ⟨r, by rw [dl, hr, dlTo_succ, List.append_assoc]; rfl⟩
theorem dl_at {p : Plan} {n : Nat} {pre suf : List (Nat × Nat)} {x : Nat × Nat} (h : dlTo p n = pre ++ x :: suf) : x = (pre.length, delayN p pre.length) ∧ pre.length < n ∧ pre = dlTo p pre.length := by
 have hl : pre.length < n := by have := congrArg List.length h; rw [dlTo_len, List.length_append, List.length_cons] at this; omega
 have h1 : (dlTo p n)[pre.length]? = some x := by rw [h]; simp
 rw [dlTo_get p hl] at h1
 refine ⟨(Option.some.inj h1).symm, hl, ?_⟩
 obtain ⟨r, hr⟩ := dlTo_pre p (Nat.le_of_lt hl)
 rw [h] at hr
 exact (List.append_inj hr (by rw [dlTo_len])).1
theorem delays_ok (p : Plan) : Spec Tryz.prog 125 [.agg (pl p).toArray] [] (fun r H' => ∃ b, r = .func (.func 161) #[] #[.pointer (some ⟨b, 0, none⟩)] ∧ H' = [⟨some b, cl (pl p) 28⟩]) := by
 refine Spec.of (E := [(0, .agg (pl p).toArray)]) Tryz.func125 rfl (by kernel_rfl) Tryz.ntmps125 rfl rfl (fun w => ?_)
 refine WCr (WLd Z (D_box (cs := [_, _, _, _, _, _, _]) Z Z Z) ?_)
 rintro _ _ ⟨b1, rfl, rfl⟩
 refine WLa Z (WL_nil (WQ_code (WCr (WLv Z (R_makeFunc Z Z Z) ?_))))
 refine WLa Z (WL_nil (WQ_code (WC_ret ?_)))
 refine WQ1 Z (by
   exact ⟨_, rfl, rfl⟩) pqZ
theorem iter_ok (p : Plan) (hp : OkP p) (hs : p.seed < 4294967296) (bc : Nat) : IterSpec Tryz.prog 161 [.pointer (some ⟨bc, 0, none⟩)] [⟨some bc, cl (pl p) 28⟩] encD (dl p) := by
 intro l J Jx hY hj h0
 have hq := hp
 obtain ⟨q1, q2, q3, q4, q5, q6, q7, q8, q9, q10⟩ := hq
 obtain ⟨r0, hr0⟩ := dl_dec p (k := 0) (by omega)
 refine Spec.of (E := [(0, yieldV l), (1, .pointer (some ⟨bc, 0, none⟩))]) Tryz.func161 rfl (by kernel_rfl) Tryz.ntmps161 rfl rfl (fun w => ?_)
 refine WC_seq (WCr (WLa Z (WLd Z (D_yield (F := [_]) (hY [] (0, 0) r0 hj hr0 h0) Z Z Z Z (List.Perm.refl _)) ?_)))
 rintro _ _ ⟨hj2, (⟨rfl, hJ2⟩ | ⟨rfl, hJ2⟩), rfl⟩
 ·refine WLa Z (WL_nil (WQ_code (WC_F Z (WC_skip (WQ_code (WCr (WLf Z fa28_0 (WLl Z sc25 mmZ Z (WLa Z (WL_nil (WQ_code (WCr (WLa Z (WL_nil (WQ_code (WC_block (WC_loopH (G := Nat × Heap) [3, 4, 5, 11, 12, 13, 14, 15, 16, 17, 18, 19, 20, 21, 22, 23, 24, 25, 26, 27, 28, 29, 30, 31, 32, 33, 34, 35, 36, 37, 38, 39, 40, 41, 42, 43, 44, 45, 46] (fun g => g.1 < p.tries.toNat ∧ J (dlTo p (g.1 + 1)) g.2) (fun g => [(4, .int .i64 ((g.1 + 1 : Nat) : Int)), (3, .int .u64 ((fullN p g.1 : Nat) : Int))]) (fun g => ⟨some bc, cl (pl p) 28⟩ :: g.2) (fun g => p.tries.toNat - g.1) ((0, hj2)) (⟨by dsimp only; omega, hJ2⟩) leZ pqZ ?_)))))))))))))))))
  rintro g ⟨hk, hJ⟩
  obtain ⟨i, hj⟩ := g
  simp only at hk hJ ⊢
  have hfl := fullN_le hp i
  have hj9 := full_jit hp i
  have hn9 := full_num hp i
  have hz := full_nz hp i
  have hle := lessN_le hp i
  refine WC_seq (WCr (WLa Z (WLf Z fa28_4 (WLl Z sc3 mmZ Z (WLa Z (WL_nil (WQ_code ?_)))))))
  refine WC_dec Z (fun c1 => ?_) (fun c1 => ?_)
  ·refine WC_skip (WQ_code (WC_seq (WC_block (WC_seq (WC_draw _ [(0, true), (1, true), (2, true), (3, true), (4, true), (5, true), (6, true), (7, true), (8, false), (9, true), (10, true), (11, true)] followsMixed Z Z (by kernel_rfl) .all ?_)))))
   refine WMa Z (WMf Z fa28_5 (WMl Z sc3 mmZ Z (WMv Z (R_conv (r := ((p.jit.toNat : Nat) : Int)) Z Tryz.underlying3 Tryz.underlying24 Z (by rw [w64 (by omega)]; omega)) ?_)))
   refine WMv Z (R_mulR (r := ((fullN p i * p.jit.toNat : Nat) : Int)) Z Z Z (by rw [← Int.natCast_mul]; exact w64 ⟨by omega, by omega⟩)) ?_
   refine WMf Z fa28_6 (WMl Z sc26 mmZ Z (WMa Z (WMd Z (D_call (noise_ok p.seed (i + 1) hs (by omega)) Z Z Z Z pqZ) ?_)))
   rintro _ _ ⟨_, ⟨rfl, rfl⟩, rfl⟩
   refine ⟨⟨_, pqZ⟩, ?_⟩
   refine WMv Z (R_mulR (r := ((fullN p i * p.jit.toNat * nz p.seed (i + 1) : Nat) : Int)) Z Z Z (by rw [← Int.natCast_mul]; exact w64 ⟨by omega, by omega⟩)) ?_
   refine WMv Z (R_quoR (r := ((lessN p i : Nat) : Int)) Z Z Z (by omega) (quoN (b := 6553600) (by omega) (by omega))) ?_
   refine WMa Z (WM_nil (WQ_code (WC_seq (WCr (WLa Z (WLa Z (WLa Z (WLa Z (WLv Z (R_subR (r := ((delayN p (i + 1) : Nat) : Int)) Z Z Z (by rw [w64 ⟨by omega, by omega⟩]; simp only [delayN]; omega)) ?_)))))))))
   obtain ⟨r1, hdec⟩ := dl_dec p (k := i + 1) (by omega)
   refine WLd Z (D_yield (F := [_]) (hY (dlTo p (i + 1)) (i + 1, delayN p (i + 1)) r1 hj hdec hJ) Z Z Z Z (List.Perm.refl _)) ?_
   rintro _ _ ⟨hj2, (⟨rfl, hJ2⟩ | ⟨rfl, hJ2⟩), rfl⟩
   ·refine WLa Z (WL_nil (WQ_code (WC_F Z (WC_skip (WQ_code (WC_draw _ [(0, true), (1, true), (2, true), (3, true), (4, true), (5, true), (6, true), (7, true), (8, true), (9, true), (10, true), (11, true), (12, true)] followsMixed Z Z (by kernel_rfl) .all ?_))))))
    refine WMf Z fa28_1 (WMl Z sc25 mmZ Z (WMa Z (WMf Z fa28_2 (WMl Z sc3 mmZ Z (WMv Z (R_conv (r := ((p.num.toNat : Nat) : Int)) Z Tryz.underlying3 Tryz.underlying24 Z (by rw [w64 (by omega)]; omega)) ?_)))))
    refine WMv Z (R_mulR (r := ((fullN p i * p.num.toNat : Nat) : Int)) Z Z Z (by rw [← Int.natCast_mul]; exact w64 ⟨by omega, by omega⟩)) ?_
    refine WMf Z fa28_3 (WMl Z sc3 mmZ Z (WMv Z (R_conv (r := ((p.den.toNat : Nat) : Int)) Z Tryz.underlying3 Tryz.underlying24 Z (by rw [w64 (by omega)]; omega)) ?_))
    refine WMv Z (R_quoR (r := ((fullN p i * p.num.toNat / p.den.toNat : Nat) : Int)) Z Z Z (by omega) (quoN (by omega) (by omega))) ?_
    refine WMv Z (R_minR (r := ((fullN p (i + 1) : Nat) : Int)) Z Z Z (by simp only [fullN]; omega)) ?_
    refine WMa Z (WM_nil (WQ_code (WC_region (WLa Z (WLv Z (R_add Z Z Z (by omega)) ?_)))))
    refine WLa Z (WL_nil ?_)
    refine WQ_nextH (gg := (i, hj)) ((i + 1, hj2)) (⟨by dsimp only; omega, by (show J (dlTo p (i + 1 + 1)) _); rw [dlTo_succ p (i + 1)]; exact hJ2⟩) (by (show p.tries.toNat - (i + 1) < p.tries.toNat - i); omega) leZ (psZ) Z pqZ
   ·refine WLa Z (WL_nil (WQ_code (WC_T Z (WC_ret ?_))))
    refine WQ2 Z (by
      first | exact ⟨_, .inr ⟨_, hJ2⟩, rfl⟩ | (rw [show i + 1 = p.tries.toNat from (by omega)] at hJ; exact ⟨_, .inl hJ, rfl⟩)) pqZ
  ·refine WC_exit ?_
   refine WQ2 Z (by
     first | exact ⟨_, .inr ⟨_, hJ2⟩, rfl⟩ | (rw [show i + 1 = p.tries.toNat from (by omega)] at hJ; exact ⟨_, .inl hJ, rfl⟩)) pqZ
 ·refine WLa Z (WL_nil (WQ_code (WC_T Z (WC_ret ?_))))
  refine WQ2 Z (by
    first | exact ⟨_, .inr ⟨_, hJ2⟩, rfl⟩ | (rw [show i + 1 = p.tries.toNat from (by omega)] at hJ; exact ⟨_, .inl hJ, rfl⟩)) pqZ
theorem dly_in (p : Plan) (hp : OkP p) (hs : p.seed < 4294967296) (k : Nat) (hk : k < p.tries.toNat) : Spec Tryz.prog 69 [.agg (pl p).toArray, .int .i64 (k : Int)] [] (fun r H' => r = .tuple #[.int .u64 (delayN p k : Nat), .int .i64 0] ∧ H' = []) := by
 refine Spec.ofM (E := [(0, .agg (pl p).toArray), (1, .int .i64 (k : Int))]) Tryz.func69 rfl (by kernel_rfl) Tryz.ntmps69 rfl rfl (fun w => ?_)
 refine WCr (WLd Z (D_box (cs := [_, _, _, _, _, _, _]) Z Z Z) ?_)
 rintro _ _ ⟨b1, rfl, rfl⟩
 refine WLd Z (D_box (cs := [_]) Z Z Z) ?_
 rintro _ _ ⟨b2, rfl, rfl⟩
 refine WLd Z (D_alloc Z zv25) ?_
 rintro _ _ ⟨b3, rfl, rfl⟩
 refine WLd Z (D_alloc Z zv34) ?_
 rintro _ _ ⟨b4, rfl, rfl⟩
 refine WL_nil (WQ_code (WC_seq (WCr (WLv Z (R_loadA (vs := [_, _, _, _, _, _, _]) Z ag28 Z mmZ Z atZ) ?_))))
 refine WLq Z (valid_ok p) Z pqZ ?_
 refine WLv Z (R_notD Z Z) ?_
 refine WL_nil (WQ_code (WC_dF Z (by simp only [Decidable.not_not]; exact hp) ?_))
 refine WC_skip (WQ_code (WC_seq (WCr (WLv Z (R_loadA (vs := [_, _, _, _, _, _, _]) Z ag28 Z mmZ Z atZ) ?_))))
 refine WLc Z (delays_ok p) Z pqZ ?_
 rintro _ _ ⟨_, ⟨bc, rfl, rfl⟩, rfl⟩
 refine WL_nil (WQ_code (WC_block (WC_range (G := Unit) (GX := Unit) (iter_ok p hp hs bc) Z Z (fun _ => Z) Z (fun pre _ => pre.length ≤ k) (fun _ => [⟨some b2, cl [.int .i64 (k : Int)] 3⟩, ⟨some b3, cl [.int .u64 0] 25⟩, ⟨some b4, cl [.int .i64 0] 34⟩]) (fun c pre _ => c = .ret) (fun _ => [⟨some b3, cl [.int .u64 (delayN p k : Nat)] 25⟩, ⟨some b4, cl [.int .i64 0] 34⟩]) (()) (Nat.zero_le _) pqZ pqZ ?_ ?_ ?_)))
 ·intro l pre x suf gg hx hI w2
  obtain ⟨rfl, hlt, -⟩ := dl_at hx
  refine WCr (WLa Z (WL_nil (WQ_code (WC_region (WLa Z (WL_nil ?_))))))
  refine WQ_begin (fun w3 => ?_)
  refine WC_block (WCr (WLa Z (WLl Z sc3 mmZ Z (WLa Z (WL_nil (WQ_code ?_))))))
  refine WC_dec Z (fun c1 => ?_) (fun c1 => ?_)
  ·refine WCr (WLa Z (WLs (vs := [_]) Z Tryz.sizeOf25 Z Z plZ (nb Z) ?_))
   refine WLs (vs := [_]) Z Tryz.sizeOf34 Z Z plZ (nb Z) ?_
   refine WL_nil (WQ_code (WC_ret ?_))
   obtain rfl : pre.length = k := by omega
   refine WQ_rndR (()) (Z) pqZ
  ·refine WC_skip ?_
   refine WQ_rnd (()) ?_ pqZ
   exact (by simp only [List.length_append, List.length_singleton]; omega)
 ·intro dl gg hI
  rw [dlTo_len] at hI; omega
 ·intro dl c pre gx hIx
  obtain rfl := hIx
  refine WC_ret ?_
  refine WQ_retM Z plZ Z (.cons (.cell1 Z sc25 mmZ Z) (.cons (.cell1 Z sc34 mmZ Z) .nil)) Z (by
    exact ⟨rfl, rfl⟩) pqZ
theorem pnone_ok {m : PM} {s : PS} (h : PIs m s) : Spec Tryz.prog 106 [ptrP m.p] [poP m s] (fun r H' => r = .bool false ∧ H' = [poP m s]) := by
 refine Spec.of (E := [(0, ptrP m.p)]) Tryz.func106 rfl (by kernel_rfl) Tryz.ntmps106 rfl rfl (fun w => ?_)
 refine WCr (WLa Z (WL_nil (WQ_code (WCr (WLa Z (WLv Z (R_ptrEqNil Z Tryz.underlying79 Z) ?_))))))
 refine WLa Z (WLa Z (WLa Z (WLf Z fa136_6 (WLv Z (R_load (v := .map (some m.wm)) Z sc129 Z mmZ (pc_t h.cl Z 1)) ?_))))
 refine WLv Z (R_mapEqNil Z Tryz.underlying129 Z) ?_
 refine WL_set (s := 10) (v := .bool false) Z (by rfl) ?_
 refine WLa Z (WLa Z (WL_nil (WQ_code (WC_ret ?_))))
 refine WQ1 Z (by
   exact ⟨rfl, rfl⟩) pqZ
theorem pmay_ok {m : PM} {s : PS} (h : PIs m s) (right : Bool) (now : Nat) : Spec Tryz.prog 75 [ptrP m.p, .bool right, .int .u64 (now : Int)] [poP m s] (fun r H' => r = .int .i64 (s.may right now) ∧ H' = [poP m s]) := by
 refine Spec.of (E := [(0, ptrP m.p), (1, .bool right), (2, .int .u64 (now : Int))]) Tryz.func75 rfl (by kernel_rfl) Tryz.ntmps75 rfl rfl (fun w => ?_)
 refine WCr (WLa Z (WL_nil (WQ_code (WC_seq (WC_block (WCr (WLa Z (WLq Z (pnone_ok h) Z pqZ ?_))))))))
 refine WLa Z (WL_nil (WQ_code (WC_F Z (WCr (WLa Z (WLa Z (WLa Z (WL_nil (WQ_code ?_)))))))))
 refine WC_if Z (fun c1 => ?_) (fun c1 => ?_)
 ·have hr : right = false := by simpa using c1
  refine WCr (WLa Z (WL_nil (WQ_code (WC_ret ?_))))
  refine WQ1 Z (by
    first | exact ⟨congrArg (Value.int .i64) (may_arg hr).symm, rfl⟩ | exact ⟨congrArg (Value.int .i64) (may_time hr (by omega)).symm, rfl⟩ | exact ⟨congrArg (Value.int .i64) (may_fine hr (by omega)).symm, rfl⟩) pqZ
 ·have hr : right = true := by simpa using c1
  refine WCr (WLa Z (WLa Z (WLa Z (WLf Z fa136_3 (WLl Z sc25 mmZ Z (WLa Z (WLa Z ?_)))))))
  refine WL_splitD (s := 20) Z (fun c2 => ?_) (fun c2 => ?_)
  ·have hb := c2
   refine WLa Z (WLa Z (WLa Z (WLa Z (WL_nil (WQ_code (WC_T Z (WCr (WLa Z (WL_nil (WQ_code (WC_ret ?_)))))))))))
   refine WQ1 Z (by
     first | exact ⟨congrArg (Value.int .i64) (may_arg hr).symm, rfl⟩ | exact ⟨congrArg (Value.int .i64) (may_time hr (by omega)).symm, rfl⟩ | exact ⟨congrArg (Value.int .i64) (may_fine hr (by omega)).symm, rfl⟩) pqZ
  ·have hb := c2
   refine WLa Z (WLa Z (WLa Z (WLa Z (WL_nil (WQ_code ?_)))))
   refine WC_dec Z (fun c3 => ?_) (fun c3 => ?_)
   ·have hn := c3
    refine WCr (WLa Z (WL_nil (WQ_code (WC_ret ?_))))
    refine WQ1 Z (by
      first | exact ⟨congrArg (Value.int .i64) (may_arg hr).symm, rfl⟩ | exact ⟨congrArg (Value.int .i64) (may_time hr (by omega)).symm, rfl⟩ | exact ⟨congrArg (Value.int .i64) (may_fine hr (by omega)).symm, rfl⟩) pqZ
   ·have hn := c3
    refine WC_skip (WQ_code (WCr (WLa Z (WL_nil (WQ_code (WC_ret ?_))))))
    refine WQ1 Z (by
      first | exact ⟨congrArg (Value.int .i64) (may_arg hr).symm, rfl⟩ | exact ⟨congrArg (Value.int .i64) (may_time hr (by omega)).symm, rfl⟩ | exact ⟨congrArg (Value.int .i64) (may_fine hr (by omega)).symm, rfl⟩) pqZ
theorem pfull_ok {m : PM} {s : PS} (h : PIs m s) (hE : s.E.length ≤ 10000) : Spec Tryz.prog 76 [ptrP m.p] [poP m s] (fun r H' => r = .int .i64 0 ∧ H' = [poP m s]) := by
 refine Spec.of (E := [(0, ptrP m.p)]) Tryz.func76 rfl (by kernel_rfl) Tryz.ntmps76 rfl rfl (fun w => ?_)
 refine WCr (WLa Z (WL_nil (WQ_code (WC_seq (WCr (WLa Z (WLa Z (WLf Z fa136_7 (WLv Z (R_load (v := sVal m.eb m.ek s.E.length m.ec) Z sc134 Z mmZ (pc_t h.cl Z 2)) ?_)))))))))
 refine WLv Z (R_lenS Z Tryz.underlying134 Z) ?_
 refine WLa Z (WL_nil (WQ_code (WC_dF Z (by omega) ?_)))
 refine WC_skip (WQ_code (WCr (WLa Z (WL_nil (WQ_code (WC_ret ?_))))))
 refine WQ1 Z (by
   exact ⟨rfl, rfl⟩) pqZ
theorem pall_ok {m : PM} {s : PS} (h : PIs m s) (t : Int) : Spec Tryz.prog 74 [ptrP m.p, .int .i64 t] [poP m s] (fun r H' => ∃ (o : Option Nat) (c : Nat) (tl : List Value), r = slV o (allI t s.C).length c ∧ Own o (allI t s.C).length c 1 (ivs (allI t s.C)) tl ∧ H' = [⟨o, cl (ivs (allI t s.C) ++ tl) 3⟩, poP m s]) := by
 refine Spec.of (E := [(0, ptrP m.p), (1, .int .i64 t)]) Tryz.func74 rfl (by kernel_rfl) Tryz.ntmps74 rfl rfl (fun w => ?_)
 refine WCr (WLa Z (WL_nil (WQ_code (WCr (WLa Z (WL_nil (WQ_code (WC_seq (WCr (WLa Z (WLa Z (WLf Z fa136_4 (WLv Z (R_loadA (vs := s.C.flatMap encC) Z ag133 Z mmZ (pc_len h.cl) (pc_at h.cl Z)) ?_)))))))))))))
 refine WLa Z (WL_nil (WQ_code (WC_block (WC_none 3 ?_))))
 refine WC_loopF (G := AllW) [5, 6, 7, 12, 13, 14, 15, 16, 17, 18, 19, 20, 21, 22, 23, 24] (fun y => y.i ≤ 64 ∧ y.l = allI t (s.C.take y.i) ∧ Own y.ob y.l.length y.c 1 (ivs y.l) y.tl) (fun y => [(12, .int .i64 (y.i : Int)), (5, slV y.ob y.l.length y.c)]) (fun y => [⟨y.ob, cl (ivs y.l ++ y.tl) 3⟩]) (fun y => 64 - y.i) (⟨0, [], none, 0, []⟩) (⟨Nat.zero_le _, Z, Own.empty 1⟩) leZ pqZ ?_
 rintro y ⟨hi, hl9, own9⟩
 refine WCr (WLa Z (WL_nil (WQ_code (WC_seq ?_))))
 refine WC_dec Z (fun c1 => ?_) (fun c1 => ?_)
 ·refine WC_skip (WQ_code (WC_seq (WC_block (WCr (WLa Z ?_)))))
  obtain ⟨x, hx⟩ := getE (T := s.C) (i := y.i) (by rw [h.cl]; omega)
  have hl64 : y.l.length ≤ 64 := by rw [hl9]; have := allI_len t (s.C.take y.i); rw [List.length_take] at this; omega
  refine WLv Z (R_indexArrA Z Tryz.underlying133 ag132 Z Z ⟨by omega, by omega⟩ Z (by have := fm_at encC3 hx (j := 0) (vs := encC x) atZ (by simp) []; rw [List.append_nil] at this; exact this)) ?_
  refine WLd Z (D_alloc Z zv132) ?_
  rintro _ _ ⟨b1, rfl, rfl⟩
  refine WLa Z (WLs (vs := [_, _, _]) Z Tryz.sizeOf132 Z Z plZ (nb Z) ?_)
  refine WL_nil (WQ_code (WCr (WLf Z fa132_0 (WLl Z sc130 mmZ Z (WLa Z (WLa Z (WL_nil (WQ_code ?_))))))))
  refine WC_dec Z (fun c2 => ?_) (fun c2 => ?_)
  ·have hc := c2
   have hnx : allI t (s.C.take (y.i + 1)) = allI t (s.C.take y.i) ++ [(y.i : Int)] := by rw [allI_next hx, if_pos hc]
   refine WC_region (WLa Z (WLa Z (WLd Z (D_buildSlice Z si23 Z Z Z) ?_)))
   rintro _ _ ⟨b2, rfl, rfl⟩
   refine WLd Z (D_append Z si23 Z (own9) plZ Z mmZ ((atZ : At _ 0 [_])) (Z) (Z) (by (omega)) (by (omega))) ?_
   rintro _ _ ⟨ob3, cap3, tl3, rfl, own3, rfl⟩
   have hiv : ivs y.l ++ [Value.int .i64 (y.i : Int)] = ivs (y.l ++ [(y.i : Int)]) := by simp [ivs]
   rw [hiv, show y.l.length + 1 = (y.l ++ [(y.i : Int)]).length from by simp] at own3
   rw [hiv, show y.l.length + 1 = (y.l ++ [(y.i : Int)]).length from by simp]
   refine WLa Z (WL_nil (WQ_code (WC_region (WLv Z (R_add Z Z Z (by omega)) ?_))))
   refine WLa Z (WL_nil ?_)
   refine WQ_nextF (⟨y.i + 1, y.l ++ [(y.i : Int)], ob3, cap3, tl3⟩) (⟨by dsimp only; omega, by dsimp only; rw [hnx, hl9], own3⟩) (by dsimp only; omega) leZ (psZ) Z pqZ
  ·have hc := c2
   have hnx : allI t (s.C.take (y.i + 1)) = allI t (s.C.take y.i) := by rw [allI_next hx, if_neg hc, List.append_nil]
   refine WC_skip (WQ_code (WC_region (WLv Z (R_add Z Z Z (by omega)) ?_)))
   refine WLa Z (WL_nil ?_)
   refine WQ_nextF (⟨y.i + 1, y.l, y.ob, y.c, y.tl⟩) (⟨by dsimp only; omega, by dsimp only; rw [hnx, hl9], own9⟩) (by dsimp only; omega) leZ (psZ) Z pqZ
 ·have hi64 : y.i = 64 := by omega
  refine WC_exit (WQ_code (WCr (WLa Z (WLa Z (WL_nil (WQ_code (WC_ret ?_)))))))
  have hly : y.l = allI t s.C := by rw [hl9, List.take_of_length_le (by rw [h.cl]; omega)]
  rw [← hly]
  refine WQ1 Z (by
    exact ⟨y.ob, y.c, y.tl, rfl, own9, rfl⟩) pqZ
theorem proom_ok {m : PM} {s : PS} (h : PIs m s) : Spec Tryz.prog 120 [ptrP m.p] [poP m s] (fun r H' => r = .bool s.room ∧ H' = [poP m s]) := by
 have hlen := allI_len 0 s.C
 rw [h.cl] at hlen
 refine Spec.of (E := [(0, ptrP m.p)]) Tryz.func120 rfl (by kernel_rfl) Tryz.ntmps120 rfl rfl (fun w => ?_)
 refine WCr (WLa Z (WL_nil (WQ_code (WC_seq (WC_draw ([poP m s]) [(0, true), (4, true), (5, true), (6, true), (7, true), (1, false), (2, true), (3, true), (8, true), (9, true)] followsMixed Z Z (by kernel_rfl) pqZ ?_)))))
 refine WMa Z (WMa Z (WMa Z (WMf Z fa136_0 (WMl Z sc3 mmZ Z (WMd Z (D_call (pall_ok h 0) Z Z Z Z pqZ) ?_)))))
 rintro _ _ ⟨_, ⟨o9, c9, tl9, rfl, own9, rfl⟩, rfl⟩
 refine ⟨⟨_, pqZ⟩, ?_⟩
 refine WMv Z (R_len Z Tryz.underlying23 Z) ?_
 refine WMv Z (R_sub Z Z Z (by omega)) ?_
 refine WMa Z (WMa Z (WM_nil (WQ_code (WC_ret ?_))))
 refine WQ1 Z (by
   exact ⟨congrArg Value.bool (by unfold PS.room PS.used; exact decide_eq_decide.2 (by omega)), rfl⟩) pqZ
theorem pdial_ok {m : PM} {s : PS} (h : PIs m s) (who : Int) (hne : allI 0 s.C ≠ []) : Spec Tryz.prog 121 [ptrP m.p, .int .i64 who] [poP m s] (fun r H' => r = .int .i64 (s.free : Int) ∧ H' = [poP m (s.dial who)]) := by
 obtain ⟨hf0, hfl, xf, hxf, hst⟩ := PS.free_of hne
 have hlp := List.length_pos_iff.2 hne
 have hcl := h.cl
 refine Spec.of (E := [(0, ptrP m.p), (1, .int .i64 who)]) Tryz.func121 rfl (by kernel_rfl) Tryz.ntmps121 rfl rfl (fun w => ?_)
 refine WCr (WLa Z (WL_nil (WQ_code (WCr (WLa Z (WLc Z (pall_ok h 0) Z pqZ ?_))))))
 rintro _ _ ⟨_, ⟨o9, c9, tl9, rfl, own9, rfl⟩, rfl⟩
 obtain ⟨wa, hwa⟩ := own9.some_of (by omega)
 refine WLv Z (R_idxO (i := 0) hwa Z Tryz.underlying23 Tryz.sizeOf3 Z Z (by omega)) ?_
 refine WLv Z (R_loadO (v := .int .i64 (s.free : Int)) hwa Z sc3 Z mmZ (fm_get0 encI1 hf0 (j := 0) (by omega))) ?_
 refine WLa Z (WL_nil (WQ_code (WCr (WLa Z (WLa Z (WLa Z (WLv Z (R_build Z zv132 pl132 Z Z) ?_)))))))
 refine WLa Z (WLf Z fa136_4 (WLv Z (R_indexAddrAN Z Tryz.underlying133 Tryz.sizeOf132 Z Z (by omega)) ?_))
 refine WLs (vs := [_, _, _]) Z Tryz.sizeOf132 Z Z plZ (by exact pc_room h.cl rfl (by omega)) ?_
 rw [show putAt _ _ [.int .i64 (1), .int .i64 (who), .int .u64 (0)] = _ from pc_put (A := pcH _) rfl (y := ⟨1, who, 0⟩) hxf rfl]
 refine WL_nil (WQ_code (WCr (WLa Z (WLa Z (WL_nil (WQ_code (WC_ret ?_)))))))
 refine WQ1 Z (by
   exact ⟨rfl, rfl⟩) pqZ
theorem ptell_ok {m : PM} {s : PS} (h : PIs m s) (k who c : Int) (hE : s.E.length ≤ 1000000) : Spec Tryz.prog 73 [ptrP m.p, .int .i64 k, .int .i64 who, .int .i64 c] [poP m s, poV m s] (fun r H' => ∃ ob ek ec epre etl, r = .tuple #[] ∧ H' = [poP { m with eb := ob, ek := ek, ec := ec, epre := epre, etl := etl } (s.tell k who c), poV { m with eb := ob, ek := ek, ec := ec, epre := epre, etl := etl } (s.tell k who c)] ∧ OwnS ob ek (s.tell k who c).E.length ec 3 epre ((s.tell k who c).E.flatMap encV) etl) := by
 refine Spec.of (E := [(0, ptrP m.p), (1, .int .i64 k), (2, .int .i64 who), (3, .int .i64 c)]) Tryz.func73 rfl (by kernel_rfl) Tryz.ntmps73 rfl rfl (fun w => ?_)
 refine WC_region (WLa Z (WLa Z (WLa Z (WLf Z fa136_7 (WLv Z (R_load (v := sVal m.eb m.ek s.E.length m.ec) Z sc134 Z mmZ (pc_t h.cl Z 2)) ?_)))))
 refine WLa Z (WLa Z (WLa Z (WLv Z (R_build Z zv143 pl143 Z Z) ?_)))
 refine WLd Z (D_buildSlice Z si134 Z Z Z) ?_
 rintro _ _ ⟨b1, rfl, rfl⟩
 refine WLd Z (D_appendS Z si134 Z h.eO plZ Z mmZ (atZ : At _ 0 [_, _, _]) Z Z (by decide) (by omega) (by omega)) ?_
 rintro _ _ ⟨obS, kS, cS, preS, tlS, rfl, ownS, rfl⟩
 refine WLa Z (WLf Z fa136_7 (WLs (vs := [_]) Z Tryz.sizeOf134 Z Z plZ (by exact pc_roomT h.cl rfl (j := 2) (by show 2 < 3; decide)) ?_))
 rw [show putAt (pC m s) _ _ = _ from pc_putT h.cl (A := pcH s) rfl 2 _]
 refine WL_nil ?_
 have hsn : s.E.flatMap encV ++ [Value.int .i64 k, .int .i64 who, .int .i64 c] = (s.tell k who c).E.flatMap encV := by simp [PS.tell, encV]
 have hsl : s.E.length + 1 = (s.tell k who c).E.length := by simp [PS.tell]
 rw [hsn, hsl] at ownS ⊢
 refine WQ2 Z (by
   exact ⟨obS, kS, cS, preS, tlS, rfl, rfl, ownS⟩) pqZ
theorem wq_del (Q : List Qp) (w : Int) : delL (wq Q) w = wq (Q.filter fun x => decide (x.who ≠ w)) := by
 unfold delL wq
 rw [List.filter_map]; rfl
theorem flt_all {Q : List Qp} {w : Int} (h : ∀ x ∈ Q, x.who ≠ w) : (Q.filter fun x => decide (x.who ≠ w)) = Q := List.filter_eq_self.2 fun x hx => decide_eq_true (h x hx)
theorem flt_head {x : Qp} {r : List Qp} (h : ((x :: r).map (·.who)).Nodup) : ((x :: r).filter fun y => decide (y.who ≠ x.who)) = r := by
 rw [List.map_cons, List.nodup_cons] at h
 rw [List.filter_cons_of_neg (by simp), flt_all fun y hy e => h.1 (by rw [← e]; exact List.mem_map_of_mem hy)]
theorem PIs.set {m : PM} {s : PS} (h : PIs m s) {i : Nat} {x : Cn} (h1 : x.since ≤ s.now) (h2 : 0 ≤ x.st ∧ x.st ≤ 3) : PIs m (s.set i x) :=
 ⟨by show (s.C.set i x).length = 64; rw [List.length_set]; exact h.cl, h.qk, h.qM, h.wM, h.eO, h.who, h.op, h.most, fun y hy => by rcases List.mem_or_eq_of_mem_set hy with hy | rfl; exact h.since y hy; exact h1, h.now, h.keep, fun y hy => by rcases List.mem_or_eq_of_mem_set hy with hy | rfl; exact h.st y hy; exact h2⟩
theorem PIs.at_ {m : PM} {s : PS} (h : PIs m s) {now : Nat} (h1 : s.now ≤ now) (h2 : now ≤ 18446744073709551614) : PIs m (s.at_ now) :=
 ⟨h.cl, h.qk, h.qM, h.wM, h.eO, h.who, h.op, h.most, fun y hy => Nat.le_trans (h.since y hy) h1, h2, h.keep, h.st⟩
theorem OwnS.atE {ob : Option Nat} {k n c : Nat} {pre tl : List Value} {T : List Pv} (h : OwnS ob k n c 3 pre (T.flatMap encV) tl) {i : Nat} {x : Pv} (hx : T[i]? = some x) (hi : i < n) : At (pre ++ (T.flatMap encV ++ tl)) (k + i * 3) (encV x) := fun j v hj => by
 rw [h.get encV3 hx hi (show j < 3 from (List.getElem?_eq_some_iff.1 hj).1)]; exact hj
theorem pc_now (m : PM) (s : PS) (now : Nat) : putAt (pC m s) (0 + 3) [.int .u64 (now : Int)] = pC m (s.at_ now) := by
 show _ :: _ :: _ :: _ :: putAt _ 0 [] = _
 rw [putAt_nil]; rfl
theorem pc_nowr (m : PM) (s : PS) : 0 + 3 + 1 ≤ (pC m s).length := by
 show _ ≤ (pcH s ++ _).length
 rw [List.length_append]
 show 4 ≤ 4 + _
 omega
theorem PIs.dial {m : PM} {s : PS} (h : PIs m s) (who : Int) : PIs m (s.dial who) := h.set (Nat.zero_le _) ⟨by show (0 : Int) ≤ 1; decide, by show (1 : Int) ≤ 3; decide⟩
theorem PIs.tell {m : PM} {s : PS} (h : PIs m s) {k who c : Int} {ob : Option Nat} {ek ec : Nat} {epre etl : List Value} (ho : OwnS ob ek (s.tell k who c).E.length ec 3 epre ((s.tell k who c).E.flatMap encV) etl) : PIs { m with eb := ob, ek := ek, ec := ec, epre := epre, etl := etl } (s.tell k who c) :=
 ⟨h.cl, h.qk, h.qM, h.wM, ho, h.who, h.op, h.most, h.since, h.now, h.keep, h.st⟩
theorem PIs.ev {m : PM} {s : PS} (h : PIs m s) {E' : List Pv} {ob : Option Nat} {ek ec : Nat} {epre etl : List Value} (ho : OwnS ob ek E'.length ec 3 epre (E'.flatMap encV) etl) : PIs { m with eb := ob, ek := ek, ec := ec, epre := epre, etl := etl } { s with E := E' } :=
 ⟨h.cl, h.qk, h.qM, h.wM, ho, h.who, h.op, h.most, h.since, h.now, h.keep, h.st⟩
theorem fq_app (Q : List Qp) (x : Qp) : fq (Q ++ [x]) = fq Q ++ [(x.t, x.who)] := by simp [fq]
theorem PIs.push {m : PM} {s : PS} (h : PIs m s) {who : Int} {dl : Nat} {qes : Array MapEntry} {qmc : Nat} {wes : Array MapEntry} (hw : 0 ≤ who ∧ who ≤ 1000) (hM : Mp (.int .u64) ekQ evQ qes (nds 0 0 (fq (s.Q ++ [⟨s.n + 1, who, dl⟩])))) (hW : Mk ekW evW wes (m.wmc + 1) ((who, (s.n + 1, dl)) :: wq s.Q)) : PIs { m with qes := qes, qmc := qmc, wes := wes, wmc := m.wmc + 1 } { s with Q := s.Q ++ [⟨s.n + 1, who, dl⟩], n := s.n + 1 } :=
 ⟨h.cl, by show Qk (fq (s.Q ++ [⟨s.n + 1, who, dl⟩])) (s.n + 1); rw [fq_app]; exact h.qk.push who, hM, hW.to (by show List.Perm _ (wq (s.Q ++ [_])); unfold wq; rw [List.map_append]; exact List.perm_append_comm (l₁ := [_])), h.eO, fun x hx => by
  rcases List.mem_append.1 hx with hx | hx
  ·exact h.who x hx
  ·rw [List.mem_singleton.1 hx]; exact hw, h.op, h.most, h.since, h.now, h.keep, h.st⟩
theorem PIs.q {m : PM} {s : PS} (h : PIs m s) {Q' : List Qp} {qes : Array MapEntry} {qmc : Nat} {wes : Array MapEntry} {wmc : Nat} (hk : Qk (fq Q') s.n) (hM : Mp (.int .u64) ekQ evQ qes (nds 0 0 (fq Q'))) (hW : Mk ekW evW wes wmc (wq Q')) (hs : ∀ x ∈ Q', x ∈ s.Q) : PIs { m with qes := qes, qmc := qmc, wes := wes, wmc := wmc } { s with Q := Q' } :=
 ⟨h.cl, hk, hM, hW, h.eO, fun x hx => h.who x (hs x hx), h.op, h.most, h.since, h.now, h.keep, h.st⟩
theorem qk_sub {Q Q' : List Qp} {n : Nat} (h : Qk (fq Q) n) (hs : Q'.Sublist Q) : Qk (fq Q') n :=
 ⟨fun x hx => h.pos x ((hs.map _).subset hx), h.ord.sublist (hs.map _)⟩
theorem qrem_ok (p mb : Nat) (A B : List (Nat × Int)) (t : Nat) (v : Int) (n : Nat) (es : Array MapEntry) (mc : Nat) (hq : Qk (A ++ (t, v) :: B) n) (hM : Mp (.int .u64) ekQ evQ es (nds 0 0 (A ++ (t, v) :: B))) : Spec Tryz.prog 133 [ptrQ p, .int .u64 (t : Int)] (qH p mb (A ++ (t, v) :: B) n es mc)
  (fun r H' => ∃ es' mc', r = .tuple #[.int .i64 v, .int .i64 0] ∧ H' = qH p mb (A ++ B) n es' mc' ∧ Mp (.int .u64) ekQ evQ es' (nds 0 0 (A ++ B))) := by
 have h := qrem_raw p mb A B t v n es mc hq hM
 have e1 : hd t A = hd 0 (A ++ (t, v) :: B) := by rw [hd_append]; rfl
 have e2 : lst t B = lst 0 (A ++ (t, v) :: B) := by rw [lst_append]; rfl
 rw [e1, e2] at h
 exact h.mono fun r H' ⟨es', mc', f, la, h1, h2, h3, h4, h5⟩ => by subst h3; subst h4; exact ⟨es', mc', h1, h2, by rw [nds_append]; exact h5⟩
theorem qlen_ok (p mb : Nat) (l : List (Nat × Int)) (n : Nat) (es : Array MapEntry) (mc : Nat) (hq : Qk l n) (hM : Mp (.int .u64) ekQ evQ es (nds 0 0 l)) : Spec Tryz.prog 71 [ptrQ p] (qH p mb l n es mc) (fun r H' => r = .int .i64 (l.length : Int) ∧ H' = qH p mb l n es mc) := by
 refine Spec.of (E := [(0, ptrQ p)]) Tryz.func71 rfl (by kernel_rfl) Tryz.ntmps71 rfl rfl (fun w => ?_)
 refine WCr (WLa Z (WL_nil (WQ_code (WC_seq (WCr (WLa Z (WLq Z (qzero_ok p mb _ _ _ es mc) Z pqZ ?_)))))))
 refine WL_nil (WQ_code (WC_F Z (WC_skip (WQ_code (WCr (WLa Z (WLa Z (WLf Z fa194_1 (WLl Z sc190 mmZ Z (WLv Z (R_lenMap Z Tryz.underlying190 Z mmZ hM) ?_))))))))))
 refine WLa Z (WL_nil (WQ_code (WC_ret ?_)))
 refine WQ1 Z (by
   exact ⟨congrArg (fun n : Nat => Value.int .i64 (n : Int)) (nds_len 0 0 l), rfl⟩) pqZ
theorem qpop_ok (p mb t : Nat) (v : Int) (l : List (Nat × Int)) (n : Nat) (es : Array MapEntry) (mc : Nat) (hq : Qk ((t, v) :: l) n) (hM : Mp (.int .u64) ekQ evQ es (nds 0 0 ((t, v) :: l))) : Spec Tryz.prog 127 [ptrQ p] (qH p mb ((t, v) :: l) n es mc)
  (fun r H' => ∃ es' mc', r = .tuple #[.int .i64 v, .int .u64 (t : Int), .int .i64 0] ∧ H' = qH p mb l n es' mc' ∧ Mp (.int .u64) ekQ evQ es' (nds 0 0 l)) := by
 refine Spec.of (E := [(0, ptrQ p)]) Tryz.func127 rfl (by kernel_rfl) Tryz.ntmps127 rfl rfl (fun w => ?_)
 refine WCr (WLa Z (WLa Z (WLa Z (WL_nil (WQ_code (WCr (WLa Z (WLq Z (qfront_ok p mb t v l n es mc hq hM) Z pqZ ?_))))))))
 refine WLa Z (WLa Z (WLa Z (WLa Z (WLa Z (WLa Z (WLa Z (WL_nil (WQ_code (WC_seq (WCr (WLa Z (WLa Z (WL_nil (WQ_code (WC_dT Z (by rfl) ?_)))))))))))))))
 refine WC_region (WLa Z (WLa Z (WLc Z (qrem_ok p mb [] l t v n es mc hq hM) Z pqZ ?_)))
 rintro _ _ ⟨_, ⟨es1, mc1, rfl, rfl, hM1⟩, rfl⟩
 refine WL_nil (WQ_code (WCr (WLa Z (WLa Z (WLa Z (WLa Z (WLa Z (WLa Z (WL_nil (WQ_code (WC_ret ?_)))))))))))
 refine WQ_ret Z Z (.cons (.tmp Z) (.cons (.tmp Z) (.cons (.tmp Z) .nil))) Z (by
   exact ⟨es1, mc1, rfl, rfl, hM1⟩) pqZ
theorem pfirst_ok {m : PM} {s : PS} (h : PIs m s) {x : Qp} {r : List Qp} (hQ : s.Q = x :: r) : Spec Tryz.prog 72 [ptrP m.p] (poH m s) (fun v H' => ∃ m', v = .tuple #[.int .i64 x.who, .bool true] ∧ H' = poH m' s.pop ∧ m'.p = m.p ∧ PIs m' s.pop) := by
 have hqk := h.qk
 have hqM := h.qM
 have hnd := h.nd
 have hpr := qk_sub h.qk (show r.Sublist s.Q by rw [hQ]; exact List.sublist_cons_self x r)
 have hpop : s.pop = { s with Q := r } := by unfold PS.pop; rw [hQ]; rfl
 have hin : (x.who, (x.t, x.dl)) ∈ wq s.Q := by rw [hQ]; exact List.mem_cons_self ..
 have hdel : delL (wq s.Q) x.who = wq r := by rw [wq_del, hQ, flt_head (by rw [← hQ]; exact hnd)]
 have hfq : fq s.Q = (x.t, x.who) :: fq r := by rw [hQ]; rfl
 rw [hfq] at hqk hqM
 rw [hpop]
 unfold poH
 rw [hfq]
 refine Spec.of (E := [(0, ptrP m.p)]) Tryz.func72 rfl (by kernel_rfl) Tryz.ntmps72 rfl rfl (fun w => ?_)
 refine WCr (WLa Z (WLa Z (WL_nil (WQ_code (WCr (WLa Z (WLa Z (WLf Z fa136_5 (WLv Z (R_load (v := ptrQ m.q) Z sc127 Z mmZ (pc_t h.cl Z 0)) ?_)))))))))
 refine WLc Z (qpop_ok m.q m.qm x.t x.who (fq r) s.n m.qes m.qmc hqk hqM) Z pqZ ?_
 rintro _ _ ⟨_, ⟨es1, mc1, rfl, rfl, hM1⟩, rfl⟩
 refine WLa Z (WLa Z (WLa Z (WLa Z (WLa Z (WLa Z (WLa Z (WL_nil (WQ_code (WCr (WLa Z (WLa Z (WLf Z fa136_6 (WLv Z (R_load (v := .map (some m.wm)) Z sc129 Z mmZ (pc_t h.cl Z 1)) ?_)))))))))))))
 refine WLa Z (WL_do0 Z Z (D_deleteK (k := x.who) (a := (x.t, x.dl)) Z Tryz.underlying129 int_key Z Z plZ h.wM hin) ?_)
 rintro _ _ ⟨es9, hM9, rfl⟩
 rw [hdel] at hM9
 refine WL_nil (WQ_code (WCr (WLa Z (WLa Z (WLa Z (WL_set (s := 23) (v := .bool true) Z (by simp) ?_))))))
 refine WLa Z (WLa Z (WL_nil (WQ_code (WC_ret ?_))))
 refine WQ2 Z (by
   exact ⟨{ m with qes := es1, qmc := mc1, wes := es9, wmc := m.wmc }, rfl, rfl, rfl, h.q hpr hM1 hM9 (fun y hy => by rw [hQ]; exact List.mem_cons_of_mem _ hy)⟩) pqZ
theorem PS.next_nil {s : PS} (h : s.Q = []) : s.next = s := by unfold PS.next; rw [h]
theorem PS.next_full {s : PS} (h : s.room = false) : s.next = s := by unfold PS.next; split; rfl; rw [if_neg (by rw [h]; decide)]
theorem PS.next_ok {s : PS} {x : Qp} {r : List Qp} (hQ : s.Q = x :: r) (h : s.room = true) : s.next = (s.pop.dial x.who).tell 2 x.who (s.free : Int) := by unfold PS.next; rw [hQ]; dsimp only; rw [if_pos h]
def PX.fut (x : PX) (s : Ss) : Nat := satN x.now (delayN x.pl (s.tr + 1))
def PX.failE (x : PX) (s : Ss) : Int := if x.pl.tries ≤ (s.tr : Int) + 1 then 15 else if s.dl ≤ x.fut s then 12 else 0
def PX.later (x : PX) (s : Ss) : Ss := { s with st := 1, til := x.fut s, be := -1, cn := -1, cal := 0, tr := s.tr + 1 }
theorem xfail_ok (m : XM) (x : PX) (hO : XEO m x) (hE : x.E.length ≤ 1000000) {L : List (Int × Nat)} (hM : Mk ekW ptrS m.ses m.smc L) (s : Ss) (hin : (s.num, s.p) ∈ L) (code : Int) : Spec Tryz.prog 51 [ptrP m.p, ptrS s.p, .int .i64 code] [pxE m x, seE s, pxM m, pxV m x] (fun r H' => ∃ ses eb ek ec epre etl, r = .tuple #[] ∧ H' = [pxE { m with ses := ses, eb := eb, ek := ek, ec := ec, epre := epre, etl := etl } (x.tell ⟨3, s.num, -1, -1, code⟩), seE s, pxM { m with ses := ses, eb := eb, ek := ek, ec := ec, epre := epre, etl := etl }, pxV { m with ses := ses, eb := eb, ek := ek, ec := ec, epre := epre, etl := etl } (x.tell ⟨3, s.num, -1, -1, code⟩)] ∧ XEO { m with ses := ses, eb := eb, ek := ek, ec := ec, epre := epre, etl := etl } (x.tell ⟨3, s.num, -1, -1, code⟩) ∧ Mk ekW ptrS ses m.smc (delL L s.num)) := by
 refine Spec.of (E := [(0, ptrP m.p), (1, ptrS s.p), (2, .int .i64 code)]) Tryz.func51 rfl (by kernel_rfl) Tryz.ntmps51 rfl rfl (fun w => ?_)
 refine WC_seq (WC_drawR ([pxM m]) [(0, true), (1, true), (2, true), (3, true), (4, true), (5, true), (6, true), (7, true), (8, false)] followsMixed Z Z (by kernel_rfl) pqZ ?_)
 refine WMa Z (WMa Z (WMf Z fa68_4 (WMl Z sc66 mmZ Z (WMa Z (WMa Z (WMf Z fa90_0 (WMl Z sc3 mmZ Z (WM_do0 Z Z Z (D_deleteK (k := s.num) (a := s.p) Z Tryz.underlying66 int_key Z Z plZ hM hin) ?_))))))))
 rintro _ _ ⟨es9, hM9, rfl⟩
 refine ⟨⟨_, pqZ⟩, ?_⟩
 refine WM_nil (WQ_code (WC_region (WLa Z (WLa Z (WLa Z (WLf Z fa90_0 (WLl Z sc3 mmZ Z (WLa Z (WLv Z (R_build Z zv63 pl63 Z Z) ?_)))))))))
 refine WLc Z (xtell_ok m x hO hE ⟨3, s.num, -1, -1, code⟩) Z pqZ ?_
 rintro _ _ ⟨_, ⟨eb1, ek1, ec1, epre1, etl1, rfl, rfl, hO1⟩, rfl⟩
 refine WL_nil ?_
 refine WQ2 Z (by
   exact ⟨es9, eb1, ek1, ec1, epre1, etl1, rfl, rfl, hO1, hM9⟩) pqZ
theorem xfailed_g (m : XM) (x : PX) (hO : XEO m x) (hE : x.E.length ≤ 1000000) (hp : OkP x.pl) (hs : x.pl.seed < 4294967296) (hn : x.now ≤ 18446744073709551614) {L : List (Int × Nat)} (hM : Mk ekW ptrS m.ses m.smc L) (s : Ss) (hin : (s.num, s.p) ∈ L) (ht : s.tr ≤ 1000) (hf : x.failE s ≠ 0) : Spec Tryz.prog 39 [ptrP m.p, ptrS s.p] [pxE m x, seE s, pxM m, pxV m x] (fun r H' => ∃ ses eb ek ec epre etl, r = .tuple #[] ∧ H' = [pxE { m with ses := ses, eb := eb, ek := ek, ec := ec, epre := epre, etl := etl } (x.tell ⟨3, s.num, -1, -1, x.failE s⟩), seE s, pxM { m with ses := ses, eb := eb, ek := ek, ec := ec, epre := epre, etl := etl }, pxV { m with ses := ses, eb := eb, ek := ek, ec := ec, epre := epre, etl := etl } (x.tell ⟨3, s.num, -1, -1, x.failE s⟩)] ∧ XEO { m with ses := ses, eb := eb, ek := ek, ec := ec, epre := epre, etl := etl } (x.tell ⟨3, s.num, -1, -1, x.failE s⟩) ∧ Mk ekW ptrS ses m.smc (delL L s.num)) := by
 have htr : 1 ≤ x.pl.tries ∧ x.pl.tries ≤ 100 := by obtain ⟨q1, q2, q3, q4, q5, q6, q7, q8, q9, q10⟩ := hp; exact ⟨q7, q8⟩
 have hdl := delayN_le hp (s.tr + 1)
 refine Spec.of (E := [(0, ptrP m.p), (1, ptrS s.p)]) Tryz.func39 rfl (by kernel_rfl) Tryz.ntmps39 rfl rfl (fun w => ?_)
 refine WC_seq (WC_seq (WC_draw _ [(0, true), (1, true), (2, true), (3, true), (4, true), (5, true), (6, true), (7, true), (8, true), (9, true), (10, true)] followsMixed Z Z (by kernel_rfl) .all ?_))
 refine WMa Z (WMa Z (WMf Z fa90_3 (WMl Z sc3 mmZ Z (WMv Z (R_add Z Z Z (by omega)) ?_))))
 refine WMa Z (WMa Z (WMf Z fa68_2 (WMf Z fa28_4 (WMl Z sc3 mmZ Z (WMa Z (WM_nil (WQ_code ?_)))))))
 refine WC_dec Z (fun c1 => ?_) (fun c1 => ?_)
 ·have hfe : x.failE s = 15 := by unfold PX.failE; rw [if_pos (by omega)]
  refine WCr (WLa Z (WLa Z (WLc Z (xfail_ok m x hO hE hM s hin 15) Z pqZ ?_)))
  rintro _ _ ⟨_, ⟨ses1, eb1, ek1, ec1, epre1, etl1, rfl, rfl, hO1, hM1⟩, rfl⟩
  refine WL_nil (WQ_code (WC_ret ?_))
  refine WQ2 Z (by
    rw [hfe]
    exact ⟨ses1, eb1, ek1, ec1, epre1, etl1, rfl, rfl, hO1, hM1⟩) pqZ
 ·have h9 : ¬ x.pl.tries ≤ (s.tr : Int) + 1 := by omega
  refine WC_skip (WQ_code (WC_seq (WC_draw _ [(0, true), (1, true), (2, true), (3, true), (4, true), (5, true), (6, true), (7, true), (8, true), (9, false), (10, true), (11, true), (12, true), (13, true), (14, true)] followsMixed Z Z (by kernel_rfl) .all ?_)))
  refine WMa Z (WMa Z (WMf Z fa68_2 (WMv Z (R_loadA (vs := [_, _, _, _, _, _, _]) Z ag28 Z mmZ Z atZ) ?_)))
  refine WMa Z (WMa Z (WMf Z fa90_3 (WMl Z sc3 mmZ Z (WMv Z (R_addR (r := ((s.tr + 1 : Nat) : Int)) Z Z Z (by rw [wrap64_in (by omega) (by omega)]; omega)) ?_))))
  refine WMd Z (D_call (dly_in x.pl hp hs (s.tr + 1) (by omega)) Z Z Z Z pqZ) ?_
  rintro _ _ ⟨_, ⟨rfl, rfl⟩, rfl⟩
  refine ⟨⟨_, pqZ⟩, ?_⟩
  refine WMa Z (WMa Z (WMa Z (WMa Z (WMa Z (WM_nil (WQ_code (WCr (WLa Z (WLa Z (WLf Z fa68_3 (WLl Z sc25 mmZ Z (WLa Z (WLq Z (vadd_ok x.now (delayN x.pl (s.tr + 1)) (by omega) (by omega)) Z pqZ ?_)))))))))))))
  refine WLa Z (WL_nil (WQ_code (WC_seq (WCr (WLa Z (WLa Z (WLa Z (WLf Z fa90_2 (WLl Z sc25 mmZ Z (WLa Z (WL_nil (WQ_code ?_))))))))))))
  refine WC_dec Z (fun c2 => ?_) (fun c2 => ?_)
  ·have hfe : x.failE s = 12 := by unfold PX.failE; rw [if_neg h9, if_pos (by unfold PX.fut; omega)]
   refine WCr (WLa Z (WLa Z (WLc Z (xfail_ok m x hO hE hM s hin 12) Z pqZ ?_)))
   rintro _ _ ⟨_, ⟨ses1, eb1, ek1, ec1, epre1, etl1, rfl, rfl, hO1, hM1⟩, rfl⟩
   refine WL_nil (WQ_code (WC_ret ?_))
   refine WQ2 Z (by
     rw [hfe]
     exact ⟨ses1, eb1, ek1, ec1, epre1, etl1, rfl, rfl, hO1, hM1⟩) pqZ
  ·exact absurd (show x.failE s = 0 by unfold PX.failE; rw [if_neg h9, if_neg (by unfold PX.fut; omega)]) hf
theorem xfailed_l (m : XM) (x : PX) (hp : OkP x.pl) (hs : x.pl.seed < 4294967296) (hn : x.now ≤ 18446744073709551614) (s : Ss) (ht : s.tr ≤ 1000) (hf : x.failE s = 0) : Spec Tryz.prog 39 [ptrP m.p, ptrS s.p] [pxE m x, seE s] (fun r H' => r = .tuple #[] ∧ H' = [pxE m x, seE (x.later s)]) := by
 have htr : 1 ≤ x.pl.tries ∧ x.pl.tries ≤ 100 := by obtain ⟨q1, q2, q3, q4, q5, q6, q7, q8, q9, q10⟩ := hp; exact ⟨q7, q8⟩
 have hdl := delayN_le hp (s.tr + 1)
 have h9 : ¬ x.pl.tries ≤ (s.tr : Int) + 1 := fun e => by unfold PX.failE at hf; rw [if_pos e] at hf; exact absurd hf (by decide)
 have h8 : ¬ s.dl ≤ x.fut s := fun e => by unfold PX.failE at hf; rw [if_neg h9, if_pos e] at hf; exact absurd hf (by decide)
 refine Spec.of (E := [(0, ptrP m.p), (1, ptrS s.p)]) Tryz.func39 rfl (by kernel_rfl) Tryz.ntmps39 rfl rfl (fun w => ?_)
 refine WC_seq (WC_seq (WC_draw _ [(0, true), (1, true), (2, true), (3, true), (4, true), (5, true), (6, true), (7, true), (8, true), (9, true), (10, true)] followsMixed Z Z (by kernel_rfl) .all ?_))
 refine WMa Z (WMa Z (WMf Z fa90_3 (WMl Z sc3 mmZ Z (WMv Z (R_add Z Z Z (by omega)) ?_))))
 refine WMa Z (WMa Z (WMf Z fa68_2 (WMf Z fa28_4 (WMl Z sc3 mmZ Z (WMa Z (WM_nil (WQ_code (WC_dF Z (by omega) ?_))))))))
 refine WC_skip (WQ_code (WC_seq (WC_draw _ [(0, true), (1, true), (2, true), (3, true), (4, true), (5, true), (6, true), (7, true), (8, true), (9, false), (10, true), (11, true), (12, true), (13, true), (14, true)] followsMixed Z Z (by kernel_rfl) .all ?_)))
 refine WMa Z (WMa Z (WMf Z fa68_2 (WMv Z (R_loadA (vs := [_, _, _, _, _, _, _]) Z ag28 Z mmZ Z atZ) ?_)))
 refine WMa Z (WMa Z (WMf Z fa90_3 (WMl Z sc3 mmZ Z (WMv Z (R_addR (r := ((s.tr + 1 : Nat) : Int)) Z Z Z (by rw [wrap64_in (by omega) (by omega)]; omega)) ?_))))
 refine WMd Z (D_call (dly_in x.pl hp hs (s.tr + 1) (by omega)) Z Z Z Z pqZ) ?_
 rintro _ _ ⟨_, ⟨rfl, rfl⟩, rfl⟩
 refine ⟨⟨_, pqZ⟩, ?_⟩
 refine WMa Z (WMa Z (WMa Z (WMa Z (WMa Z (WM_nil (WQ_code (WCr (WLa Z (WLa Z (WLf Z fa68_3 (WLl Z sc25 mmZ Z (WLa Z (WLq Z (vadd_ok x.now (delayN x.pl (s.tr + 1)) (by omega) (by omega)) Z pqZ ?_)))))))))))))
 refine WLa Z (WL_nil (WQ_code (WC_seq (WCr (WLa Z (WLa Z (WLa Z (WLf Z fa90_2 (WLl Z sc25 mmZ Z (WLa Z (WL_nil (WQ_code (WC_dF Z (by unfold PX.fut at h8; omega) ?_)))))))))))))
 refine WC_skip (WQ_code (WCr (WLa Z (WLa Z (WLa Z (WLa Z (WLa Z (WLa Z (WLa Z (WLf Z fa90_4 (WLs (vs := [_]) Z Tryz.sizeOf49 Z Z plZ (nb Z) ?_)))))))))))
 refine WLa Z (WLf Z fa90_5 (WLs (vs := [_]) Z Tryz.sizeOf25 Z Z plZ (nb Z) ?_))
 refine WLa Z (WLf Z fa90_7 (WLs (vs := [_]) Z Tryz.sizeOf3 Z Z plZ (nb Z) ?_))
 refine WLa Z (WLf Z fa90_8 (WLs (vs := [_]) Z Tryz.sizeOf3 Z Z plZ (nb Z) ?_))
 refine WLa Z (WLf Z fa90_6 (WLs (vs := [_]) Z Tryz.sizeOf3 Z Z plZ (nb Z) ?_))
 refine WL_nil (WQ_code (WC_region (WLa Z (WLa Z (WLf Z fa90_3 (WLl Z sc3 mmZ Z (WLv Z (R_addR (r := ((s.tr + 1 : Nat) : Int)) Z Z Z (by rw [wrap64_in (by omega) (by omega)]; omega)) ?_)))))))
 refine WLa Z (WLf Z fa90_3 (WLs (vs := [_]) Z Tryz.sizeOf3 Z Z plZ (nb Z) ?_))
 refine WL_nil ?_
 refine WQ2 Z (by
   exact ⟨rfl, rfl⟩) pqZ
section
abbrev encPq (q : PM) : List Value := [ptrP q.p]
theorem encPq1 (q : PM) : (encPq q).length = 1 := rfl
theorem pms_set {ms : List PM} {i : Nat} {mi m' : PM} (h : ms[i]? = some mi) (hp : m'.p = mi.p) : (ms.set i m').flatMap (fun q => [ptrP q.p]) = ms.flatMap (fun q => [ptrP q.p]) := by
 obtain ⟨h1, h2⟩ := List.getElem?_eq_some_iff.1 h
 have hR : ms = ms.take i ++ mi :: ms.drop (i + 1) := by rw [← h2, ← List.drop_eq_getElem_cons h1, List.take_append_drop]
 have hl : (ms.take i).length = i := by rw [List.length_take]; omega
 have hS : ms.set i m' = ms.take i ++ m' :: ms.drop (i + 1) := by
  conv => lhs; rw [hR]
  rw [List.set_append_right _ _ (by omega), hl, Nat.sub_self]; rfl
 rw [hS, List.flatMap_append, List.flatMap_cons, hp]
 conv => rhs; rw [hR, List.flatMap_append, List.flatMap_cons]
def PX.pk (x : PX) (s : Ss) : Nat := (x.b.pickI s.key x.now).toNat
def PX.pv (x : PX) (s : Ss) (si : PS) : Pv := si.getV s.num x.now s.dl
def PX.att0 (x : PX) (s : Ss) (si : PS) : PX := { x with b := x.b.pick s.key x.now, P := x.P.set (x.pk s) (si.getS s.num x.now s.dl) }
def PX.attX (x : PX) (s : Ss) (si : PS) : PX :=
 if (x.pv s si).k = 1 then (x.att0 s si).tell ⟨1, s.num, (x.pk s : Int), (x.pv s si).c, 0⟩
 else if (x.pv s si).k = 2 then (x.att0 s si).tell ⟨2, s.num, (x.pk s : Int), (x.pv s si).c, 0⟩ else x.att0 s si
def PX.attS (x : PX) (s : Ss) (si : PS) : Ss :=
 if (x.pv s si).k = 1 then { s with be := (x.pk s : Int), cal := ((x.b.gv + 1 : Nat) : Int), st := 4, cn := (x.pv s si).c }
 else if (x.pv s si).k = 2 then { s with be := (x.pk s : Int), cal := ((x.b.gv + 1 : Nat) : Int), st := 3, cn := (x.pv s si).c }
 else { s with be := (x.pk s : Int), cal := ((x.b.gv + 1 : Nat) : Int), st := 2, cn := -1 }
theorem PXIs.tell {N : Nat} {m : XM} {x : PX} (h : PXIs N m x) (v : Xv) {eb : Option Nat} {ek ec : Nat} {epre etl : List Value} (hO : OwnS eb ek (x.tell v).E.length ec 5 epre ((x.tell v).E.flatMap encX) etl) : PXIs N { m with eb := eb, ek := ek, ec := ec, epre := epre, etl := etl } (x.tell v) :=
 ⟨h.bal, h.len, h.po, h.oq, h.mp, hO, h.ok, h.seed, h.num, h.vl, h.now⟩
theorem PXIs.att0 {N : Nat} {m : XM} {x : PX} (h : PXIs N m x) {s : Ss} {si : PS} {mi m' : PM} {bm1 : Bm} (hmi : m.pm[x.pk s]? = some mi) (hp : m'.p = mi.p) (hb : BIs (N + 1) bm1 (x.b.pick s.key x.now)) (hi : PIs m' (si.getS s.num x.now s.dl)) : PXIs (N + 1) { m with bm := bm1, pm := m.pm.set (x.pk s) m' } (x.att0 s si) where
 bal := hb
 len := by show (m.pm.set _ _).length = (x.P.set _ _).length; rw [List.length_set, List.length_set]; exact h.len
 po := fun j a b h1 h2 => by
  have h1 : (m.pm.set (x.pk s) m')[j]? = some a := h1
  have h2 : (x.P.set (x.pk s) (si.getS s.num x.now s.dl))[j]? = some b := h2
  by_cases e : x.pk s = j
  ·subst e
   have hl := (List.getElem?_eq_some_iff.1 hmi).1
   rw [List.getElem?_set_self hl] at h1
   rw [List.getElem?_set_self (by rw [← h.len]; exact hl)] at h2
   rw [← Option.some.inj h1, ← Option.some.inj h2]; exact hi
  ·rw [List.getElem?_set_ne e] at h1 h2
   exact h.po j a b h1 h2
 oq := by
  show Own m.ob (x.P.set _ _).length m.oc 1 ((m.pm.set (x.pk s) m').flatMap (fun q => [ptrP q.p])) m.otl
  rw [List.length_set, pms_set hmi hp]; exact h.oq
 mp := h.mp
 eO := h.eO
 ok := h.ok
 seed := h.seed
 num := h.num
 vl := by
  show ((pickS x.b.k (un x.b.V) x.now (x.b.cand x.now) (x.b.pickI s.key x.now).toNat).map vw).length = (x.P.set _ _).length
  rw [List.length_map, pickS_len, un_len, List.length_set]; exact h.vl
 now := h.now
section
variable {m : XM} {x : PX} {s : Ss} {si : PS} {mi m1 : PM} {bm1 : Bm} {eb : Option Nat} {ek ec : Nat} {epre etl : List Value}
abbrev attM (m : XM) (x : PX) (s : Ss) (bm1 : Bm) (m1 : PM) : XM := { m with bm := bm1, pm := m.pm.set (x.pk s) m1 }
abbrev attMt (m : XM) (x : PX) (s : Ss) (bm1 : Bm) (m1 : PM) (eb : Option Nat) (ek ec : Nat) (epre etl : List Value) : XM := { m with bm := bm1, pm := m.pm.set (x.pk s) m1, eb := eb, ek := ek, ec := ec, epre := epre, etl := etl }
theorem pxE_att (hbp : bm1.p = m.bm.p) : pxE m x = pxE (attM m x s bm1 m1) (x.att0 s si) := by simp only [pxE, pxC, PX.att0, List.length_set, hbp]
theorem pxE_attT (hbp : bm1.p = m.bm.p) (v : Xv) : pxE { m with eb := eb, ek := ek, ec := ec, epre := epre, etl := etl } (x.tell v) = pxE (attMt m x s bm1 m1 eb ek ec epre etl) ((x.att0 s si).tell v) := by simp only [pxE, pxC, PX.tell, PX.att0, List.length_set, hbp]
theorem pxQ_att (hmi : m.pm[x.pk s]? = some mi) (hmp : m1.p = mi.p) : pxQ m = pxQ (attM m x s bm1 m1) := by simp only [pxQ, pms_set hmi hmp]
theorem attX_1 (h : (x.pv s si).k = 1) : x.attX s si = (x.att0 s si).tell ⟨1, s.num, (x.pk s : Int), (x.pv s si).c, 0⟩ ∧ x.attS s si = { s with be := (x.pk s : Int), cal := ((x.b.gv + 1 : Nat) : Int), st := 4, cn := (x.pv s si).c } := by unfold PX.attX PX.attS; rw [if_pos h, if_pos h]; exact ⟨rfl, rfl⟩
theorem attX_2 (h : ¬ (x.pv s si).k = 1) (h2 : (x.pv s si).k = 2) : x.attX s si = (x.att0 s si).tell ⟨2, s.num, (x.pk s : Int), (x.pv s si).c, 0⟩ ∧ x.attS s si = { s with be := (x.pk s : Int), cal := ((x.b.gv + 1 : Nat) : Int), st := 3, cn := (x.pv s si).c } := by unfold PX.attX PX.attS; rw [if_neg h, if_neg h, if_pos h2, if_pos h2]; exact ⟨rfl, rfl⟩
theorem attX_3 (h : ¬ (x.pv s si).k = 1) (h2 : ¬ (x.pv s si).k = 2) : x.attX s si = x.att0 s si ∧ x.attS s si = { s with be := (x.pk s : Int), cal := ((x.b.gv + 1 : Nat) : Int), st := 2, cn := -1 } := by unfold PX.attX PX.attS; rw [if_neg h, if_neg h, if_neg h2, if_neg h2]; exact ⟨rfl, rfl⟩
end
end
theorem Pull.consA {x a : Ent} {l F R : Heap} (h : Pull x (a :: (l ++ F)) R) : Pull x ((a :: l) ++ F) R := h
theorem Pull.nilA {x : Ent} {F R : Heap} (h : Pull x F R) : Pull x ([] ++ F) R := h
theorem PullA.consA {A : Heap} {a : Ent} {l F R : Heap} (h : PullA A (a :: (l ++ F)) R) : PullA A ((a :: l) ++ F) R := h
theorem PullA.nilA {A F R : Heap} (h : PullA A F R) : PullA A ([] ++ F) R := h
theorem Pulls.consA {A : Heap} {a : Ent} {l F R : Heap} (h : Pulls A (a :: (l ++ F)) R) : Pulls A ((a :: l) ++ F) R := h
theorem Pulls.nilA {A F R : Heap} (h : Pulls A F R) : Pulls A ([] ++ F) R := h
theorem Pulls.consX {a : Ent} {l F H R : Heap} (h : Pulls (a :: (l ++ F)) H R) : Pulls ((a :: l) ++ F) H R := h
theorem Pulls.nilX {F H R : Heap} (h : Pulls F H R) : Pulls ([] ++ F) H R := h
theorem memconsA {x a : Ent} {l F : Heap} (h : x ∈ a :: (l ++ F)) : x ∈ (a :: l) ++ F := h
theorem memnilA {x : Ent} {F : Heap} (h : x ∈ F) : x ∈ ([] ++ F) := h
theorem memheadC {x : Ent} {l : Heap} : x ∈ x :: l := List.mem_cons_self ..
theorem memtailC {x y : Ent} {l : Heap} (h : x ∈ l) : x ∈ y :: l := List.mem_cons_of_mem _ h
theorem memappC {x : Ent} {A l : Heap} (h : x ∈ l) : x ∈ A ++ l := List.mem_append_right _ h
theorem plC {x : Ent} {H F : Heap} (h : Pull x H F := by repeat (first | with_reducible exact Pull.head | with_reducible apply Pull.consA | with_reducible apply Pull.nilA | exact Pull.head | with_reducible apply Pull.tail | with_reducible apply Pull.assoc | with_reducible apply Pull.app)) : Pull x H F := h
theorem pqC {A H F : Heap} (h : Pulls A H F := by repeat (first | with_reducible exact Pulls.nil | with_reducible exact Pulls.all | with_reducible apply Pulls.consX | with_reducible apply Pulls.nilX | ((with_reducible apply Pulls.cons); (repeat (first | with_reducible exact Pull.head | with_reducible apply Pull.consA | with_reducible apply Pull.nilA | exact Pull.head | with_reducible apply Pull.tail | with_reducible apply Pull.assoc | with_reducible apply Pull.app))) | with_reducible apply Pulls.assocX | ((with_reducible apply Pulls.chunk); (repeat (first | with_reducible apply PullA.consA | with_reducible apply PullA.nilA | with_reducible exact PullA.here | with_reducible exact PullA.all | exact PullA.here | with_reducible apply PullA.tail | with_reducible apply PullA.assoc | with_reducible apply PullA.app))) | ((with_reducible apply Pulls.chunk1); (repeat (first | with_reducible apply PullA.consA | with_reducible apply PullA.nilA | with_reducible exact PullA.here | with_reducible exact PullA.all | exact PullA.here | with_reducible apply PullA.tail | with_reducible apply PullA.assoc | with_reducible apply PullA.app)); done) | exact Pulls.all | with_reducible apply Pulls.consA | with_reducible apply Pulls.nilA | with_reducible apply Pulls.skip | with_reducible apply Pulls.assoc | with_reducible apply Pulls.skipA)) : Pulls A H F := h
theorem mmC {x : Ent} {H : Heap} (h : x ∈ H := by repeat (first | with_reducible exact memheadC | with_reducible apply memconsA | with_reducible apply memnilA | exact memheadC | with_reducible apply memtailC | with_reducible apply mem_assoc | with_reducible apply memappC)) : x ∈ H := h
theorem plose_none {m : PM} {s : PS} (h : PIs m s) (c : Nat) (hc : c < 64) (hE : s.E.length ≤ 1000000) (hn : s.Q = [] ∨ (s.set c ⟨0, 0, 0⟩).room = false) : Spec Tryz.prog 64 [ptrP m.p, .int .i64 (c : Int)] (poH m s) (fun r H' => ∃ m', r = .tuple #[] ∧ H' = poH m' (s.lose c) ∧ m'.p = m.p ∧ PIs m' (s.lose c)) := by
 obtain ⟨xc, hxc⟩ := getE (T := s.C) (i := c) (by rw [h.cl]; exact hc)
 have h0 : PIs m (s.set c ⟨0, 0, 0⟩) := h.set (Nat.zero_le _) ⟨by show (0 : Int) ≤ 0; decide, by show (0 : Int) ≤ 3; decide⟩
 have hls : s.lose c = s.set c ⟨0, 0, 0⟩ := by
  unfold PS.lose
  rcases hn with e | e
  ·exact PS.next_nil e
  ·exact PS.next_full e
 rw [hls]
 refine Spec.of (E := [(0, ptrP m.p), (1, .int .i64 (c : Int))]) Tryz.func64 rfl (by kernel_rfl) Tryz.ntmps64 rfl rfl (fun w => ?_)
 refine WCr (WLa Z (WLa Z (WLv Z (R_build Z zv132 pl132 Z Z) ?_)))
 refine WLa Z (WLf Z fa136_4 (WLv Z (R_indexAddrAN Z Tryz.underlying133 Tryz.sizeOf132 Z Z (by omega)) ?_))
 refine WLs (vs := [_, _, _]) Z Tryz.sizeOf132 Z Z plZ (by exact pc_room h.cl rfl (by omega)) ?_
 rw [show putAt _ _ [.int .i64 (0), .int .i64 (0), .int .u64 (0)] = _ from pc_put (A := pcH _) rfl (y := ⟨0, 0, 0⟩) hxc rfl]
 refine WL_nil (WQ_code (WC_seq (WCr (WLa Z (WLa Z (WLf Z fa136_5 (WLv Z (R_load (v := ptrQ m.q) Z sc127 Z mmZ (pc_t h0.cl Z 0)) ?_)))))))
 refine WLq Z (qlen_ok m.q m.qm (fq s.Q) s.n m.qes m.qmc h.qk h.qM) Z pqZ ?_
 refine WLa Z (WLa Z ?_)
 refine WL_splitD (s := 18) Z (fun c1 => ?_) (fun c1 => ?_)
 ·refine WLa Z (WLa Z (WLa Z (WLa Z (WL_nil (WQ_code (WC_T Z (WC_ret ?_)))))))
  refine WQ2 Z (by
    exact ⟨m, rfl, rfl, rfl, h0⟩) pqZ
 ·have hf : (s.set c ⟨0, 0, 0⟩).room = false := by rcases hn with e | e; exact absurd (by show ((fq s.Q).length : Int) = 0; rw [e]; rfl) c1; exact e
  refine WLa Z (WLq Z (proom_ok h0) Z pqZ ?_)
  refine WLa Z (WL_set (s := 21) (v := .bool true) Z (by rw [hf]; rfl) ?_)
  refine WLa Z (WL_nil (WQ_code (WC_T Z (WC_ret ?_))))
  refine WQ2 Z (by
    exact ⟨m, rfl, rfl, rfl, h0⟩) pqZ
theorem plose_some {m : PM} {s : PS} (h : PIs m s) (c : Nat) (hc : c < 64) (hE : s.E.length ≤ 1000000) {x : Qp} {r : List Qp} (hQ : s.Q = x :: r) (hr : (s.set c ⟨0, 0, 0⟩).room = true) : Spec Tryz.prog 64 [ptrP m.p, .int .i64 (c : Int)] (poH m s) (fun r H' => ∃ m', r = .tuple #[] ∧ H' = poH m' (s.lose c) ∧ m'.p = m.p ∧ PIs m' (s.lose c)) := by
 obtain ⟨xc, hxc⟩ := getE (T := s.C) (i := c) (by rw [h.cl]; exact hc)
 have h0 : PIs m (s.set c ⟨0, 0, 0⟩) := h.set (Nat.zero_le _) ⟨by show (0 : Int) ≤ 0; decide, by show (0 : Int) ≤ 3; decide⟩
 have hls : s.lose c = ((s.set c ⟨0, 0, 0⟩).pop.dial x.who).tell 2 x.who ((s.set c ⟨0, 0, 0⟩).free : Int) := PS.next_ok hQ hr
 have hne := PS.room_ne hr h0.cl h0.op.2
 rw [hls]
 refine Spec.of (E := [(0, ptrP m.p), (1, .int .i64 (c : Int))]) Tryz.func64 rfl (by kernel_rfl) Tryz.ntmps64 rfl rfl (fun w => ?_)
 refine WCr (WLa Z (WLa Z (WLv Z (R_build Z zv132 pl132 Z Z) ?_)))
 refine WLa Z (WLf Z fa136_4 (WLv Z (R_indexAddrAN Z Tryz.underlying133 Tryz.sizeOf132 Z Z (by omega)) ?_))
 refine WLs (vs := [_, _, _]) Z Tryz.sizeOf132 Z Z plZ (by exact pc_room h.cl rfl (by omega)) ?_
 rw [show putAt _ _ [.int .i64 (0), .int .i64 (0), .int .u64 (0)] = _ from pc_put (A := pcH _) rfl (y := ⟨0, 0, 0⟩) hxc rfl]
 refine WL_nil (WQ_code (WC_seq (WCr (WLa Z (WLa Z (WLf Z fa136_5 (WLv Z (R_load (v := ptrQ m.q) Z sc127 Z mmZ (pc_t h0.cl Z 0)) ?_)))))))
 refine WLq Z (qlen_ok m.q m.qm (fq s.Q) s.n m.qes m.qmc h.qk h.qM) Z pqZ ?_
 refine WLa Z (WLa Z (WL_set (s := 18) (v := .bool false) Z (by rw [show s.Q = x :: r from hQ]; simp; omega) ?_))
 refine WLa Z (WLq Z (proom_ok h0) Z pqZ ?_)
 refine WLa Z (WL_set (s := 21) (v := .bool false) Z (by rw [hr]; rfl) ?_)
 refine WLa Z (WL_nil (WQ_code (WC_F Z (WC_skip (WQ_code (WCr (WLa Z (WLc Z (pfirst_ok h0 (x := x) (r := r) hQ) Z pqZ ?_))))))))
 rintro _ _ ⟨_, ⟨m1, rfl, rfl, hp1, h1⟩, rfl⟩
 rw [← hp1]
 refine WLa Z (WLa Z (WLa Z (WLa Z (WLa Z (WL_nil (WQ_code (WC_region (WLa Z (WLa Z (WLa Z (WLa Z (WLq Z (pdial_ok h1 x.who hne) Z pqZ ?_))))))))))))
 refine WLc Z (ptell_ok (h1.dial x.who) 2 x.who ((s.set c ⟨0, 0, 0⟩).free : Int) hE) Z pqZ ?_
 rintro _ _ ⟨_, ⟨ob, ek, ec, epre, etl, rfl, rfl, hoS⟩, rfl⟩
 refine WL_nil ?_
 refine WQ2 Z (by
   exact ⟨{ m1 with eb := ob, ek := ek, ec := ec, epre := epre, etl := etl }, rfl, rfl, rfl, (h1.dial x.who).tell hoS⟩) pqZ
theorem plose_ok {m : PM} {s : PS} (h : PIs m s) (c : Nat) (hc : c < 64) (hE : s.E.length ≤ 1000000) : Spec Tryz.prog 64 [ptrP m.p, .int .i64 (c : Int)] (poH m s) (fun r H' => ∃ m', r = .tuple #[] ∧ H' = poH m' (s.lose c) ∧ m'.p = m.p ∧ PIs m' (s.lose c)) := by
 cases hQ : s.Q with
 | nil => exact plose_none h c hc hE (.inl hQ)
 | cons x r =>
  cases hr : (s.set c ⟨0, 0, 0⟩).room with
  | false => exact plose_none h c hc hE (.inr hr)
  | true => exact plose_some h c hc hE hQ hr
theorem pin_ok {m : PM} {s : PS} (h : PIs m s) (hE : s.E.length ≤ 10000) (c st : Int) (now : Nat) : Spec Tryz.prog 63 [ptrP m.p, .int .i64 c, .int .i64 st, .int .u64 (now : Int)] [poP m s] (fun r H' => r = .int .i64 (s.inE c st now) ∧ H' = [poP m s]) := by
 refine Spec.of (E := [(0, ptrP m.p), (1, .int .i64 c), (2, .int .i64 st), (3, .int .u64 (now : Int))]) Tryz.func63 rfl (by kernel_rfl) Tryz.ntmps63 rfl rfl (fun w => ?_)
 refine WCr (WLa Z (WL_nil (WQ_code (WCr (WLa Z (WLa Z (WLa Z (WLa Z (WLq Z (pmay_ok h (decide (0 ≤ c)) now) Z pqZ ?_)))))))))
 refine WLa Z (WL_nil (WQ_code (WC_seq (WC_block (WCr (WLa Z (WLa Z (WLa Z (WL_nil (WQ_code ?_))))))))))
 refine WC_dec Z (fun c1 => ?_) (fun c1 => ?_)
 ·have hm := c1
  refine WCr (WLa Z (WLa Z (WL_nil (WQ_code (WC_ret ?_)))))
  refine WQ1 Z (by
    first | exact ⟨congrArg (Value.int .i64) (inE_may hm).symm, rfl⟩ | exact ⟨congrArg (Value.int .i64) (inE_none hm (.inl (by omega))).symm, rfl⟩ | exact ⟨congrArg (Value.int .i64) (inE_none hm (.inr (by rw [Int.toNat_natCast, hx]; simpa using hc))).symm, rfl⟩ | exact ⟨congrArg (Value.int .i64) (inE_ok hm (by rw [Int.toNat_natCast, hx]; simp only [Option.map_some, Option.some.injEq, ne_eq]; omega)).symm, rfl⟩) pqZ
 ·have hm : s.may (decide (0 ≤ c)) now = 0 := Decidable.byContradiction c1
  obtain ⟨k, rfl⟩ : ∃ k : Nat, c = (k : Int) := ⟨c.toNat, by have := of_decide_eq_true (may_zero hm).1; omega⟩
  refine WCr (WLa Z (WLa Z (WLa Z ?_)))
  refine WL_splitD (s := 22) Z (fun c2 => ?_) (fun c2 => ?_)
  ·have hg := c2
   refine WLa Z (WLa Z (WLa Z (WLa Z (WLa Z (WLa Z (WLa Z (WLa Z (WLa Z (WLa Z (WLa Z (WL_nil (WQ_code (WC_T Z (WCr (WLa Z (WL_nil (WQ_code (WC_ret ?_))))))))))))))))))
   refine WQ1 Z (by
     first | exact ⟨congrArg (Value.int .i64) (inE_may hm).symm, rfl⟩ | exact ⟨congrArg (Value.int .i64) (inE_none hm (.inl (by omega))).symm, rfl⟩ | exact ⟨congrArg (Value.int .i64) (inE_none hm (.inr (by rw [Int.toNat_natCast, hx]; simpa using hc))).symm, rfl⟩ | exact ⟨congrArg (Value.int .i64) (inE_ok hm (by rw [Int.toNat_natCast, hx]; simp only [Option.map_some, Option.some.injEq, ne_eq]; omega)).symm, rfl⟩) pqZ
  ·have hg := c2
   obtain ⟨x, hx⟩ := getE (T := s.C) (i := k) (by rw [h.cl]; omega)
   refine WLa Z (WLa Z (WLa Z (WLf Z fa136_4 (WLv Z (R_indexAddrAN Z Tryz.underlying133 Tryz.sizeOf132 Z Z (by omega)) ?_))))
   refine WLf Z fa132_0 (WLv Z (R_load (v := .int .i64 x.st) Z sc130 Z mmZ (pc_get (A := pcH s) Z hx (j := 0) (by omega))) ?_)
   refine WLa Z (WLa Z (WLa Z (WLa Z (WL_nil (WQ_code ?_)))))
   refine WC_dec Z (fun c3 => ?_) (fun c3 => ?_)
   ·have hc := c3
    refine WCr (WLa Z (WL_nil (WQ_code (WC_ret ?_))))
    refine WQ1 Z (by
      first | exact ⟨congrArg (Value.int .i64) (inE_may hm).symm, rfl⟩ | exact ⟨congrArg (Value.int .i64) (inE_none hm (.inl (by omega))).symm, rfl⟩ | exact ⟨congrArg (Value.int .i64) (inE_none hm (.inr (by rw [Int.toNat_natCast, hx]; simpa using hc))).symm, rfl⟩ | exact ⟨congrArg (Value.int .i64) (inE_ok hm (by rw [Int.toNat_natCast, hx]; simp only [Option.map_some, Option.some.injEq, ne_eq]; omega)).symm, rfl⟩) pqZ
   ·have hc := c3
    refine WC_skip (WQ_code (WCr (WLa Z (WLq Z (pfull_ok h hE) Z pqZ ?_))))
    refine WLa Z (WL_nil (WQ_code (WC_ret ?_)))
    refine WQ1 Z (by
      first | exact ⟨congrArg (Value.int .i64) (inE_may hm).symm, rfl⟩ | exact ⟨congrArg (Value.int .i64) (inE_none hm (.inl (by omega))).symm, rfl⟩ | exact ⟨congrArg (Value.int .i64) (inE_none hm (.inr (by rw [Int.toNat_natCast, hx]; simpa using hc))).symm, rfl⟩ | exact ⟨congrArg (Value.int .i64) (inE_ok hm (by rw [Int.toNat_natCast, hx]; simp only [Option.map_some, Option.some.injEq, ne_eq]; omega)).symm, rfl⟩) pqZ
theorem pdialed_ok {m : PM} {s : PS} (h : PIs m s) (hE : s.E.length ≤ 10000) (c : Int) (made : Bool) (now : Nat) (hb : now ≤ 18446744073709551615) : Spec Tryz.prog 35 [ptrP m.p, .int .i64 c, .bool made, .int .u64 (now : Int)] (poH m s) (fun r H' => ∃ m', r = .int .i64 (s.inE c 1 now) ∧ H' = poH m' (s.dialed c made now) ∧ m'.p = m.p ∧ PIs m' (s.dialed c made now)) := by
 refine Spec.of (E := [(0, ptrP m.p), (1, .int .i64 c), (2, .bool made), (3, .int .u64 (now : Int))]) Tryz.func35 rfl (by kernel_rfl) Tryz.ntmps35 rfl rfl (fun w => ?_)
 refine WCr (WLa Z (WL_nil (WQ_code (WC_seq (WCr (WLa Z (WLa Z (WLa Z (WLq Z (pin_ok h hE c 1 now) Z pqZ ?_)))))))))
 refine WLa Z (WL_nil (WQ_code (WCr (WLa Z (WLa Z (WL_nil (WQ_code ?_)))))))
 refine WC_dec Z (fun c1 => ?_) (fun c1 => ?_)
 ·have hm := c1
  refine WCr (WLa Z (WLa Z (WL_nil (WQ_code (WC_ret ?_)))))
  refine WQ1 Z (by
    exact ⟨m, rfl, by rw [dialed_no hm], rfl, by rw [dialed_no hm]; exact h⟩) pqZ
 ·have hm : s.inE c 1 now = 0 := Decidable.byContradiction c1
  obtain ⟨k, x, rfl, hk, hx, hst, hle, hne⟩ := inE_zero hm
  refine WC_skip (WQ_code (WCr (WLa Z (WLa Z (WLa Z (WLf Z fa136_3 (WLs (vs := [_]) Z Tryz.sizeOf25 Z Z plZ (by exact pc_nowr m s) ?_)))))))
  rw [pc_now]
  have h0 := h.at_ (now := now) hle (by omega)
  refine WL_nil (WQ_code (WC_seq (WCr (WLa Z (WL_nil (WQ_code ?_))))))
  refine WC_if Z (fun c2 => ?_) (fun c2 => ?_)
  ·subst c2
   refine WC_region (WLa Z (WLa Z (WLv Z (R_build Z zv132 pl132 Z Z) ?_)))
   refine WLa Z (WLf Z fa136_4 (WLv Z (R_indexAddrAN Z Tryz.underlying133 Tryz.sizeOf132 Z Z (by omega)) ?_))
   refine WLs (vs := [_, _, _]) Z Tryz.sizeOf132 Z Z plZ (by exact pc_room h.cl rfl (by omega)) ?_
   rw [show putAt _ _ [.int .i64 (2), .int .i64 (0), .int .u64 (0)] = _ from pc_put (A := pcH _) rfl (y := ⟨2, 0, 0⟩) (show (s.at_ now).C[k]? = some x from hx) rfl]
   refine WL_nil (WQ_code (WCr (WLa Z (WL_nil (WQ_code (WC_ret ?_))))))
   refine WQ1 Z (by
     exact ⟨m, congrArg (Value.int .i64) hm.symm, by rw [dialed_made hm], rfl, by rw [dialed_made hm]; exact h0.set (Nat.zero_le _) (⟨by decide, by decide⟩ : (0 : Int) ≤ 2 ∧ (2 : Int) ≤ 3)⟩) pqZ
  ·subst c2
   refine WC_region (WLa Z (WLa Z (WLc Z (plose_ok h0 k (by omega) (by show s.E.length ≤ _; omega)) Z pqZ ?_)))
   rintro _ _ ⟨_, ⟨m1, rfl, rfl, hp1, h1⟩, rfl⟩
   refine WL_nil (WQ_code (WCr (WLa Z (WL_nil (WQ_code (WC_ret ?_))))))
   refine WQ1 Z (by
     exact ⟨m1, congrArg (Value.int .i64) hm.symm, by rw [dialed_lost hm], hp1, by rw [dialed_lost hm]; exact h1⟩) pqZ
theorem pput_true {m : PM} {s : PS} (h : PIs m s) (hE : s.E.length ≤ 10000) (c : Int) (now : Nat) (hb : now ≤ 18446744073709551615) : Spec Tryz.prog 40 [ptrP m.p, .int .i64 c, .bool true, .int .u64 (now : Int)] (poH m s) (fun r H' => ∃ m', r = .int .i64 (s.inE c 2 now) ∧ H' = poH m' (s.put c true now) ∧ m'.p = m.p ∧ PIs m' (s.put c true now)) := by
 refine Spec.of (E := [(0, ptrP m.p), (1, .int .i64 c), (2, .bool true), (3, .int .u64 (now : Int))]) Tryz.func40 rfl (by kernel_rfl) Tryz.ntmps40 rfl rfl (fun w => ?_)
 refine WCr (WLa Z (WL_nil (WQ_code (WC_seq (WCr (WLa Z (WLa Z (WLa Z (WLq Z (pin_ok h hE c 2 now) Z pqZ ?_)))))))))
 refine WLa Z (WL_nil (WQ_code (WCr (WLa Z (WLa Z (WL_nil (WQ_code ?_)))))))
 refine WC_dec Z (fun c1 => ?_) (fun c1 => ?_)
 ·have hm := c1
  refine WCr (WLa Z (WLa Z (WL_nil (WQ_code (WC_ret ?_)))))
  refine WQ1 Z (by
    exact ⟨m, rfl, by rw [put_no hm], rfl, by rw [put_no hm]; exact h⟩) pqZ
 ·have hm : s.inE c 2 now = 0 := Decidable.byContradiction c1
  obtain ⟨k, x, rfl, hk, hx, hst, hle, hne⟩ := inE_zero hm
  refine WC_skip (WQ_code (WCr (WLa Z (WLa Z (WLa Z (WLf Z fa136_3 (WLs (vs := [_]) Z Tryz.sizeOf25 Z Z plZ (by exact pc_nowr m s) ?_)))))))
  rw [pc_now]
  have h0 := h.at_ (now := now) hle (by omega)
  refine WL_nil (WQ_code (WC_seq (WC_block (WCr (WLa Z (WLa Z (WLa Z (WLa Z (WLf Z fa136_5 (WLv Z (R_load (v := ptrQ m.q) Z sc127 Z mmZ (pc_t h0.cl Z 0)) ?_))))))))))
  refine WLq Z (qlen_ok m.q m.qm (fq s.Q) s.n m.qes m.qmc h.qk h.qM) Z pqZ ?_
  refine WLa Z (WLa Z (WLa Z (WL_nil (WQ_code ?_))))
  refine WC_dec Z (fun c2 => ?_) (fun c2 => ?_)
  ·obtain ⟨xq, rq, hQ⟩ : ∃ x r, s.Q = x :: r := by cases hq9 : s.Q with | nil => exact absurd c2 (by show ¬ ((fq s.Q).length : Int) > 0; rw [hq9]; simp) | cons x r => exact ⟨x, r, rfl⟩
   refine WCr (WLa Z (WLc Z (pfirst_ok h0 (x := xq) (r := rq) hQ) Z pqZ ?_))
   rintro _ _ ⟨_, ⟨m1, rfl, rfl, hp1, h1⟩, rfl⟩
   rw [← hp1]
   refine WLa Z (WLa Z (WLa Z (WLa Z (WLa Z (WL_nil (WQ_code (WC_region (WLa Z (WLa Z (WLa Z (WLc Z (ptell_ok h1 1 xq.who (k : Int) (by show s.E.length ≤ _; omega)) Z pqZ ?_)))))))))))
   rintro _ _ ⟨_, ⟨ob, ek, ec, epre, etl, rfl, rfl, hoS⟩, rfl⟩
   refine WL_nil (WQ_code (WCr (WLa Z (WL_nil (WQ_code (WC_ret ?_))))))
   refine WQ1 Z (by
     exact ⟨{ m1 with eb := ob, ek := ek, ec := ec, epre := epre, etl := etl }, congrArg (Value.int .i64) hm.symm, by rw [put_use hm hQ], rfl, by rw [put_use hm hQ]; exact h1.tell hoS⟩) pqZ
  ·have hQ : s.Q = [] := by cases hq9 : s.Q with | nil => rfl | cons x r => exact absurd (by show ((fq s.Q).length : Int) > 0; rw [hq9]; simp <;> omega) c2
   refine WC_seq (WC_draw ([poP m (s.at_ now)]) [(0, true), (1, true), (2, true), (5, true), (6, true), (7, true), (8, true), (3, false), (4, true), (9, true), (10, true), (11, true)] followsMixed Z Z (by kernel_rfl) pqZ ?_)
   refine WMa Z (WMa Z (WMa Z (WMa Z (WMa Z (WMf Z fa136_1 (WMl Z sc3 mmZ Z (WMd Z (D_call (pall_ok h0 3) Z Z Z Z pqZ) ?_)))))))
   rintro _ _ ⟨_, ⟨o9, c9, tl9, rfl, own9, rfl⟩, rfl⟩
   refine ⟨⟨_, pqZ⟩, ?_⟩
   refine WMv Z (R_len Z Tryz.underlying23 Z) ?_
   refine WMa Z (WMa Z (WMa Z (WM_nil (WQ_code ?_))))
   refine WC_dec Z (fun c3 => ?_) (fun c3 => ?_)
   ·have hl : (allI 3 s.C).length < s.most := by have h9 : ((allI 3 s.C).length : Int) < (s.most : Int) := c3; omega
    refine WC_region (WLa Z (WLa Z (WLa Z (WLv Z (R_build Z zv132 pl132 Z Z) ?_))))
    refine WLa Z (WLf Z fa136_4 (WLv Z (R_indexAddrAN Z Tryz.underlying133 Tryz.sizeOf132 Z Z (by omega)) ?_))
    refine WLs (vs := [_, _, _]) Z Tryz.sizeOf132 Z Z plZ (by exact pc_room h.cl rfl (by omega)) ?_
    rw [show putAt _ _ [.int .i64 (3), .int .i64 (0), .int .u64 ((now : Nat) : Int)] = _ from pc_put (A := pcH _) rfl (y := ⟨3, 0, now⟩) (show (s.at_ now).C[k]? = some x from hx) rfl]
    refine WL_nil (WQ_code (WCr (WLa Z (WL_nil (WQ_code (WC_ret ?_))))))
    refine WQ1 Z (by
      exact ⟨m, congrArg (Value.int .i64) hm.symm, by rw [put_idle hm hQ hl], rfl, by rw [put_idle hm hQ hl]; exact h0.set (Nat.le_refl _) (⟨by decide, by decide⟩ : (0 : Int) ≤ 3 ∧ (3 : Int) ≤ 3)⟩) pqZ
   ·have hl : ¬ (allI 3 s.C).length < s.most := by have h9 : ¬ ((allI 3 s.C).length : Int) < (s.most : Int) := c3; omega
    refine WCr (WLa Z (WLa Z (WLc Z (ptell_ok h0 5 (-1) (k : Int) (by show s.E.length ≤ _; omega)) Z pqZ ?_)))
    rintro _ _ ⟨_, ⟨ob, ek, ec, epre, etl, rfl, rfl, hoS⟩, rfl⟩
    refine WL_nil (WQ_code (WC_region (WLa Z (WLa Z (WLc Z (plose_ok (h0.tell hoS) k (by omega) (by show (s.E ++ [_]).length ≤ _; rw [List.length_append]; simp; omega)) Z pqZ ?_)))))
    rintro _ _ ⟨_, ⟨m2, rfl, rfl, hp2, h2⟩, rfl⟩
    refine WL_nil (WQ_code (WCr (WLa Z (WL_nil (WQ_code (WC_ret ?_))))))
    refine WQ1 Z (by
      exact ⟨m2, congrArg (Value.int .i64) hm.symm, by rw [put_over hm hQ hl], hp2, by rw [put_over hm hQ hl]; exact h2⟩) pqZ
theorem pput_false {m : PM} {s : PS} (h : PIs m s) (hE : s.E.length ≤ 10000) (c : Int) (now : Nat) (hb : now ≤ 18446744073709551615) : Spec Tryz.prog 40 [ptrP m.p, .int .i64 c, .bool false, .int .u64 (now : Int)] (poH m s) (fun r H' => ∃ m', r = .int .i64 (s.inE c 2 now) ∧ H' = poH m' (s.put c false now) ∧ m'.p = m.p ∧ PIs m' (s.put c false now)) := by
 refine Spec.of (E := [(0, ptrP m.p), (1, .int .i64 c), (2, .bool false), (3, .int .u64 (now : Int))]) Tryz.func40 rfl (by kernel_rfl) Tryz.ntmps40 rfl rfl (fun w => ?_)
 refine WCr (WLa Z (WL_nil (WQ_code (WC_seq (WCr (WLa Z (WLa Z (WLa Z (WLq Z (pin_ok h hE c 2 now) Z pqZ ?_)))))))))
 refine WLa Z (WL_nil (WQ_code (WCr (WLa Z (WLa Z (WL_nil (WQ_code ?_)))))))
 refine WC_dec Z (fun c1 => ?_) (fun c1 => ?_)
 ·have hm := c1
  refine WCr (WLa Z (WLa Z (WL_nil (WQ_code (WC_ret ?_)))))
  refine WQ1 Z (by
    exact ⟨m, rfl, by rw [put_no hm], rfl, by rw [put_no hm]; exact h⟩) pqZ
 ·have hm : s.inE c 2 now = 0 := Decidable.byContradiction c1
  obtain ⟨k, x, rfl, hk, hx, hst, hle, hne⟩ := inE_zero hm
  refine WC_skip (WQ_code (WCr (WLa Z (WLa Z (WLa Z (WLf Z fa136_3 (WLs (vs := [_]) Z Tryz.sizeOf25 Z Z plZ (by exact pc_nowr m s) ?_)))))))
  rw [pc_now]
  have h0 := h.at_ (now := now) hle (by omega)
  refine WL_nil (WQ_code (WC_seq (WC_block (WCr (WLa Z (WLa Z (WLa Z (WLa Z (WLa Z (WLa Z (WLa Z (WLa Z (WLa Z (WLa Z (WL_nil (WQ_code (WC_F Z (WC_seq (WC_draw _ [(0, true), (1, true), (2, true), (5, true), (6, true), (7, true), (8, true), (3, false), (4, true), (9, true), (10, true), (11, true)] followsMixed Z Z (by kernel_rfl) .all ?_)))))))))))))))))))
  refine WMa Z (WMa Z (WMa Z (WMa Z (WMa Z (WMa Z (WMa Z (WM_skipF Z Z Z Z pqZ ?_)))))))
  refine WMa Z (WMa Z (WMa Z (WMa Z (WM_nil (WQ_code (WC_F Z (WCr (WLa Z (WLa Z (WLc Z (ptell_ok h0 5 (-1) (k : Int) (by show s.E.length ≤ _; omega)) Z pqZ ?_))))))))))
  rintro _ _ ⟨_, ⟨ob, ek, ec, epre, etl, rfl, rfl, hoS⟩, rfl⟩
  refine WL_nil (WQ_code (WC_region (WLa Z (WLa Z (WLc Z (plose_ok (h0.tell hoS) k (by omega) (by show (s.E ++ [_]).length ≤ _; rw [List.length_append]; simp; omega)) Z pqZ ?_)))))
  rintro _ _ ⟨_, ⟨m2, rfl, rfl, hp2, h2⟩, rfl⟩
  refine WL_nil (WQ_code (WCr (WLa Z (WL_nil (WQ_code (WC_ret ?_))))))
  refine WQ1 Z (by
    exact ⟨m2, congrArg (Value.int .i64) hm.symm, by rw [put_bad hm], hp2, by rw [put_bad hm]; exact h2⟩) pqZ
theorem pput_ok {m : PM} {s : PS} (h : PIs m s) (hE : s.E.length ≤ 10000) (c : Int) (good : Bool) (now : Nat) (hb : now ≤ 18446744073709551615) : Spec Tryz.prog 40 [ptrP m.p, .int .i64 c, .bool good, .int .u64 (now : Int)] (poH m s) (fun r H' => ∃ m', r = .int .i64 (s.inE c 2 now) ∧ H' = poH m' (s.put c good now) ∧ m'.p = m.p ∧ PIs m' (s.put c good now)) := by
 cases good with
 | true => exact pput_true h hE c now hb
 | false => exact pput_false h hE c now hb
theorem pleave_ok {m : PM} {s : PS} (h : PIs m s) {A B : List Qp} {x : Qp} (hQ : s.Q = A ++ x :: B) : Spec Tryz.prog 85 [ptrP m.p, .int .i64 x.who] (poH m s) (fun r H' => ∃ m', r = .tuple #[] ∧ H' = poH m' (s.leave x.who) ∧ m'.p = m.p ∧ PIs m' (s.leave x.who)) := by
 have hqk := h.qk
 have hqM := h.qM
 have hnd := h.nd
 have hpr := qk_sub h.qk (show (A ++ B).Sublist s.Q by rw [hQ]; exact List.Sublist.append_left (List.sublist_cons_self x B) A)
 have hin : (x.who, (x.t, x.dl)) ∈ wq s.Q := by rw [hQ]; exact List.mem_map_of_mem (List.mem_append_right _ (List.mem_cons_self ..))
 have hlv := leave_eq hQ hnd
 have hdel : delL (wq s.Q) x.who = wq (A ++ B) := by rw [wq_del]; exact congrArg wq (congrArg PS.Q hlv)
 have hfq : fq s.Q = fq A ++ (x.t, x.who) :: fq B := by rw [hQ]; simp [fq]
 have hfq2 : fq (A ++ B) = fq A ++ fq B := by simp [fq]
 rw [hlv]
 rw [hfq] at hqk hqM
 unfold poH
 rw [hfq]
 refine Spec.of (E := [(0, ptrP m.p), (1, .int .i64 x.who)]) Tryz.func85 rfl (by kernel_rfl) Tryz.ntmps85 rfl rfl (fun w => ?_)
 refine WC_seq (WC_draw ([poP m s, poW m]) [(0, true), (1, true), (2, true), (3, true), (4, true), (5, true), (6, true), (7, true), (8, true), (9, true), (10, true), (11, false)] followsMixed Z Z (by kernel_rfl) pqZ ?_)
 refine WMa Z (WMa Z (WMf Z fa136_5 (WMv Z (R_load (v := ptrQ m.q) Z sc127 Z mmZ (pc_t h.cl Z 0)) ?_)))
 refine WMa Z (WMa Z (WMf Z fa136_6 (WMv Z (R_load (v := .map (some m.wm)) Z sc129 Z mmZ (pc_t h.cl Z 1)) ?_)))
 refine WMa Z (WMv Z (R_lookK (k := x.who) (a := (x.t, x.dl)) Z Tryz.underlying129 int_key Z Z mmZ h.wM hin) ?_)
 refine WMv Z (R_field Z Tryz.underlying168 Z Z sc24 Z Z) ?_
 refine WMd Z (D_call (qrem_ok m.q m.qm (fq A) (fq B) x.t x.who s.n m.qes m.qmc hqk hqM) Z Z Z Z pqZ) ?_
 rintro _ _ ⟨_, ⟨es1, mc1, rfl, rfl, hM1⟩, rfl⟩
 refine ⟨⟨_, pqZ⟩, ?_⟩
 rw [← hfq2] at hM1 ⊢
 refine WM_nil (WQ_code (WC_region (WLa Z (WLa Z (WLf Z fa136_6 (WLv Z (R_load (v := .map (some m.wm)) Z sc129 Z mmZ (pc_t h.cl Z 1)) ?_))))))
 refine WLa Z (WL_do0 Z Z (D_deleteK (k := x.who) (a := (x.t, x.dl)) Z Tryz.underlying129 int_key Z Z plZ h.wM hin) ?_)
 rintro _ _ ⟨es9, hM9, rfl⟩
 rw [hdel] at hM9
 refine WL_nil ?_
 refine WQ2 Z (by
   exact ⟨{ m with qes := es1, qmc := mc1, wes := es9, wmc := m.wmc }, rfl, rfl, rfl, h.q hpr hM1 hM9 (fun y hy => by rw [hQ]; rcases List.mem_append.1 hy with hy | hy; exact List.mem_append_left _ hy; exact List.mem_append_right _ (List.mem_cons_of_mem _ hy))⟩) pqZ
end Go.Proofs.YtelmlkdibcdebaaGreat
section
set_option linter.unusedVariables false
set_option linter.unusedSimpArgs false
namespace Go.Proofs.YtelmlkdibcdebaaGreat
section
variable {X : Ctx} {E : Env} {H : Heap} {o : Oper}
theorem R_sliceArr {t u : TypeId} {x : Operand} {b k n sz : Nat} (ho : o.op = .slice t x none none none) (hu : X.P.underlying t = some (.array n u)) (hs : ∀ w, (sizeOf u).run X.P w = .ok sz w)
    (hx : ev E x = some (.pointer (some ⟨b, k, none⟩))) : Runs X o E H (.slice (some ⟨b, k, none⟩) n n) :=
  ⟨(by rw [ho]; intro c e; cases e), fun a w ha _ => by
    have h : (Instr.sliceAt t (.pointer (some ⟨b, k, none⟩)) none none none).run X.P w = .ok (.slice (some ⟨b, k, none⟩) n n) w := by
      simp [Instr.sliceAt, Instr.sliceBounds, Instr.sliceBound, Instr.sureAddr, run_underlying hu, hs w, addr_add0]
    simp [execOp, ho, ha.eval hx, h]⟩
theorem run_zeroValue {P : Program} {e : TypeId} {i : TypeInfo} {z : Value} (h1 : P.info? e = some i) (h2 : i.zero = some z) (w : World) : (zeroValue e).run P w = .ok z w := by
  simp [zeroValue, typeInfo, h1, h2]
theorem D_clear {t e e2 : TypeId} {sz bytes b k n c : Nat} {zs cs : List Value} {x : Operand} {F : Heap} (ho : o.op = .call { callee := .builtin .clear, args := #[x], argTypes := #[t] }) (hs : SI X.P t e sz bytes zs) (h1 : ∀ v ∈ zs, v.oneCell' = true)
    (hx : ev E x = some (.slice (some ⟨b, k, none⟩) n c)) (hp : Pull ⟨some b, cl cs e2⟩ H F) (hk : n = 0 ∨ k + n * sz ≤ cs.length) :
    Does X o E H (fun _ H' => ∃ ns : List Value, ns.length = n * sz ∧ H' = ⟨some b, cl (putAt cs k ns) e2⟩ :: F) := by
  intro a w ha hw next Q kk
  obtain ⟨g1, i, z, g2, g3, g4, g5, g6, g7, g8⟩ := hs
  refine ⟨about_true, ?_⟩
  rw [semAt_of (by rw [ho]; intro c e; cases e)]
  have hb : w.heap[b]? = some (cl cs e2) := by
    have := (hw.perm hp.perm).hok.ok _ (List.mem_cons_self ..)
    simpa [Ent.ok] using this
  cases n with
  | zero =>
    have hrun : (execOp a.eval o).run X.P w = .ok (.value (.tuple #[])) w := by
      simp [execOp, ho, resolve, ha.eval hx, invoke, builtin, Builtin.clear_, run_underlying g1]
    rw [hrun]
    exact kk _ _ _ ⟨[], by simp, rfl⟩ (by rw [putAt_nil]; exact hw.perm hp.perm)
  | succ n =>
    have hk' : k + (n + 1) * sz ≤ cs.length := by
      rcases hk with e | e
      · cases e
      · exact e
    have hlen : (Builtin.zeroCells zs.toArray (n + 1)).toList.length = (n + 1) * sz := by rw [Array.length_toList, size_zeroCells, List.size_toArray, g7]
    have hall : ∀ v ∈ (Builtin.zeroCells zs.toArray (n + 1)).toList, v.oneCell' = true := fun v hv => by
      simp only [Builtin.zeroCells, Array.toList_map, List.mem_map] at hv
      obtain ⟨j, _, rfl⟩ := hv
      have hj : j % zs.toArray.size < zs.toArray.size := Nat.mod_lt _ (by rw [List.size_toArray, g7]; exact g8)
      rw [getElem!_pos zs.toArray _ hj]
      exact h1 _ (by simp)
    obtain ⟨w', s1, s2, s3, s4, s5, s6, s7, s8⟩ := run_storeCells_at (P := X.P) (b := b) (e := e2) k (Builtin.zeroCells zs.toArray (n + 1)).toList 0 cs w hb (by rw [hlen]; omega) hall
    have hrun : (execOp a.eval o).run X.P w = .ok (.value (.tuple #[])) w' := by
      simp [execOp, ho, resolve, ha.eval hx, invoke, builtin, Builtin.clear_, run_underlying g1, run_zeroValue g2 g3, g6, s1]
    rw [hrun]
    exact kk _ _ _ ⟨_, hlen, rfl⟩ (by rw [Nat.add_zero] at s3; exact hw.turn hp s2 s3 s4 s5 s6 s7 s8)
end
end Go.Proofs.YtelmlkdibcdebaaGreat
end
namespace Go.Proofs.YtelmlkdibcdebaaGreat
theorem PIs.canc {m : PM} {s : PS} (h : PIs m s) {now : Nat} (who : Int) (hm : s.may (decide (0 ≤ who ∧ who ≤ 1000)) now = 0) (hb : now ≤ 18446744073709551615) : PIs m (s.at_ now) := by
 obtain ⟨_, h2, h3⟩ := may_zero hm
 exact h.at_ h2 (by omega)
theorem own_litP (b : Nat) (l : List Int) (h : l.length ≤ 1000000) : Own (some b) l.length l.length 1 (ivs l) [] :=
 ⟨by rw [ivs_len, Nat.mul_one], by rw [ivs_len]; simp, Nat.le_refl _, by omega, fun e => by cases e⟩
theorem pget1_ok (x : Cn) (b2 : Nat) (who : Int) : Spec Tryz.prog 117 [.agg (encC x).toArray, .pointer (some ⟨b2, 0, none⟩)] [⟨some b2, cl [.int .i64 who] 3⟩] (fun r H' => r = .bool (decide (x.st = 1 ∧ x.who = who)) ∧ H' = [⟨some b2, cl [.int .i64 who] 3⟩]) := by
 refine Spec.of (E := [(0, .agg (encC x).toArray), (1, .pointer (some ⟨b2, 0, none⟩))]) Tryz.func117 rfl (by kernel_rfl) Tryz.ntmps117 rfl rfl (fun w => ?_)
 refine WCr (WLd Z (D_box (cs := [_, _, _]) Z Z Z) ?_)
 rintro _ _ ⟨b1, rfl, rfl⟩
 refine WLa Z (WL_nil (WQ_code (WCr (WLf Z fa132_0 (WLl Z sc130 mmZ Z (WLa Z (WLa Z ?_)))))))
 refine WL_splitD (s := 7) Z (fun c1 => ?_) (fun c1 => ?_)
 ·have hg := c1
  refine WLf Z fa132_1 (WLl Z sc3 mmZ Z (WLl Z sc3 mmZ Z (WLa Z (WLa Z (WLa Z (WL_nil (WQ_code (WC_ret ?_))))))))
  refine WQ1 Z (by
    first | exact ⟨congrArg Value.bool (decide_eq_decide.2 (by omega)), rfl⟩ | exact ⟨congrArg Value.bool (decide_eq_false (by omega)).symm, rfl⟩) pqZ
 ·have hg := c1
  refine WLa Z (WLa Z (WLa Z (WLa Z (WLa Z (WLa Z (WL_nil (WQ_code (WC_ret ?_))))))))
  refine WQ1 Z (by
    first | exact ⟨congrArg Value.bool (decide_eq_decide.2 (by omega)), rfl⟩ | exact ⟨congrArg Value.bool (decide_eq_false (by omega)).symm, rfl⟩) pqZ
theorem dials_next {C : List Cn} {k : Nat} {x : Cn} {who : Int} (hx : C[k]? = some x) (h : (C.take k).any (fun x => decide (x.st = 1 ∧ x.who = who)) = false) (hp : decide (x.st = 1 ∧ x.who = who) = false) : (C.take (k + 1)).any (fun x => decide (x.st = 1 ∧ x.who = who)) = false := by
 rw [take_next hx, List.any_append, h, Bool.false_or, List.any_cons, List.any_nil, Bool.or_false, hp]
theorem cidx_ok {m : PM} {s : PS} (h : PIs m s) (b2 : Nat) (who : Int) : Spec Tryz.prog 160 [.slice (some ⟨m.p, 4, none⟩) 64 64, .func (.func 117) #[] #[.pointer (some ⟨b2, 0, none⟩)]] [poP m s, ⟨some b2, cl [.int .i64 who] 3⟩] (fun r H' => ∃ v : Int, r = .int .i64 v ∧ (0 ≤ v ↔ s.dials who = true) ∧ H' = [poP m s, ⟨some b2, cl [.int .i64 who] 3⟩]) := by
 refine Spec.of (E := [(0, .slice (some ⟨m.p, 4, none⟩) 64 64), (1, .func (.func 117) #[] #[.pointer (some ⟨b2, 0, none⟩)])]) Tryz.func160 rfl (by kernel_rfl) Tryz.ntmps160 rfl rfl (fun w => ?_)
 refine WCr (WLa Z (WL_nil (WQ_code (WC_seq (WCr (WLa Z (WLv Z (R_len Z Tryz.underlying200 Z) ?_)))))))
 refine WLa Z (WL_nil (WQ_code (WC_block (WC_loopF (G := Nat) [4, 5, 8, 9, 10, 11, 12, 13, 14, 15, 16, 17, 18] (fun k => k ≤ 64 ∧ (s.C.take k).any (fun x => decide (x.st = 1 ∧ x.who = who)) = false) (fun k => [(8, .int .i64 (k : Int))]) (fun k => []) (fun k => 64 - k) (0) (⟨Nat.zero_le _, Z⟩) leZ pqZ ?_))))
 rintro k ⟨hk, hz⟩
 refine WCr (WLa Z (WL_nil (WQ_code (WC_seq ?_))))
 refine WC_dec Z (fun c1 => ?_) (fun c1 => ?_)
 ·refine WC_skip (WQ_code (WC_seq (WC_block (WCr (WLa Z (WLa Z (WL_nil (WQ_code (WCr ?_)))))))))
  obtain ⟨x, hx⟩ := getE (T := s.C) (i := k) (by rw [h.cl]; omega)
  refine WLa Z (WLa Z (WLa Z (WLv Z (R_indexAddrN Z Tryz.underlying200 Tryz.sizeOf132 Z Z (by omega)) ?_)))
  refine WLv Z (R_loadA (vs := encC x) Z ag132 Z mmZ Z (by have := pc_atC (A := pcH s) (T := pcT m s.E.length) rfl hx; exact this)) ?_
  refine WLq Z (pget1_ok x b2 who) Z pqZ ?_
  refine WL_nil (WQ_code ?_)
  refine WC_if Z (fun c2 => ?_) (fun c2 => ?_)
  ·have hc := c2
   refine WCr (WLa Z (WLa Z (WL_nil (WQ_code (WC_ret ?_)))))
   refine WQ1 Z (by
     first | exact ⟨_, rfl, ⟨fun _ => List.any_eq_true.2 ⟨x, List.mem_of_getElem? hx, hc⟩, fun _ => Int.natCast_nonneg _⟩, rfl⟩ | exact ⟨_, rfl, ⟨fun e => absurd e (by decide), fun e => by unfold PS.dials at e; rw [List.take_of_length_le (by rw [h.cl]; omega)] at hz; rw [hz] at e; cases e⟩, rfl⟩) pqZ
  ·have hc := c2
   refine WC_skip (WQ_code (WC_region (WLv Z (R_add Z Z Z (by omega)) ?_)))
   refine WLa Z (WL_nil ?_)
   refine WQ_nextF (k + 1) (⟨by omega, dials_next hx hz hc⟩) (by omega) leZ (psZ) Z pqZ
 ·have hkl : k = 64 := by omega
  refine WC_exit (WQ_code (WCr (WLa Z (WL_nil (WQ_code (WC_ret ?_))))))
  refine WQ1 Z (by
    first | exact ⟨_, rfl, ⟨fun _ => List.any_eq_true.2 ⟨x, List.mem_of_getElem? hx, hc⟩, fun _ => Int.natCast_nonneg _⟩, rfl⟩ | exact ⟨_, rfl, ⟨fun e => absurd e (by decide), fun e => by unfold PS.dials at e; rw [List.take_of_length_le (by rw [h.cl]; omega)] at hz; rw [hz] at e; cases e⟩, rfl⟩) pqZ
theorem ccon_ok {m : PM} {s : PS} (h : PIs m s) (b2 : Nat) (who : Int) : Spec Tryz.prog 116 [.slice (some ⟨m.p, 4, none⟩) 64 64, .func (.func 117) #[] #[.pointer (some ⟨b2, 0, none⟩)]] [poP m s, ⟨some b2, cl [.int .i64 who] 3⟩] (fun r H' => r = .bool (s.dials who) ∧ H' = [poP m s, ⟨some b2, cl [.int .i64 who] 3⟩]) := by
 refine Spec.of (E := [(0, .slice (some ⟨m.p, 4, none⟩) 64 64), (1, .func (.func 117) #[] #[.pointer (some ⟨b2, 0, none⟩)])]) Tryz.func116 rfl (by kernel_rfl) Tryz.ntmps116 rfl rfl (fun w => ?_)
 refine WCr (WLa Z (WL_nil (WQ_code (WCr (WLa Z (WLa Z (WLc Z (cidx_ok h b2 who) Z pqZ ?_)))))))
 rintro _ _ ⟨_, ⟨v, rfl, hv, rfl⟩, rfl⟩
 refine WLa Z (WLa Z (WL_nil (WQ_code (WC_ret ?_))))
 refine WQ1 Z (by
   exact ⟨congrArg Value.bool (by cases hd : s.dials who with | true => exact decide_eq_true (hv.2 hd) | false => exact decide_eq_false (fun e => by have := hv.1 e; rw [hd] at this; cases this)), rfl⟩) pqZ
theorem since_at {C : List Cn} {k : Nat} {x : Cn} (h : C[k]? = some x) : sinceI C (k : Int) = x.since := by unfold sinceI; rw [Int.toNat_natCast, h]
theorem pget2_ok {m : PM} {s : PS} (h : PIs m s) (b1 : Nat) (a b : Int) (ha : a ∈ allI 3 s.C) (hb : b ∈ allI 3 s.C) : Spec Tryz.prog 119 [.int .i64 a, .int .i64 b, .pointer (some ⟨b1, 0, none⟩)] [⟨some b1, cl [ptrP m.p] 79⟩, poP m s] (fun r H' => r = .int .i64 (idleC s.C a b) ∧ [⟨some b1, cl [ptrP m.p] 79⟩, poP m s] = H') := by
 obtain ⟨i, x, rfl, hx, _⟩ := allI_mem ha
 obtain ⟨j, y, rfl, hy, _⟩ := allI_mem hb
 have hi := (List.getElem?_eq_some_iff.1 hx).1
 have hj := (List.getElem?_eq_some_iff.1 hy).1
 rw [h.cl] at hi hj
 refine Spec.of (E := [(0, .int .i64 (i : Int)), (1, .int .i64 (j : Int)), (2, .pointer (some ⟨b1, 0, none⟩))]) Tryz.func119 rfl (by kernel_rfl) Tryz.ntmps119 rfl rfl (fun w => ?_)
 refine WCr (WLa Z (WL_nil (WQ_code (WC_seq (WC_draw _ [(0, true), (1, true), (2, true), (3, true), (4, true), (5, true), (6, true), (7, true), (8, true), (9, true), (10, true), (11, true), (12, true), (13, true), (14, true), (15, true), (16, true), (17, true), (18, false), (19, false), (20, true)] followsMixed Z Z (by kernel_rfl) .all ?_)))))
 refine WMl Z sc79 mmZ Z (WMa Z (WMa Z (WMf Z fa136_4 (WMv Z (R_indexAddrAN Z Tryz.underlying133 Tryz.sizeOf132 Z Z (by omega)) ?_))))
 refine WMf Z fa132_2 (WMv Z (R_load (v := .int .u64 (x.since : Int)) Z sc25 Z mmZ (pc_get (A := pcH s) Z hx (j := 2) (by omega))) ?_)
 refine WMl Z sc79 mmZ Z (WMa Z (WMa Z (WMf Z fa136_4 (WMv Z (R_indexAddrAN Z Tryz.underlying133 Tryz.sizeOf132 Z Z (by omega)) ?_))))
 refine WMf Z fa132_2 (WMv Z (R_load (v := .int .u64 (y.since : Int)) Z sc25 Z mmZ (pc_get (A := pcH s) Z hy (j := 2) (by omega))) ?_)
 refine WM_call Z (Spec.quiet (cmpt_ok _ _)) Z Z Z Z Z Z Z pqZ ?_
 refine WMa Z (WMa Z (WM_call Z (Spec.quiet (cmpi_ok _ _)) Z Z Z Z Z Z Z pqZ ?_))
 refine WMd Z (D_buildSlice Z si23 Z Z Z) ?_
 rintro _ _ ⟨b1, rfl, rfl⟩
 refine ⟨⟨_, pqZ⟩, ?_⟩
 refine WMd Z (D_call (cor_ok [cmpI (x.since : Int) (y.since : Int), cmpI (i : Int) (j : Int)] (nb Z) _ _ [] (own_litP _ _ (nb Z))) Z Z Z Z pqZ) ?_
 rintro _ _ ⟨_, ⟨rfl, rfl⟩, rfl⟩
 refine ⟨⟨_, pqZ⟩, ?_⟩
 refine WMa Z (WM_nil (WQ_code (WC_ret ?_)))
 refine WQ1 Z (by
   exact ⟨congrArg (Value.int .i64) (show orL [_, _] = idleC s.C _ _ by unfold idleC lexI; rw [since_at hx, since_at hy]), rfl⟩) pqZ
theorem pget_ok {m : PM} {s : PS} (h : PIs m s) (hE : s.E.length ≤ 10000) (hn : s.n < 1000000000000) (who : Int) (now dl : Nat) (hb : now ≤ 18446744073709551615) : Spec Tryz.prog 61 [ptrP m.p, .int .i64 who, .int .u64 (now : Int), .int .u64 (dl : Int)] (poH m s)
  (fun r H' => ∃ m', r = .tuple #[pvV (s.getV who now dl), .int .i64 (getE_ s who now dl)] ∧ H' = poH m' (s.getS who now dl) ∧ m'.p = m.p ∧ PIs m' (s.getS who now dl)) := by
 have hql := h.ql
 have hlen := allI_len 3 s.C
 rw [h.cl] at hlen
 refine Spec.of (E := [(0, ptrP m.p), (1, .int .i64 who), (2, .int .u64 (now : Int)), (3, .int .u64 (dl : Int))]) Tryz.func61 rfl (by kernel_rfl) Tryz.ntmps61 rfl rfl (fun w => ?_)
 refine WCr (WLd Z (D_box (cs := [_]) Z Z Z) ?_)
 rintro _ _ ⟨b1, rfl, rfl⟩
 refine WLd Z (D_box (cs := [_]) Z Z Z) ?_
 rintro _ _ ⟨b2, rfl, rfl⟩
 refine WLd Z (D_alloc Z zv143) ?_
 rintro _ _ ⟨b3, rfl, rfl⟩
 refine WLa Z (WL_nil (WQ_code (WCr (WLl Z sc79 mmZ Z (WLl Z sc3 mmZ Z (WLa Z (WLa Z ?_)))))))
 refine WL_splitD (s := 21) Z (fun c1 => ?_) (fun c1 => ?_)
 ·have hg := c1
  refine WLl Z sc3 mmZ Z (WLa Z (WLa Z (WLa Z (WL_set (s := 24) (v := .bool (decide (0 ≤ who ∧ who ≤ 1000))) Z (by first | exact congrArg Value.bool (decide_eq_decide.2 (by omega)) | exact congrArg Value.bool (decide_eq_false (by omega)).symm) ?_))))
  refine WLq Z (pmay_ok h (decide (0 ≤ who ∧ who ≤ 1000)) now) Z pqZ ?_
  refine WLa Z (WL_nil (WQ_code (WC_seq (WC_block (WCr (WLa Z (WLa Z (WLa Z (WL_nil (WQ_code ?_))))))))))
  refine WC_dec Z (fun c2 => ?_) (fun c2 => ?_)
  ·have hm := c2
   refine WCr (WLv Z (R_build Z zv143 pl143 Z Z) ?_)
   refine WLa Z (WLs (vs := [_, _, _]) Z Tryz.sizeOf143 Z Z plZ (nb Z) ?_)
   refine WLa Z (WL_nil (WQ_code (WC_ret ?_)))
   refine WQ_ret Z Z (.cons (.cell (vs := [_, _, _]) Z ag143 mmZ Z atZ) (.cons (.tmp Z) .nil)) Z (by
     have he : getE_ s who now dl = _ := getE_may hm
     have hg9 := get_err (s := s) (who := who) (now := now) (dl := dl) (by rw [he]; exact hm)
     exact ⟨m, by rw [hg9.2, he]; rfl, by rw [hg9.1], rfl, by rw [hg9.1]; exact h⟩) pqZ
  ·have hm : s.may (decide (0 ≤ who ∧ who ≤ 1000)) now = 0 := Decidable.byContradiction c2
   refine WCr (WLa Z (WLa Z (WLa Z (WLa Z (WL_nil (WQ_code ?_))))))
   refine WC_dec Z (fun c3 => ?_) (fun c3 => ?_)
   ·have hd : dl ≤ now := by omega
    refine WCr (WLv Z (R_build Z zv143 pl143 Z Z) ?_)
    refine WLs (vs := [_, _, _]) Z Tryz.sizeOf143 Z Z plZ (nb Z) ?_
    refine WLa Z (WL_nil (WQ_code (WC_ret ?_)))
    refine WQ_ret Z Z (.cons (.cell (vs := [_, _, _]) Z ag143 mmZ Z atZ) (.cons (.tmp Z) .nil)) Z (by
      have he : getE_ s who now dl = _ := getE_late hm hd
      have hg9 := get_err (s := s) (who := who) (now := now) (dl := dl) (by rw [he]; decide)
      exact ⟨m, by rw [hg9.2, he]; rfl, by rw [hg9.1], rfl, by rw [hg9.1]; exact h⟩) pqZ
   ·have hd : ¬ dl ≤ now := by omega
    rcases waits_or s who with ⟨A, x, B, hQ, rfl⟩ | ⟨hw, hno⟩
    ·refine WC_skip (WQ_code (WC_seq (WC_draw _ [(0, true), (1, true), (2, true), (3, true), (4, true), (5, true), (6, true), (7, true), (8, true), (9, false), (10, false), (11, true)] followsMixed Z Z (by kernel_rfl) .all ?_)))
     refine WMl Z sc79 mmZ Z (WMa Z (WMf Z fa136_6 (WMv Z (R_load (v := .map (some m.wm)) Z sc129 Z mmZ (pc_t h.cl Z 1)) ?_)))
     refine WMl Z sc3 mmZ Z (WMv Z (R_lookKT (k := x.who) (a := (x.t, x.dl)) Z Tryz.underlying129 int_key Z Z mmZ h.wM (by rw [hQ]; exact List.mem_map_of_mem (List.mem_append_right _ (List.mem_cons_self ..)))) ?_)
     refine WMa Z (WMa Z (WMa Z (WM_set (s := 45) (v := .bool true) Z (by rfl) ?_)))
     refine WMd Z (D_alloc Z zv168) ?_
     rintro _ _ ⟨b4, rfl, rfl⟩
     refine ⟨⟨_, pqZ⟩, ?_⟩
     refine WM_do0 Z Z Z (D_store (vs := [_, _]) Z Tryz.sizeOf168 Z Z Z Z Z plZ (nb Z)) ?_
     rintro _ _ rfl
     refine ⟨⟨_, pqZ⟩, ?_⟩
     refine WMa Z (WM_nil (WQ_code (WC_seq (WCr (WLa Z (WLa Z (WLa Z (WLa Z (WLa Z (WLa Z (WLa Z (WLa Z (WLa Z (WL_nil (WQ_code (WC_T Z (WCr (WLv Z (R_build Z zv143 pl143 Z Z) ?_))))))))))))))))))
     refine WLs (vs := [_, _, _]) Z Tryz.sizeOf143 Z Z plZ (nb Z) ?_
     refine WLa Z (WL_nil (WQ_code (WC_ret ?_)))
     refine WQ_ret Z Z (.cons (.cell (vs := [_, _, _]) Z ag143 mmZ Z atZ) (.cons (.tmp Z) .nil)) Z (by
       have he := getE_busy hm hd (.inl (waits_in hQ))
       have hg9 := get_err (by rw [he]; decide)
       exact ⟨m, by rw [hg9.2, he]; rfl, by rw [hg9.1], rfl, by rw [hg9.1]; exact h⟩) pqZ
    ·refine WC_skip (WQ_code (WC_seq (WC_draw _ [(0, true), (1, true), (2, true), (3, true), (4, true), (5, true), (6, true), (7, true), (8, true), (9, false), (10, false), (11, true)] followsMixed Z Z (by kernel_rfl) .all ?_)))
     refine WMl Z sc79 mmZ Z (WMa Z (WMf Z fa136_6 (WMv Z (R_load (v := .map (some m.wm)) Z sc129 Z mmZ (pc_t h.cl Z 1)) ?_)))
     refine WMl Z sc3 mmZ Z (WMv Z (R_lookKF (k := who) (zv := .agg #[.int .u64 0, .int .u64 0]) Z Tryz.underlying129 int_key Z Z mmZ h.wM hno (fun w => Tryz.zeroValue168 w)) ?_)
     refine WMa Z (WMa Z (WMa Z (WM_set (s := 45) (v := .bool false) Z (by rfl) ?_)))
     refine WMd Z (D_alloc Z zv168) ?_
     rintro _ _ ⟨b5, rfl, rfl⟩
     refine ⟨⟨_, pqZ⟩, ?_⟩
     refine WM_do0 Z Z Z (D_store (vs := [_, _]) Z Tryz.sizeOf168 Z Z Z Z Z plZ (nb Z)) ?_
     rintro _ _ rfl
     refine ⟨⟨_, pqZ⟩, ?_⟩
     refine WMa Z (WM_nil (WQ_code (WC_seq (WCr (WLa Z (WLa Z (WLl Z sc79 mmZ Z (WLa Z (WLf Z fa136_4 (WLv Z (R_sliceArr Z Tryz.underlying133 Tryz.sizeOf132 Z) ?_))))))))))
     refine WLv Z (R_makeFunc Z Z Z) ?_
     refine WLq Z (ccon_ok h b2 who) Z pqZ ?_
     refine WLa Z (WL_nil (WQ_code ?_))
     refine WC_if Z (fun c4 => ?_) (fun c4 => ?_)
     ·have hdl := c4
      refine WCr (WLv Z (R_build Z zv143 pl143 Z Z) ?_)
      refine WLs (vs := [_, _, _]) Z Tryz.sizeOf143 Z Z plZ (nb Z) ?_
      refine WLa Z (WL_nil (WQ_code (WC_ret ?_)))
      refine WQ_ret Z Z (.cons (.cell (vs := [_, _, _]) Z ag143 mmZ Z atZ) (.cons (.tmp Z) .nil)) Z (by
        have he := getE_busy hm hd (.inr hdl)
        have hg9 := get_err (by rw [he]; decide)
        exact ⟨m, by rw [hg9.2, he]; rfl, by rw [hg9.1], rfl, by rw [hg9.1]; exact h⟩) pqZ
     ·have hdl := c4
      refine WC_skip (WQ_code (WC_seq (WCr (WLl Z sc79 mmZ Z (WLq Z (pfull_ok h hE) Z pqZ ?_)))))
      refine WLa Z (WL_nil (WQ_code (WCr (WLa Z (WLa Z (WL_nil (WQ_code (WC_dF Z (by simp) ?_))))))))
      refine WC_skip (WQ_code (WCr (WLl Z sc79 mmZ Z (WLa Z (WLa Z (WLf Z fa136_3 (WLs (vs := [_]) Z Tryz.sizeOf25 Z Z plZ (by exact pc_nowr m s) ?_)))))))
      rw [pc_now]
      have h0 := h.canc _ hm hb
      refine WL_nil (WQ_code (WC_seq (WCr (WLl Z sc79 mmZ Z (WLc Z (pall_ok h0 3) Z pqZ ?_)))))
      rintro _ _ ⟨_, ⟨o9, c9, tl9, rfl, own9, rfl⟩, rfl⟩
      refine WLa Z (WL_nil (WQ_code (WCr (WLa Z (WLv Z (R_len Z Tryz.underlying23 Z) ?_)))))
      refine WLa Z (WL_nil (WQ_code ?_))
      refine WC_dec Z (fun c5 => ?_) (fun c5 => ?_)
      ·have hl := c5
       refine WCr ?_
       have hne : allI 3 s.C ≠ [] := fun e => by have h9 : ((allI 3 s.C).length : Int) > 0 := hl; rw [e] at h9; simp at h9
       obtain ⟨kl, xl, hkl, hxl, hkl2, _⟩ := last_mem hne
       rw [h.cl] at hkl2
       refine WLa Z (WLv Z (R_makeFunc Z Z Z) ?_)
       refine WLq Z (maxf_ok (allI 3 s.C) o9 c9 tl9 own9 119 [.pointer (some ⟨b1, 0, none⟩)] [⟨some b1, cl [ptrP m.p] 79⟩, poP m (s.at_ now)] (idleC s.C) (fun a ha b hb => pget2_ok h0 b1 a b ha hb) (by show 1 ≤ (allI 3 s.C).length; exact List.length_pos_iff.2 hne) (by show (allI 3 s.C).length ≤ _; omega)) Z pqZ ?_
       refine WLa Z (WL_nil (WQ_code (WCr (WLl Z sc79 mmZ Z (WLa Z (WLv Z (R_build Z zv132 pl132 Z Z) ?_))))))
       refine WLa Z (WLf Z fa136_4 (WLv Z (R_indexAddrA Z Tryz.underlying133 Tryz.sizeOf132 Z Z (by exact ⟨by show 0 ≤ s.last; omega, by show s.last < 64; omega⟩)) ?_))
       refine WLs (vs := [_, _, _]) Z Tryz.sizeOf132 Z Z plZ (by exact pc_room h.cl rfl (i := s.last.toNat) (by omega)) ?_
       rw [show putAt _ _ [.int .i64 (2), .int .i64 (0), .int .u64 (0)] = _ from pc_put (A := pcH _) rfl (y := ⟨2, 0, 0⟩) (show (s.at_ now).C[s.last.toNat]? = some xl from hxl) rfl]
       refine WL_nil (WQ_code (WCr (WLl Z sc3 mmZ Z (WLa Z (WLv Z (R_build Z zv143 pl143 Z Z) ?_)))))
       refine WLs (vs := [_, _, _]) Z Tryz.sizeOf143 Z Z plZ (nb Z) ?_
       refine WLa Z (WL_nil (WQ_code (WC_ret ?_)))
       refine WQ_ret Z Z (.cons (.cell (vs := [_, _, _]) Z ag143 mmZ Z atZ) (.cons (.tmp Z) .nil)) Z (by
         have he := getE_ok hm hd hw hdl
         have hg9 := get_use he hne
         exact ⟨m, by rw [hg9.2, he]; rfl, by rw [hg9.1], rfl, by rw [hg9.1]; exact h0.set (Nat.zero_le _) (⟨by decide, by decide⟩ : (0 : Int) ≤ 2 ∧ (2 : Int) ≤ 3)⟩) pqZ
      ·have hni : allI 3 s.C = [] := List.eq_nil_of_length_eq_zero (by have h9 : ¬ ((allI 3 s.C).length : Int) > 0 := c5; omega)
       refine WC_skip (WQ_code (WC_seq (WCr (WLl Z sc79 mmZ Z (WLq Z (proom_ok h0) Z pqZ ?_)))))
       refine WL_nil (WQ_code ?_)
       refine WC_if Z (fun c6 => ?_) (fun c6 => ?_)
       ·have hr : s.room = true := c6
        refine WC_seq (WC_draw ([⟨some b1, cl [ptrP m.p] 79⟩, ⟨some b2, cl [.int .i64 who] 3⟩]) [(0, true), (1, true), (2, true), (3, false), (4, true), (5, false), (6, true)] followsMixed Z Z (by kernel_rfl) pqZ ?_)
        refine WMl Z sc3 mmZ Z (WMl Z sc79 mmZ Z (WMl Z sc3 mmZ Z (WMd Z (D_call (pdial_ok h0 who (PS.room_ne (s := s) hr h.cl h.op.2)) Z Z Z Z pqZ) ?_)))
        rintro _ _ ⟨_, ⟨rfl, rfl⟩, rfl⟩
        refine ⟨⟨_, pqZ⟩, ?_⟩
        refine WMv Z (R_build Z zv143 pl143 Z Z) ?_
        refine WM_do0 Z Z Z (D_store (vs := [_, _, _]) Z Tryz.sizeOf143 Z Z Z Z Z plZ (nb Z)) ?_
        rintro _ _ rfl
        refine ⟨⟨_, pqZ⟩, ?_⟩
        refine WMa Z (WM_nil (WQ_code (WC_ret ?_)))
        refine WQ_ret Z Z (.cons (.cell (vs := [_, _, _]) Z ag143 mmZ Z atZ) (.cons (.tmp Z) .nil)) Z (by
          have he := getE_ok hm hd hw hdl
          have hg9 := get_dial he hni hr
          exact ⟨m, by rw [hg9.2, he]; rfl, by rw [hg9.1], rfl, by rw [hg9.1]; exact h0.dial who⟩) pqZ
       ·have hr : s.room = false := c6
        refine WC_skip (WQ_code (WC_seq (WC_draw ([⟨some b1, cl [ptrP m.p] 79⟩, ⟨some b2, cl [.int .i64 who] 3⟩, poP m (s.at_ now)]) [(0, true), (1, true), (2, true), (3, true), (4, true), (5, false), (6, true), (7, true), (8, true), (9, true), (10, true)] followsMixed Z Z (by kernel_rfl) pqZ ?_)))
        refine WMl Z sc79 mmZ Z (WMa Z (WMf Z fa136_5 (WMv Z (R_load (v := ptrQ m.q) Z sc127 Z mmZ (pc_t h.cl Z 0)) ?_)))
        refine WMl Z sc3 mmZ Z (WMd Z (D_call (qpush_ok m.q m.qm (fq s.Q) s.n m.qes m.qmc h.qk h.qM (by rw [List.length_map]; omega) hn who) Z Z Z Z pqZ) ?_)
        rintro _ _ ⟨_, ⟨es1, mc1, rfl, rfl, hM1⟩, rfl⟩
        refine ⟨⟨_, pqZ⟩, ?_⟩
        rw [← fq_app s.Q ⟨s.n + 1, who, dl⟩] at hM1 ⊢
        refine WMa Z (WMa Z (WMa Z (WMa Z (WMa Z (WM_nil (WQ_code (WC_seq (WC_draw ([⟨some b1, cl [ptrP m.p] 79⟩, ⟨some b2, cl [.int .i64 who] 3⟩, poP m (s.at_ now)]) [(0, true), (1, true), (2, true), (3, true), (4, true), (5, true), (6, true), (7, true), (8, false)] followsMixed Z Z (by kernel_rfl) pqZ ?_))))))))
        refine WMl Z sc79 mmZ Z (WMa Z (WMf Z fa136_6 (WMv Z (R_load (v := .map (some m.wm)) Z sc129 Z mmZ (pc_t h.cl Z 1)) ?_)))
        refine WMl Z sc3 mmZ Z (WMa Z (WMa Z (WMv Z (R_build Z zv168 pl168 Z Z) ?_)))
        refine WM_do0 Z Z Z (D_mapAddK (k := who) (v := (s.n + 1, dl)) Z Tryz.underlying129 int_key Z Z Z plZ h.wM hno) ?_
        rintro _ _ ⟨es9, hM9, rfl⟩
        refine ⟨⟨_, pqZ⟩, ?_⟩
        refine WM_nil (WQ_code (WCr (WLl Z sc3 mmZ Z (WLv Z (R_build Z zv143 pl143 Z Z) ?_))))
        refine WLs (vs := [_, _, _]) Z Tryz.sizeOf143 Z Z plZ (nb Z) ?_
        refine WLa Z (WL_nil (WQ_code (WC_ret ?_)))
        refine WQ_ret Z Z (.cons (.cell (vs := [_, _, _]) Z ag143 mmZ Z atZ) (.cons (.tmp Z) .nil)) Z (by
          have he := getE_ok hm hd hw hdl
          have hg9 := get_wait he hni hr
          exact ⟨{ m with qes := es1, qmc := mc1, wes := es9, wmc := m.wmc + 1 }, by rw [hg9.2, he]; rfl, by rw [hg9.1], rfl, by rw [hg9.1]; exact h0.push (of_decide_eq_true (may_zero hm).1) hM1 hM9⟩) pqZ
 ·have hg := c1
  refine WLa Z (WLa Z (WLa Z (WLa Z (WL_set (s := 24) (v := .bool (decide (0 ≤ who ∧ who ≤ 1000))) Z (by first | exact congrArg Value.bool (decide_eq_decide.2 (by omega)) | exact congrArg Value.bool (decide_eq_false (by omega)).symm) ?_))))
  refine WLq Z (pmay_ok h (decide (0 ≤ who ∧ who ≤ 1000)) now) Z pqZ ?_
  refine WLa Z (WL_nil (WQ_code (WC_seq (WC_block (WCr (WLa Z (WLa Z (WLa Z (WL_nil (WQ_code ?_))))))))))
  refine WC_dec Z (fun c7 => ?_) (fun c7 => ?_)
  ·have hm := c7
   refine WCr (WLv Z (R_build Z zv143 pl143 Z Z) ?_)
   refine WLa Z (WLs (vs := [_, _, _]) Z Tryz.sizeOf143 Z Z plZ (nb Z) ?_)
   refine WLa Z (WL_nil (WQ_code (WC_ret ?_)))
   refine WQ_ret Z Z (.cons (.cell (vs := [_, _, _]) Z ag143 mmZ Z atZ) (.cons (.tmp Z) .nil)) Z (by
     have he : getE_ s who now dl = _ := getE_may hm
     have hg9 := get_err (s := s) (who := who) (now := now) (dl := dl) (by rw [he]; exact hm)
     exact ⟨m, by rw [hg9.2, he]; rfl, by rw [hg9.1], rfl, by rw [hg9.1]; exact h⟩) pqZ
  ·have hm : s.may (decide (0 ≤ who ∧ who ≤ 1000)) now = 0 := Decidable.byContradiction c7
   refine WCr (WLa Z (WLa Z (WLa Z (WLa Z (WL_nil (WQ_code ?_))))))
   refine WC_dec Z (fun c8 => ?_) (fun c8 => ?_)
   ·have hd : dl ≤ now := by omega
    refine WCr (WLv Z (R_build Z zv143 pl143 Z Z) ?_)
    refine WLs (vs := [_, _, _]) Z Tryz.sizeOf143 Z Z plZ (nb Z) ?_
    refine WLa Z (WL_nil (WQ_code (WC_ret ?_)))
    refine WQ_ret Z Z (.cons (.cell (vs := [_, _, _]) Z ag143 mmZ Z atZ) (.cons (.tmp Z) .nil)) Z (by
      have he : getE_ s who now dl = _ := getE_late hm hd
      have hg9 := get_err (s := s) (who := who) (now := now) (dl := dl) (by rw [he]; decide)
      exact ⟨m, by rw [hg9.2, he]; rfl, by rw [hg9.1], rfl, by rw [hg9.1]; exact h⟩) pqZ
   ·have hd : ¬ dl ≤ now := by omega
    rcases waits_or s who with ⟨A, x, B, hQ, rfl⟩ | ⟨hw, hno⟩
    ·refine WC_skip (WQ_code (WC_seq (WC_draw _ [(0, true), (1, true), (2, true), (3, true), (4, true), (5, true), (6, true), (7, true), (8, true), (9, false), (10, false), (11, true)] followsMixed Z Z (by kernel_rfl) .all ?_)))
     refine WMl Z sc79 mmZ Z (WMa Z (WMf Z fa136_6 (WMv Z (R_load (v := .map (some m.wm)) Z sc129 Z mmZ (pc_t h.cl Z 1)) ?_)))
     refine WMl Z sc3 mmZ Z (WMv Z (R_lookKT (k := x.who) (a := (x.t, x.dl)) Z Tryz.underlying129 int_key Z Z mmZ h.wM (by rw [hQ]; exact List.mem_map_of_mem (List.mem_append_right _ (List.mem_cons_self ..)))) ?_)
     refine WMa Z (WMa Z (WMa Z (WM_set (s := 45) (v := .bool true) Z (by rfl) ?_)))
     refine WMd Z (D_alloc Z zv168) ?_
     rintro _ _ ⟨b6, rfl, rfl⟩
     refine ⟨⟨_, pqZ⟩, ?_⟩
     refine WM_do0 Z Z Z (D_store (vs := [_, _]) Z Tryz.sizeOf168 Z Z Z Z Z plZ (nb Z)) ?_
     rintro _ _ rfl
     refine ⟨⟨_, pqZ⟩, ?_⟩
     refine WMa Z (WM_nil (WQ_code (WC_seq (WCr (WLa Z (WLa Z (WLa Z (WLa Z (WLa Z (WLa Z (WLa Z (WLa Z (WLa Z (WL_nil (WQ_code (WC_T Z (WCr (WLv Z (R_build Z zv143 pl143 Z Z) ?_))))))))))))))))))
     refine WLs (vs := [_, _, _]) Z Tryz.sizeOf143 Z Z plZ (nb Z) ?_
     refine WLa Z (WL_nil (WQ_code (WC_ret ?_)))
     refine WQ_ret Z Z (.cons (.cell (vs := [_, _, _]) Z ag143 mmZ Z atZ) (.cons (.tmp Z) .nil)) Z (by
       have he := getE_busy hm hd (.inl (waits_in hQ))
       have hg9 := get_err (by rw [he]; decide)
       exact ⟨m, by rw [hg9.2, he]; rfl, by rw [hg9.1], rfl, by rw [hg9.1]; exact h⟩) pqZ
    ·refine WC_skip (WQ_code (WC_seq (WC_draw _ [(0, true), (1, true), (2, true), (3, true), (4, true), (5, true), (6, true), (7, true), (8, true), (9, false), (10, false), (11, true)] followsMixed Z Z (by kernel_rfl) .all ?_)))
     refine WMl Z sc79 mmZ Z (WMa Z (WMf Z fa136_6 (WMv Z (R_load (v := .map (some m.wm)) Z sc129 Z mmZ (pc_t h.cl Z 1)) ?_)))
     refine WMl Z sc3 mmZ Z (WMv Z (R_lookKF (k := who) (zv := .agg #[.int .u64 0, .int .u64 0]) Z Tryz.underlying129 int_key Z Z mmZ h.wM hno (fun w => Tryz.zeroValue168 w)) ?_)
     refine WMa Z (WMa Z (WMa Z (WM_set (s := 45) (v := .bool false) Z (by rfl) ?_)))
     refine WMd Z (D_alloc Z zv168) ?_
     rintro _ _ ⟨b7, rfl, rfl⟩
     refine ⟨⟨_, pqZ⟩, ?_⟩
     refine WM_do0 Z Z Z (D_store (vs := [_, _]) Z Tryz.sizeOf168 Z Z Z Z Z plZ (nb Z)) ?_
     rintro _ _ rfl
     refine ⟨⟨_, pqZ⟩, ?_⟩
     refine WMa Z (WM_nil (WQ_code (WC_seq (WCr (WLa Z (WLa Z (WLl Z sc79 mmZ Z (WLa Z (WLf Z fa136_4 (WLv Z (R_sliceArr Z Tryz.underlying133 Tryz.sizeOf132 Z) ?_))))))))))
     refine WLv Z (R_makeFunc Z Z Z) ?_
     refine WLq Z (ccon_ok h b2 who) Z pqZ ?_
     refine WLa Z (WL_nil (WQ_code ?_))
     refine WC_if Z (fun c9 => ?_) (fun c9 => ?_)
     ·have hdl := c9
      refine WCr (WLv Z (R_build Z zv143 pl143 Z Z) ?_)
      refine WLs (vs := [_, _, _]) Z Tryz.sizeOf143 Z Z plZ (nb Z) ?_
      refine WLa Z (WL_nil (WQ_code (WC_ret ?_)))
      refine WQ_ret Z Z (.cons (.cell (vs := [_, _, _]) Z ag143 mmZ Z atZ) (.cons (.tmp Z) .nil)) Z (by
        have he := getE_busy hm hd (.inr hdl)
        have hg9 := get_err (by rw [he]; decide)
        exact ⟨m, by rw [hg9.2, he]; rfl, by rw [hg9.1], rfl, by rw [hg9.1]; exact h⟩) pqZ
     ·have hdl := c9
      refine WC_skip (WQ_code (WC_seq (WCr (WLl Z sc79 mmZ Z (WLq Z (pfull_ok h hE) Z pqZ ?_)))))
      refine WLa Z (WL_nil (WQ_code (WCr (WLa Z (WLa Z (WL_nil (WQ_code (WC_dF Z (by simp) ?_))))))))
      refine WC_skip (WQ_code (WCr (WLl Z sc79 mmZ Z (WLa Z (WLa Z (WLf Z fa136_3 (WLs (vs := [_]) Z Tryz.sizeOf25 Z Z plZ (by exact pc_nowr m s) ?_)))))))
      rw [pc_now]
      have h0 := h.canc _ hm hb
      refine WL_nil (WQ_code (WC_seq (WCr (WLl Z sc79 mmZ Z (WLc Z (pall_ok h0 3) Z pqZ ?_)))))
      rintro _ _ ⟨_, ⟨o9, c9, tl9, rfl, own9, rfl⟩, rfl⟩
      refine WLa Z (WL_nil (WQ_code (WCr (WLa Z (WLv Z (R_len Z Tryz.underlying23 Z) ?_)))))
      refine WLa Z (WL_nil (WQ_code ?_))
      refine WC_dec Z (fun c10 => ?_) (fun c10 => ?_)
      ·have hl := c10
       refine WCr ?_
       have hne : allI 3 s.C ≠ [] := fun e => by have h9 : ((allI 3 s.C).length : Int) > 0 := hl; rw [e] at h9; simp at h9
       obtain ⟨kl, xl, hkl, hxl, hkl2, _⟩ := last_mem hne
       rw [h.cl] at hkl2
       refine WLa Z (WLv Z (R_makeFunc Z Z Z) ?_)
       refine WLq Z (maxf_ok (allI 3 s.C) o9 c9 tl9 own9 119 [.pointer (some ⟨b1, 0, none⟩)] [⟨some b1, cl [ptrP m.p] 79⟩, poP m (s.at_ now)] (idleC s.C) (fun a ha b hb => pget2_ok h0 b1 a b ha hb) (by show 1 ≤ (allI 3 s.C).length; exact List.length_pos_iff.2 hne) (by show (allI 3 s.C).length ≤ _; omega)) Z pqZ ?_
       refine WLa Z (WL_nil (WQ_code (WCr (WLl Z sc79 mmZ Z (WLa Z (WLv Z (R_build Z zv132 pl132 Z Z) ?_))))))
       refine WLa Z (WLf Z fa136_4 (WLv Z (R_indexAddrA Z Tryz.underlying133 Tryz.sizeOf132 Z Z (by exact ⟨by show 0 ≤ s.last; omega, by show s.last < 64; omega⟩)) ?_))
       refine WLs (vs := [_, _, _]) Z Tryz.sizeOf132 Z Z plZ (by exact pc_room h.cl rfl (i := s.last.toNat) (by omega)) ?_
       rw [show putAt _ _ [.int .i64 (2), .int .i64 (0), .int .u64 (0)] = _ from pc_put (A := pcH _) rfl (y := ⟨2, 0, 0⟩) (show (s.at_ now).C[s.last.toNat]? = some xl from hxl) rfl]
       refine WL_nil (WQ_code (WCr (WLl Z sc3 mmZ Z (WLa Z (WLv Z (R_build Z zv143 pl143 Z Z) ?_)))))
       refine WLs (vs := [_, _, _]) Z Tryz.sizeOf143 Z Z plZ (nb Z) ?_
       refine WLa Z (WL_nil (WQ_code (WC_ret ?_)))
       refine WQ_ret Z Z (.cons (.cell (vs := [_, _, _]) Z ag143 mmZ Z atZ) (.cons (.tmp Z) .nil)) Z (by
         have he := getE_ok hm hd hw hdl
         have hg9 := get_use he hne
         exact ⟨m, by rw [hg9.2, he]; rfl, by rw [hg9.1], rfl, by rw [hg9.1]; exact h0.set (Nat.zero_le _) (⟨by decide, by decide⟩ : (0 : Int) ≤ 2 ∧ (2 : Int) ≤ 3)⟩) pqZ
      ·have hni : allI 3 s.C = [] := List.eq_nil_of_length_eq_zero (by have h9 : ¬ ((allI 3 s.C).length : Int) > 0 := c10; omega)
       refine WC_skip (WQ_code (WC_seq (WCr (WLl Z sc79 mmZ Z (WLq Z (proom_ok h0) Z pqZ ?_)))))
       refine WL_nil (WQ_code ?_)
       refine WC_if Z (fun c11 => ?_) (fun c11 => ?_)
       ·have hr : s.room = true := c11
        refine WC_seq (WC_draw ([⟨some b1, cl [ptrP m.p] 79⟩, ⟨some b2, cl [.int .i64 who] 3⟩]) [(0, true), (1, true), (2, true), (3, false), (4, true), (5, false), (6, true)] followsMixed Z Z (by kernel_rfl) pqZ ?_)
        refine WMl Z sc3 mmZ Z (WMl Z sc79 mmZ Z (WMl Z sc3 mmZ Z (WMd Z (D_call (pdial_ok h0 who (PS.room_ne (s := s) hr h.cl h.op.2)) Z Z Z Z pqZ) ?_)))
        rintro _ _ ⟨_, ⟨rfl, rfl⟩, rfl⟩
        refine ⟨⟨_, pqZ⟩, ?_⟩
        refine WMv Z (R_build Z zv143 pl143 Z Z) ?_
        refine WM_do0 Z Z Z (D_store (vs := [_, _, _]) Z Tryz.sizeOf143 Z Z Z Z Z plZ (nb Z)) ?_
        rintro _ _ rfl
        refine ⟨⟨_, pqZ⟩, ?_⟩
        refine WMa Z (WM_nil (WQ_code (WC_ret ?_)))
        refine WQ_ret Z Z (.cons (.cell (vs := [_, _, _]) Z ag143 mmZ Z atZ) (.cons (.tmp Z) .nil)) Z (by
          have he := getE_ok hm hd hw hdl
          have hg9 := get_dial he hni hr
          exact ⟨m, by rw [hg9.2, he]; rfl, by rw [hg9.1], rfl, by rw [hg9.1]; exact h0.dial who⟩) pqZ
       ·have hr : s.room = false := c11
        refine WC_skip (WQ_code (WC_seq (WC_draw ([⟨some b1, cl [ptrP m.p] 79⟩, ⟨some b2, cl [.int .i64 who] 3⟩, poP m (s.at_ now)]) [(0, true), (1, true), (2, true), (3, true), (4, true), (5, false), (6, true), (7, true), (8, true), (9, true), (10, true)] followsMixed Z Z (by kernel_rfl) pqZ ?_)))
        refine WMl Z sc79 mmZ Z (WMa Z (WMf Z fa136_5 (WMv Z (R_load (v := ptrQ m.q) Z sc127 Z mmZ (pc_t h.cl Z 0)) ?_)))
        refine WMl Z sc3 mmZ Z (WMd Z (D_call (qpush_ok m.q m.qm (fq s.Q) s.n m.qes m.qmc h.qk h.qM (by rw [List.length_map]; omega) hn who) Z Z Z Z pqZ) ?_)
        rintro _ _ ⟨_, ⟨es1, mc1, rfl, rfl, hM1⟩, rfl⟩
        refine ⟨⟨_, pqZ⟩, ?_⟩
        rw [← fq_app s.Q ⟨s.n + 1, who, dl⟩] at hM1 ⊢
        refine WMa Z (WMa Z (WMa Z (WMa Z (WMa Z (WM_nil (WQ_code (WC_seq (WC_draw ([⟨some b1, cl [ptrP m.p] 79⟩, ⟨some b2, cl [.int .i64 who] 3⟩, poP m (s.at_ now)]) [(0, true), (1, true), (2, true), (3, true), (4, true), (5, true), (6, true), (7, true), (8, false)] followsMixed Z Z (by kernel_rfl) pqZ ?_))))))))
        refine WMl Z sc79 mmZ Z (WMa Z (WMf Z fa136_6 (WMv Z (R_load (v := .map (some m.wm)) Z sc129 Z mmZ (pc_t h.cl Z 1)) ?_)))
        refine WMl Z sc3 mmZ Z (WMa Z (WMa Z (WMv Z (R_build Z zv168 pl168 Z Z) ?_)))
        refine WM_do0 Z Z Z (D_mapAddK (k := who) (v := (s.n + 1, dl)) Z Tryz.underlying129 int_key Z Z Z plZ h.wM hno) ?_
        rintro _ _ ⟨es9, hM9, rfl⟩
        refine ⟨⟨_, pqZ⟩, ?_⟩
        refine WM_nil (WQ_code (WCr (WLl Z sc3 mmZ Z (WLv Z (R_build Z zv143 pl143 Z Z) ?_))))
        refine WLs (vs := [_, _, _]) Z Tryz.sizeOf143 Z Z plZ (nb Z) ?_
        refine WLa Z (WL_nil (WQ_code (WC_ret ?_)))
        refine WQ_ret Z Z (.cons (.cell (vs := [_, _, _]) Z ag143 mmZ Z atZ) (.cons (.tmp Z) .nil)) Z (by
          have he := getE_ok hm hd hw hdl
          have hg9 := get_wait he hni hr
          exact ⟨{ m with qes := es1, qmc := mc1, wes := es9, wmc := m.wmc + 1 }, by rw [hg9.2, he]; rfl, by rw [hg9.1], rfl, by rw [hg9.1]; exact h0.push (of_decide_eq_true (may_zero hm).1) hM1 hM9⟩) pqZ
theorem xp_get {ms : List PM} {ss : List PS} {i : Nat} {mi : PM} {si : PS} (h1 : ms[i]? = some mi) (h2 : ss[i]? = some si) (h : PIs mi si) (hE : si.E.length ≤ 10000) (hn : si.n < 1000000000000) (who : Int) (now dl : Nat) (hb : now ≤ 18446744073709551615) :
  Spec Tryz.prog 61 [ptrP mi.p, .int .i64 who, .int .u64 (now : Int), .int .u64 (dl : Int)] (poolsH ms ss) (fun r H' => ∃ m', r = .tuple #[pvV (si.getV who now dl), .int .i64 (getE_ si who now dl)] ∧ H' = poolsH (ms.set i m') (ss.set i (si.getS who now dl)) ∧ m'.p = mi.p ∧ PIs m' (si.getS who now dl)) := by
 refine (Spec.pool h1 h2 (Q := fun r m' s' => r = .tuple #[pvV (si.getV who now dl), .int .i64 (getE_ si who now dl)] ∧ s' = si.getS who now dl ∧ m'.p = mi.p ∧ PIs m' s') ((pget_ok h hE hn who now dl hb).mono ?_)).mono ?_
 ·rintro r H' ⟨m', e1, e2, e3, e4⟩
  exact ⟨m', _, e2, e1, rfl, e3, e4⟩
 ·rintro r H' ⟨m', s', e1, e2, rfl, e3, e4⟩
  exact ⟨m', e2, e1, e3, e4⟩
theorem xatt_ok {N : Nat} {m : XM} {x : PX} (h : PXIs N m x) (hN : N ≤ 9000) (hE : x.E.length ≤ 1000000) (s : Ss) (hk : s.key.size ≤ 64) (hbl : x.b.last ≤ x.now) (hne : x.b.cand x.now ≠ []) {mi : PM} {si : PS} (hmi : m.pm[x.pk s]? = some mi) (hsi : x.P[x.pk s]? = some si) (hpi : x.b.pickI s.key x.now = (x.pk s : Int)) (hiE : si.E.length ≤ 10000) (hin : si.n < 1000000000000) :
  Spec Tryz.prog 33 [ptrP m.p, ptrS s.p] ([pxE m x, seE s, pxM m, pxV m x, pxQ m] ++ (balH m.bm ++ poolsH m.pm x.P)) (fun r H' => ∃ m', r = .tuple #[] ∧ H' = [pxE m' (x.attX s si), seE (x.attS s si), pxM m', pxV m' (x.attX s si), pxQ m'] ++ (balH m'.bm ++ poolsH m'.pm (x.attX s si).P) ∧ PXIs (N + 1) m' (x.attX s si) ∧ m'.p = m.p ∧ m'.sb = m.sb) := by
 have hnw := h.now
 have hpl := h.oq.len
 have hil := (List.getElem?_eq_some_iff.1 hsi).1
 obtain ⟨wq, hwq⟩ := h.oq.some_of (by omega)
 refine Spec.of (E := [(0, ptrP m.p), (1, ptrS s.p)]) Tryz.func33 rfl (by kernel_rfl) Tryz.ntmps33 rfl rfl (fun w => ?_)
 refine WC_seq (WC_drawBR (balH m.bm) [(0, .q), (1, .q), (2, .q), (3, .q), (4, .q), (5, .q), (6, .q), (7, .q), (8, .q), (9, .q), (10, .q), (11, .q), (12, .n [16]), (13, .q), (14, .q), (15, .q), (16, .b []), (17, .n []), (18, .q)] followsMixed Z Z (by kernel_rfl) pqC ?_)
 refine WB_val Z Z Z Z (R_move Z Z) ?_
 refine WB_val Z Z Z Z (R_nilCheck Z Z) ?_
 refine WB_val Z Z Z Z (R_fieldAddr Z fa68_0 Z) ?_
 refine WB_val Z Z Z Z (R_load Z sc55 Z mmC Z) ?_
 refine WB_val Z Z Z Z (R_move Z Z) ?_
 refine WB_val Z Z Z Z (R_nilCheck Z Z) ?_
 refine WB_val Z Z Z Z (R_fieldAddr Z fa68_3 Z) ?_
 refine WB_val Z Z Z Z (R_load Z sc25 Z mmC Z) ?_
 refine WB_val Z Z Z Z (R_move Z Z) ?_
 refine WB_val Z Z Z Z (R_nilCheck Z Z) ?_
 refine WB_val Z Z Z Z (R_fieldAddr Z fa90_1 Z) ?_
 refine WB_val Z Z Z Z (R_load Z sc9 Z mmC Z) ?_
 refine WB_do Z Z Z Z (.cons Z Z (B_alloc Z zv138) .nil) (fun _ => D_call (bp_ok h.bal hN x.now s.key hk hbl hnw hne) Z Z Z Z pqC) ?_
 rintro _ _ ⟨_, ⟨bm1, rfl, rfl, hbp, hb1⟩, rfl⟩
 refine ⟨⟨_, pqC⟩, ?_⟩
 refine WB_val Z Z Z Z (R_move Z Z) ?_
 refine WB_val Z Z Z Z (R_extract Z Z Z) ?_
 refine WB_val Z Z Z Z (R_extract Z Z Z) ?_
 refine WB_birth Z Z Z Z .nil (B_alloc Z zv138) (fun b1 => ?_)
 refine WB_do0 Z Z Z .nil (fun _ => D_store (vs := [_, _]) Z Tryz.sizeOf138 Z Z Z Z Z plC (nb Z)) ?_
 rintro _ _ rfl
 refine ⟨⟨_, pqC⟩, ?_⟩
 refine WB_val Z Z Z Z (R_assign Z Z) ?_
 refine WB_nil (WQ_code (WC_seq (WCr (WLa Z (WLa Z (WL_nil (WQ_code (WC_dF Z (by simp) ?_))))))))
 refine WC_skip (WQ_code (WC_seq (WC_drawR [seE s] [(0, true), (1, true), (2, true), (3, true), (4, true), (5, true), (6, true), (7, true), (8, true), (9, false), (10, true), (11, true), (12, false), (13, true), (14, true), (15, false)] followsMixed Z Z (by kernel_rfl) pqC ?_)))
 refine WMa Z (WMa Z (WMa Z (WMf Z fa138_0 (WMl Z sc3 mmC Z (WM_set (s := 33) (v := .int .i64 (x.pk s : Int)) Z (by rw [hpi]) ?_)))))
 refine WMf Z fa138_1 (WMl Z sc3 mmC Z (WMa Z (WMf Z fa90_7 (WM_do0 Z Z Z (D_store (vs := [_]) Z Tryz.sizeOf3 Z Z Z Z Z plC (nb Z)) ?_))))
 rintro _ _ rfl
 refine ⟨⟨_, pqC⟩, ?_⟩
 refine WMa Z (WMf Z fa90_6 (WM_do0 Z Z Z (D_store (vs := [_]) Z Tryz.sizeOf3 Z Z Z Z Z plC (nb Z)) ?_))
 rintro _ _ rfl
 refine ⟨⟨_, pqC⟩, ?_⟩
 refine WMa Z (WMf Z fa90_8 (WM_do0 Z Z Z (D_store (vs := [_]) Z Tryz.sizeOf3 Z Z Z Z Z plC (nb Z)) ?_))
 rintro _ _ rfl
 refine ⟨⟨_, pqC⟩, ?_⟩
 refine WM_nil (WQ_code (WC_seq (WC_drawBR (poolsH m.pm x.P) [(0, .q), (1, .q), (2, .q), (3, .q), (4, .q), (5, .q), (6, .q), (7, .q), (8, .q), (9, .q), (10, .q), (11, .q), (12, .q), (13, .q), (14, .q), (15, .q), (16, .q), (17, .q), (18, .q), (19, .q), (20, .n [24]), (21, .q), (22, .q), (23, .q), (24, .b []), (25, .n []), (26, .q)] followsMixed Z Z (by kernel_rfl) pqC ?_)))
 refine WB_val Z Z Z Z (R_move Z Z) ?_
 refine WB_val Z Z Z Z (R_nilCheck Z Z) ?_
 refine WB_val Z Z Z Z (R_fieldAddr Z fa68_1 Z) ?_
 refine WB_val Z Z Z Z (R_load Z sc56 Z mmC Z) ?_
 refine WB_val Z Z Z Z (R_fieldAddr Z fa138_0 Z) ?_
 refine WB_val Z Z Z Z (R_load Z sc3 Z mmC Z) ?_
 refine WB_set (s := 48) (v := .int .i64 (x.pk s : Int)) Z (by rw [hpi]) ?_
 refine WB_val Z Z Z Z (R_idxO hwq Z Tryz.underlying56 Tryz.sizeOf79 Z Z (by omega)) ?_
 refine WB_val Z Z Z Z (R_loadO (v := ptrP mi.p) hwq Z sc79 Z mmC (fm_get0 encPq1 hmi (j := 0) (by omega))) ?_
 refine WB_val Z Z Z Z (R_move Z Z) ?_
 refine WB_val Z Z Z Z (R_nilCheck Z Z) ?_
 refine WB_val Z Z Z Z (R_fieldAddr Z fa90_0 Z) ?_
 refine WB_val Z Z Z Z (R_load Z sc3 Z mmC Z) ?_
 refine WB_val Z Z Z Z (R_move Z Z) ?_
 refine WB_val Z Z Z Z (R_nilCheck Z Z) ?_
 refine WB_val Z Z Z Z (R_fieldAddr Z fa68_3 Z) ?_
 refine WB_val Z Z Z Z (R_load Z sc25 Z mmC Z) ?_
 refine WB_val Z Z Z Z (R_move Z Z) ?_
 refine WB_val Z Z Z Z (R_nilCheck Z Z) ?_
 refine WB_val Z Z Z Z (R_fieldAddr Z fa90_2 Z) ?_
 refine WB_val Z Z Z Z (R_load Z sc25 Z mmC Z) ?_
 refine WB_do Z Z Z Z (.cons Z Z (B_alloc Z zv143) .nil) (fun _ => D_call (xp_get hmi hsi (h.po _ _ _ hmi hsi) hiE hin s.num x.now s.dl (by omega)) Z Z Z Z pqC) ?_
 rintro _ _ ⟨_, ⟨mi1, rfl, rfl, hmp, hmi1⟩, rfl⟩
 refine ⟨⟨_, pqC⟩, ?_⟩
 refine WB_val Z Z Z Z (R_move Z Z) ?_
 refine WB_val Z Z Z Z (R_extract Z Z Z) ?_
 refine WB_val Z Z Z Z (R_extract Z Z Z) ?_
 refine WB_birth Z Z Z Z .nil (B_alloc Z zv143) (fun b2 => ?_)
 refine WB_do0 Z Z Z .nil (fun _ => D_store (vs := [_, _, _]) Z Tryz.sizeOf143 Z Z Z Z Z plC (nb Z)) ?_
 rintro _ _ rfl
 refine ⟨⟨_, pqC⟩, ?_⟩
 refine WB_val Z Z Z Z (R_assign Z Z) ?_
 refine WB_nil (WQ_code (WCr (WLf Z fa143_0 (WLl Z sc141 mmC Z (WL_nil (WQ_code (WC_block (WCr (WLa Z (WLa Z (WL_nil (WQ_code ?_))))))))))))
 refine WC_dec Z (fun c1 => ?_) (fun c1 => ?_)
 ·have hk1 : (x.pv s si).k = 1 := c1
  refine WC_region (WLa Z (WLa Z (WLf Z fa143_2 (WLl Z sc3 mmC Z (WLc Z (xact_ok m x h.eO hE { s with be := (x.pk s : Int), cal := ((x.b.gv + 1 : Nat) : Int), cn := -1 } (x.pv s si).c) Z pqC ?_)))))
  rintro _ _ ⟨_, ⟨eb1, ek1, ec1, epre1, etl1, rfl, rfl, hO1⟩, rfl⟩
  refine WL_nil ?_
  rw [(attX_1 hk1).1, (attX_1 hk1).2]
  rw [pxE_attT (s := s) (si := si) (m1 := mi1) hbp, pxQ_att (bm1 := bm1) hmi hmp]
  refine WQ2 Z (by
    exact ⟨attMt m x s bm1 mi1 eb1 ek1 ec1 epre1 etl1, rfl, rfl, (h.att0 hmi hmp hb1 hmi1).tell _ hO1, rfl, rfl⟩) pqC
 ·have hk1 : ¬ (x.pv s si).k = 1 := c1
  refine WCr (WLa Z (WLa Z (WL_nil (WQ_code ?_))))
  refine WC_dec Z (fun c2 => ?_) (fun c2 => ?_)
  ·have hk2 : (x.pv s si).k = 2 := c2
   refine WC_region (WLa Z (WLa Z (WLf Z fa143_2 (WLl Z sc3 mmC Z (WLc Z (xdial_ok m x h.eO hE { s with be := (x.pk s : Int), cal := ((x.b.gv + 1 : Nat) : Int), cn := -1 } (x.pv s si).c) Z pqC ?_)))))
   rintro _ _ ⟨_, ⟨eb1, ek1, ec1, epre1, etl1, rfl, rfl, hO1⟩, rfl⟩
   refine WL_nil ?_
   rw [(attX_2 hk1 hk2).1, (attX_2 hk1 hk2).2]
   rw [pxE_attT (s := s) (si := si) (m1 := mi1) hbp, pxQ_att (bm1 := bm1) hmi hmp]
   refine WQ2 Z (by
     exact ⟨attMt m x s bm1 mi1 eb1 ek1 ec1 epre1 etl1, rfl, rfl, (h.att0 hmi hmp hb1 hmi1).tell _ hO1, rfl, rfl⟩) pqC
  ·have hk2 : ¬ (x.pv s si).k = 2 := c2
   refine WC_region (WLa Z (WLa Z (WLf Z fa90_4 (WLs (vs := [_]) Z Tryz.sizeOf49 Z Z plC (nb Z) ?_))))
   refine WL_nil ?_
   rw [(attX_3 hk1 hk2).1, (attX_3 hk1 hk2).2]
   rw [pxE_att (s := s) (si := si) (m1 := mi1) hbp, pxQ_att (bm1 := bm1) hmi hmp]
   refine WQ2 Z (by
     exact ⟨attM m x s bm1 mi1, rfl, rfl, h.att0 hmi hmp hb1 hmi1, rfl, rfl⟩) pqC
theorem xatt_g {N : Nat} {m : XM} {x : PX} (h : PXIs N m x) (hN : N ≤ 9000) (hE : x.E.length ≤ 1000000) (s : Ss) (hin : (s.num, s.p) ∈ sesM x.S) (hk : s.key.size ≤ 64) (ht : s.tr ≤ 1000) (hbl : x.b.last ≤ x.now) (hne : x.b.cand x.now = []) (hf : x.failE s ≠ 0) :
  Spec Tryz.prog 33 [ptrP m.p, ptrS s.p] ([pxE m x, seE s, pxM m, pxV m x] ++ balH m.bm) (fun r H' => ∃ ses eb ek ec epre etl, r = .tuple #[] ∧ H' = [pxE { m with ses := ses, eb := eb, ek := ek, ec := ec, epre := epre, etl := etl } (x.tell ⟨3, s.num, -1, -1, x.failE s⟩), seE s, pxM { m with ses := ses, eb := eb, ek := ek, ec := ec, epre := epre, etl := etl }, pxV { m with ses := ses, eb := eb, ek := ek, ec := ec, epre := epre, etl := etl } (x.tell ⟨3, s.num, -1, -1, x.failE s⟩)] ++ balH m.bm ∧ XEO { m with ses := ses, eb := eb, ek := ek, ec := ec, epre := epre, etl := etl } (x.tell ⟨3, s.num, -1, -1, x.failE s⟩) ∧ Mk ekW ptrS ses m.smc (delL (sesM x.S) s.num)) := by
 have hnw := h.now
 refine Spec.of (E := [(0, ptrP m.p), (1, ptrS s.p)]) Tryz.func33 rfl (by kernel_rfl) Tryz.ntmps33 rfl rfl (fun w => ?_)
 refine WC_seq (WC_drawBR (balH m.bm) [(0, .q), (1, .q), (2, .q), (3, .q), (4, .q), (5, .q), (6, .q), (7, .q), (8, .q), (9, .q), (10, .q), (11, .q), (12, .n [16]), (13, .q), (14, .q), (15, .q), (16, .b []), (17, .n []), (18, .q)] followsMixed Z Z (by kernel_rfl) pqC ?_)
 refine WB_val Z Z Z Z (R_move Z Z) ?_
 refine WB_val Z Z Z Z (R_nilCheck Z Z) ?_
 refine WB_val Z Z Z Z (R_fieldAddr Z fa68_0 Z) ?_
 refine WB_val Z Z Z Z (R_load Z sc55 Z mmC Z) ?_
 refine WB_val Z Z Z Z (R_move Z Z) ?_
 refine WB_val Z Z Z Z (R_nilCheck Z Z) ?_
 refine WB_val Z Z Z Z (R_fieldAddr Z fa68_3 Z) ?_
 refine WB_val Z Z Z Z (R_load Z sc25 Z mmC Z) ?_
 refine WB_val Z Z Z Z (R_move Z Z) ?_
 refine WB_val Z Z Z Z (R_nilCheck Z Z) ?_
 refine WB_val Z Z Z Z (R_fieldAddr Z fa90_1 Z) ?_
 refine WB_val Z Z Z Z (R_load Z sc9 Z mmC Z) ?_
 refine WB_do Z Z Z Z (.cons Z Z (B_alloc Z zv138) .nil) (fun _ => D_call (bpn_ok h.bal hN x.now s.key hk hbl hnw hne) Z Z Z Z pqC) ?_
 rintro _ _ ⟨_, ⟨rfl, rfl⟩, rfl⟩
 refine ⟨⟨_, pqC⟩, ?_⟩
 refine WB_val Z Z Z Z (R_move Z Z) ?_
 refine WB_val Z Z Z Z (R_extract Z Z Z) ?_
 refine WB_val Z Z Z Z (R_extract Z Z Z) ?_
 refine WB_birth Z Z Z Z .nil (B_alloc Z zv138) (fun b1 => ?_)
 refine WB_do0 Z Z Z .nil (fun _ => D_store (vs := [_, _]) Z Tryz.sizeOf138 Z Z Z Z Z plC (nb Z)) ?_
 rintro _ _ rfl
 refine ⟨⟨_, pqC⟩, ?_⟩
 refine WB_val Z Z Z Z (R_assign Z Z) ?_
 refine WB_nil (WQ_code (WC_seq (WCr (WLa Z (WLa Z (WL_nil (WQ_code (WC_dT Z (by decide) ?_))))))))
 refine WCr (WLa Z (WLa Z (WLc Z (xfailed_g m x h.eO hE h.ok h.seed hnw h.mp s hin ht hf) Z pqC ?_)))
 rintro _ _ ⟨_, ⟨ses1, eb1, ek1, ec1, epre1, etl1, rfl, rfl, hO1, hM1⟩, rfl⟩
 refine WL_nil (WQ_code (WC_ret ?_))
 refine WQ2 Z (by
   exact ⟨ses1, eb1, ek1, ec1, epre1, etl1, rfl, rfl, hO1, hM1⟩) pqC
theorem xatt_l {N : Nat} {m : XM} {x : PX} (h : PXIs N m x) (hN : N ≤ 9000) (s : Ss) (hk : s.key.size ≤ 64) (ht : s.tr ≤ 1000) (hbl : x.b.last ≤ x.now) (hne : x.b.cand x.now = []) (hf : x.failE s = 0) :
  Spec Tryz.prog 33 [ptrP m.p, ptrS s.p] ([pxE m x, seE s] ++ balH m.bm) (fun r H' => r = .tuple #[] ∧ H' = [pxE m x, seE (x.later s)] ++ balH m.bm) := by
 have hnw := h.now
 refine Spec.of (E := [(0, ptrP m.p), (1, ptrS s.p)]) Tryz.func33 rfl (by kernel_rfl) Tryz.ntmps33 rfl rfl (fun w => ?_)
 refine WC_seq (WC_drawBR (balH m.bm) [(0, .q), (1, .q), (2, .q), (3, .q), (4, .q), (5, .q), (6, .q), (7, .q), (8, .q), (9, .q), (10, .q), (11, .q), (12, .n [16]), (13, .q), (14, .q), (15, .q), (16, .b []), (17, .n []), (18, .q)] followsMixed Z Z (by kernel_rfl) pqC ?_)
 refine WB_val Z Z Z Z (R_move Z Z) ?_
 refine WB_val Z Z Z Z (R_nilCheck Z Z) ?_
 refine WB_val Z Z Z Z (R_fieldAddr Z fa68_0 Z) ?_
 refine WB_val Z Z Z Z (R_load Z sc55 Z mmC Z) ?_
 refine WB_val Z Z Z Z (R_move Z Z) ?_
 refine WB_val Z Z Z Z (R_nilCheck Z Z) ?_
 refine WB_val Z Z Z Z (R_fieldAddr Z fa68_3 Z) ?_
 refine WB_val Z Z Z Z (R_load Z sc25 Z mmC Z) ?_
 refine WB_val Z Z Z Z (R_move Z Z) ?_
 refine WB_val Z Z Z Z (R_nilCheck Z Z) ?_
 refine WB_val Z Z Z Z (R_fieldAddr Z fa90_1 Z) ?_
 refine WB_val Z Z Z Z (R_load Z sc9 Z mmC Z) ?_
 refine WB_do Z Z Z Z (.cons Z Z (B_alloc Z zv138) .nil) (fun _ => D_call (bpn_ok h.bal hN x.now s.key hk hbl hnw hne) Z Z Z Z pqC) ?_
 rintro _ _ ⟨_, ⟨rfl, rfl⟩, rfl⟩
 refine ⟨⟨_, pqC⟩, ?_⟩
 refine WB_val Z Z Z Z (R_move Z Z) ?_
 refine WB_val Z Z Z Z (R_extract Z Z Z) ?_
 refine WB_val Z Z Z Z (R_extract Z Z Z) ?_
 refine WB_birth Z Z Z Z .nil (B_alloc Z zv138) (fun b1 => ?_)
 refine WB_do0 Z Z Z .nil (fun _ => D_store (vs := [_, _]) Z Tryz.sizeOf138 Z Z Z Z Z plC (nb Z)) ?_
 rintro _ _ rfl
 refine ⟨⟨_, pqC⟩, ?_⟩
 refine WB_val Z Z Z Z (R_assign Z Z) ?_
 refine WB_nil (WQ_code (WC_seq (WCr (WLa Z (WLa Z (WL_nil (WQ_code (WC_dT Z (by decide) ?_))))))))
 refine WCr (WLa Z (WLa Z (WLc Z (xfailed_l m x h.ok h.seed hnw s ht hf) Z pqC ?_)))
 rintro _ _ ⟨_, ⟨rfl, rfl⟩, rfl⟩
 refine WL_nil (WQ_code (WC_ret ?_))
 refine WQ2 Z (by
   exact ⟨rfl, rfl⟩) pqC
theorem OwnS.atX {ob : Option Nat} {k n c : Nat} {pre tl : List Value} {T : List Xv} (h : OwnS ob k n c 5 pre (T.flatMap encX) tl) {i : Nat} {x : Xv} (hx : T[i]? = some x) (hi : i < n) : At (pre ++ (T.flatMap encX ++ tl)) (k + i * 5) (encX x) := fun j v hj => by
 rw [h.get encX5 hx hi (show j < 5 from (List.getElem?_eq_some_iff.1 hj).1)]; exact hj
def PX.nx (x : PX) : PX := { x with E := x.E.drop 1 }
theorem xnext_none (m : XM) (x : PX) (hE : x.E = []) : Spec Tryz.prog 20 [ptrP m.p] [pxE m x] (fun r H' => r = .tuple #[.agg #[.int .i64 0, .int .i64 0, .int .i64 0, .int .i64 0, .int .i64 0], .bool false] ∧ H' = [pxE m x]) := by
 refine Spec.of (E := [(0, ptrP m.p)]) Tryz.func20 rfl (by kernel_rfl) Tryz.ntmps20 rfl rfl (fun w => ?_)
 refine WCr (WLd Z (D_alloc Z zv63) ?_)
 rintro _ _ ⟨b1, rfl, rfl⟩
 refine WLa Z (WL_nil (WQ_code (WC_seq (WCr (WLa Z (WLv Z (R_ptrEqNil Z Tryz.underlying33 Z) ?_))))))
 refine WLa Z (WLa Z (WLa Z (WLf Z fa68_5 (WLl Z sc58 mmZ Z (WLv Z (R_lenS Z Tryz.underlying58 Z) ?_)))))
 refine WLa Z (WLa Z (WL_nil (WQ_code (WC_dT Z (by rw [hE]; rfl) ?_))))
 refine WCr (WLv Z (R_build Z zv63 pl63 Z Z) ?_)
 refine WLs (vs := [_, _, _, _, _]) Z Tryz.sizeOf63 Z Z plZ (nb Z) ?_
 refine WLa Z (WL_nil (WQ_code (WC_ret ?_)))
 refine WQ_ret Z Z (.cons (.cell (vs := [_, _, _, _, _]) Z ag63 mmZ Z atZ) (.cons (.tmp Z) .nil)) Z (by
   exact ⟨rfl, rfl⟩) pqZ
theorem xnext_some (m : XM) (x : PX) (hO : XEO m x) {v : Xv} {q : List Xv} (hE : x.E = v :: q) : Spec Tryz.prog 20 [ptrP m.p] [pxE m x, pxV m x]
  (fun r H' => ∃ ek ec epre, r = .tuple #[xvV v, .bool true] ∧ H' = [pxE { m with ek := ek, ec := ec, epre := epre } x.nx, pxV { m with ek := ek, ec := ec, epre := epre } x.nx] ∧ XEO { m with ek := ek, ec := ec, epre := epre } x.nx) := by
 have hnx : x.nx = { x with E := q } := by unfold PX.nx; rw [hE]; rfl
 have heO := hO
 unfold XEO at heO
 rw [hE] at heO
 obtain ⟨wb, hwb⟩ := heO.some_of (Nat.succ_pos _)
 have hlen : x.E.length = q.length + 1 := by rw [hE]; rfl
 rw [hnx]
 refine Spec.of (E := [(0, ptrP m.p)]) Tryz.func20 rfl (by kernel_rfl) Tryz.ntmps20 rfl rfl (fun w => ?_)
 refine WCr (WLd Z (D_alloc Z zv63) ?_)
 rintro _ _ ⟨b1, rfl, rfl⟩
 refine WLa Z (WL_nil (WQ_code (WC_seq (WCr (WLa Z (WLv Z (R_ptrEqNil Z Tryz.underlying33 Z) ?_))))))
 refine WLa Z (WLa Z (WLa Z (WLf Z fa68_5 (WLl Z sc58 mmZ Z (WLv Z (R_lenS Z Tryz.underlying58 Z) ?_)))))
 refine WLa Z (WLa Z (WL_nil (WQ_code (WC_dF Z (by omega) ?_))))
 refine WC_skip (WQ_code (WC_seq (WC_drawY [⟨some b1, _⟩, ⟨some m.p, _⟩] [(m.p, 11, sVal m.eb m.ek x.E.length m.ec)] [15] [(0, false), (1, false), (2, false), (3, false), (4, true), (5, false), (6, false), (7, false), (8, false), (9, false), (10, true)] [(11, true), (12, false), (13, true), (14, true), (15, false)] followsMixed Z Z (by kernel_rfl) pqZ (.cons mmZ Z .nil) ?_)))
 refine WYE_val Z Z Z Z (R_move Z Z) ?_
 refine WYE_val Z Z Z Z (R_move Z Z) ?_
 refine WYE_val Z Z Z Z (R_nilCheck Z Z) ?_
 refine WYE_val Z Z Z Z (R_fieldAddr Z fa68_5 Z) ?_
 refine WYE_early Z Z Z Z Z sc58 Z (by repeat (first | exact List.Mem.head _ | refine List.Mem.tail _ ?_)) ?_
 refine WYE_val Z Z Z Z (R_indexS (i := 0) hwb Z Tryz.underlying58 Tryz.sizeOf63 Z Z (by omega)) ?_
 refine WYE_val Z Z Z Z (R_loadAO (vs := [.int .i64 v.k, .int .i64 v.s, .int .i64 v.b, .int .i64 v.c, .int .i64 v.e]) hwb Z ag63 Z mmZ Z (OwnS.atX hO (i := 0) (x := v) (by rw [hE]; rfl) (by omega))) ?_
 refine WYE_val Z Z Z Z (R_move Z Z) ?_
 refine WYE_val Z Z Z Z (R_nilCheck Z Z) ?_
 refine WYE_val Z Z Z Z (R_fieldAddr Z fa68_5 Z) ?_
 refine WYE_early Z Z Z Z Z sc58 Z (by repeat (first | exact List.Mem.head _ | refine List.Mem.tail _ ?_)) ?_
 refine WYE_rest ?_
 refine WY_val Z Z Z Z (R_cut1 (m := q.length) hwb Z Tryz.underlying58 Tryz.sizeOf63 Z Z hlen) ?_
 refine WY_do0 Z Z Z (D_store (vs := [_, _, _, _, _]) Z Tryz.sizeOf63 Z Z Z Z Z plZ (nb Z)) ?_
 rintro _ _ rfl
 refine ⟨⟨_, pqZ⟩, .inr (.cons mmZ rfl .nil), ?_⟩
 refine WY_val Z Z Z Z (R_nilCheck Z Z) ?_
 refine WY_val Z Z Z Z (R_fieldAddr Z fa68_5 Z) ?_
 refine WY_do0 Z Z Z (D_store (vs := [_]) Z Tryz.sizeOf58 Z Z Z Z Z plZ (nb Z)) ?_
 rintro _ _ rfl
 refine ⟨⟨_, pqZ⟩, .inl rfl, ?_⟩
 refine WY_nil ?_
 refine WQ_code (WCr (WLv Z (R_loadA (vs := [_, _, _, _, _]) Z ag63 Z mmZ Z atZ) ?_))
 refine WLs (vs := [_, _, _, _, _]) Z Tryz.sizeOf63 Z Z plZ (nb Z) ?_
 refine WLa Z (WL_nil (WQ_code (WC_ret ?_)))
 rw [show pxV m x = (⟨m.eb, cl ((m.epre ++ encX v) ++ (q.flatMap encX ++ m.etl)) 63⟩ : Ent) from by show (⟨_, cl (m.epre ++ (x.E.flatMap encX ++ m.etl)) _⟩ : Ent) = _; rw [hE]; simp]
 refine WQ_ret Z Z (.cons (.cell (vs := [_, _, _, _, _]) Z ag63 mmZ Z atZ) (.cons (.tmp Z) .nil)) Z (by
   exact ⟨if m.ec = 1 then m.ek else m.ek + 5, m.ec - 1, m.epre ++ encX v, rfl, rfl, heO.cut (ys := encX v) (zs := q.flatMap encX) (m := q.length) rfl rfl rfl⟩) pqZ
theorem xstate_in (m : XM) (x : PX) {L : List (Int × Nat)} (hM : Mk ekW ptrS m.ses m.smc L) (s : Ss) (hin : (s.num, s.p) ∈ L) : Spec Tryz.prog 18 [ptrP m.p, .int .i64 s.num] [pxE m x, pxM m, seE s] (fun r H' => r = .tuple #[.int .i64 s.st, .int .i64 s.be, .int .i64 s.cn] ∧ H' = [pxE m x, pxM m, seE s]) := by
 refine Spec.of (E := [(0, ptrP m.p), (1, .int .i64 s.num)]) Tryz.func18 rfl (by kernel_rfl) Tryz.ntmps18 rfl rfl (fun w => ?_)
 refine WCr (WLa Z (WLa Z (WLa Z (WL_nil (WQ_code (WC_seq (WCr (WLa Z (WLv Z (R_ptrEqNil Z Tryz.underlying33 Z) ?_)))))))))
 refine WLa Z (WLa Z (WLa Z (WLf Z fa68_4 (WLl Z sc66 mmZ Z (WLa Z (WLv Z (R_lookK (k := s.num) (a := s.p) Z Tryz.underlying66 int_key Z Z mmZ hM hin) ?_))))))
 refine WLv Z (R_ptrEqNil Z Tryz.underlying87 Z) ?_
 refine WLa Z (WL_nil (WQ_code (WC_F Z (WC_skip (WQ_code (WCr (WLa Z (WLa Z (WLf Z fa68_4 (WLl Z sc66 mmZ Z (WLa Z (WLv Z (R_lookK (k := s.num) (a := s.p) Z Tryz.underlying66 int_key Z Z mmZ hM hin) ?_))))))))))))
 refine WLa Z (WL_nil (WQ_code (WC_seq (WC_draw _ [(0, true), (1, true), (2, true), (3, true), (4, true), (5, true), (6, true), (7, true), (8, true), (9, true), (10, true), (11, true), (12, true), (13, true), (14, true)] followsMixed Z Z (by kernel_rfl) .all ?_))))
 refine WMa Z (WMa Z (WMf Z fa90_4 (WMl Z sc49 mmZ Z (WMa Z (WMa Z (WMf Z fa90_7 (WMl Z sc3 mmZ Z (WMa Z (WMa Z (WMf Z fa90_8 (WMl Z sc3 mmZ Z (WMa Z (WMa Z (WMa Z (WM_nil (WQ_code (WC_ret ?_)))))))))))))))))
 refine WQ_ret Z Z (.cons (.tmp Z) (.cons (.tmp Z) (.cons (.tmp Z) .nil))) Z (by
   exact ⟨rfl, rfl⟩) pqZ
theorem xstate_out (m : XM) (x : PX) {L : List (Int × Nat)} (hM : Mk ekW ptrS m.ses m.smc L) (n : Int) (hno : n ∉ L.map (·.1)) : Spec Tryz.prog 18 [ptrP m.p, .int .i64 n] [pxE m x, pxM m] (fun r H' => r = .tuple #[.int .i64 0, .int .i64 (-1), .int .i64 (-1)] ∧ H' = [pxE m x, pxM m]) := by
 refine Spec.of (E := [(0, ptrP m.p), (1, .int .i64 n)]) Tryz.func18 rfl (by kernel_rfl) Tryz.ntmps18 rfl rfl (fun w => ?_)
 refine WCr (WLa Z (WLa Z (WLa Z (WL_nil (WQ_code (WC_seq (WCr (WLa Z (WLv Z (R_ptrEqNil Z Tryz.underlying33 Z) ?_)))))))))
 refine WLa Z (WLa Z (WLa Z (WLf Z fa68_4 (WLl Z sc66 mmZ Z (WLa Z (WLv Z (R_lookK0 (k := n) (zv := .pointer none) Z Tryz.underlying66 int_key Z Z mmZ hM hno (fun w => Tryz.zeroValue87 w)) ?_))))))
 refine WLv Z (R_ptrEqNil Z Tryz.underlying87 Z) ?_
 refine WLa Z (WL_nil (WQ_code (WC_T Z (WCr (WLa Z (WLa Z (WLa Z (WL_nil (WQ_code (WC_ret ?_))))))))))
 refine WQ_ret Z Z (.cons (.tmp Z) (.cons (.tmp Z) (.cons (.tmp Z) .nil))) Z (by
   exact ⟨rfl, rfl⟩) pqZ
theorem xin_bad (m : XM) (x : PX) (n st : Int) (now : Nat) (hm : x.may (decide (0 ≤ n ∧ n ≤ 100)) now ≠ 0) : Spec Tryz.prog 34 [ptrP m.p, .int .i64 n, .int .i64 st, .int .u64 (now : Int)] [pxE m x] (fun r H' => r = .tuple #[.pointer none, .int .i64 (x.may (decide (0 ≤ n ∧ n ≤ 100)) now)] ∧ H' = [pxE m x]) := by
 refine Spec.of (E := [(0, ptrP m.p), (1, .int .i64 n), (2, .int .i64 st), (3, .int .u64 (now : Int))]) Tryz.func34 rfl (by kernel_rfl) Tryz.ntmps34 rfl rfl (fun w => ?_)
 refine WCr (WLa Z (WLa Z (WL_nil (WQ_code (WC_seq (WCr (WLa Z (WLa Z (WLq Z (xright_ok n) Z pqZ ?_)))))))))
 refine WLa Z (WLq Z (xmay_ok m x (decide (0 ≤ n ∧ n ≤ 100)) now) Z pqZ ?_)
 refine WLa Z (WL_nil (WQ_code (WCr (WLa Z (WLa Z (WL_nil (WQ_code (WC_dT Z (by exact hm) ?_))))))))
 refine WCr (WLa Z (WLa Z (WLa Z (WL_nil (WQ_code (WC_ret ?_))))))
 refine WQ2 Z (by
   exact ⟨rfl, rfl⟩) pqZ
theorem xin_out (m : XM) (x : PX) {L : List (Int × Nat)} (hM : Mk ekW ptrS m.ses m.smc L) (n st : Int) (now : Nat) (hm : x.may (decide (0 ≤ n ∧ n ≤ 100)) now = 0) (hno : n ∉ L.map (·.1)) : Spec Tryz.prog 34 [ptrP m.p, .int .i64 n, .int .i64 st, .int .u64 (now : Int)] [pxE m x, pxM m] (fun r H' => r = .tuple #[.pointer none, .int .i64 9] ∧ H' = [pxE m x, pxM m]) := by
 refine Spec.of (E := [(0, ptrP m.p), (1, .int .i64 n), (2, .int .i64 st), (3, .int .u64 (now : Int))]) Tryz.func34 rfl (by kernel_rfl) Tryz.ntmps34 rfl rfl (fun w => ?_)
 refine WCr (WLa Z (WLa Z (WL_nil (WQ_code (WC_seq (WCr (WLa Z (WLa Z (WLq Z (xright_ok n) Z pqZ ?_)))))))))
 refine WLa Z (WLq Z (xmay_ok m x (decide (0 ≤ n ∧ n ≤ 100)) now) Z pqZ ?_)
 refine WLa Z (WL_nil (WQ_code (WCr (WLa Z (WLa Z (WL_nil (WQ_code (WC_dF Z (by exact fun e => e hm) ?_))))))))
 refine WC_skip (WQ_code (WCr (WLa Z (WLa Z (WLf Z fa68_4 (WLl Z sc66 mmZ Z (WLa Z (WLv Z (R_lookK0 (k := n) (zv := .pointer none) Z Tryz.underlying66 int_key Z Z mmZ hM hno (fun w => Tryz.zeroValue87 w)) ?_))))))))
 refine WLa Z (WL_nil (WQ_code (WC_seq (WCr (WLa Z (WLv Z (R_ptrEqNil Z Tryz.underlying87 Z) ?_))))))
 refine WLa Z (WLa Z (WLa Z (WLa Z (WLa Z (WLa Z (WLa Z (WLa Z (WL_nil (WQ_code (WC_T Z (WCr (WLa Z (WLa Z (WL_nil (WQ_code (WC_ret ?_))))))))))))))))
 refine WQ2 Z (by
   exact ⟨rfl, rfl⟩) pqZ
theorem xin_not (m : XM) (x : PX) {L : List (Int × Nat)} (hM : Mk ekW ptrS m.ses m.smc L) (s : Ss) (hin : (s.num, s.p) ∈ L) (st : Int) (now : Nat) (hm : x.may (decide (0 ≤ s.num ∧ s.num ≤ 100)) now = 0) (hs : s.st ≠ st) : Spec Tryz.prog 34 [ptrP m.p, .int .i64 s.num, .int .i64 st, .int .u64 (now : Int)] [pxE m x, pxM m, seE s] (fun r H' => r = .tuple #[.pointer none, .int .i64 9] ∧ H' = [pxE m x, pxM m, seE s]) := by
 refine Spec.of (E := [(0, ptrP m.p), (1, .int .i64 s.num), (2, .int .i64 st), (3, .int .u64 (now : Int))]) Tryz.func34 rfl (by kernel_rfl) Tryz.ntmps34 rfl rfl (fun w => ?_)
 refine WCr (WLa Z (WLa Z (WL_nil (WQ_code (WC_seq (WCr (WLa Z (WLa Z (WLq Z (xright_ok s.num) Z pqZ ?_)))))))))
 refine WLa Z (WLq Z (xmay_ok m x (decide (0 ≤ s.num ∧ s.num ≤ 100)) now) Z pqZ ?_)
 refine WLa Z (WL_nil (WQ_code (WCr (WLa Z (WLa Z (WL_nil (WQ_code (WC_dF Z (by exact fun e => e hm) ?_))))))))
 refine WC_skip (WQ_code (WCr (WLa Z (WLa Z (WLf Z fa68_4 (WLl Z sc66 mmZ Z (WLa Z (WLv Z (R_lookK (k := s.num) (a := s.p) Z Tryz.underlying66 int_key Z Z mmZ hM hin) ?_))))))))
 refine WLa Z (WL_nil (WQ_code (WC_seq (WCr (WLa Z (WLv Z (R_ptrEqNil Z Tryz.underlying87 Z) ?_))))))
 refine WLa Z (WLa Z (WLa Z (WLf Z fa90_4 (WLl Z sc49 mmZ Z (WLa Z (WLa Z (WLa Z (WL_nil (WQ_code (WC_dT Z (by exact hs) ?_))))))))))
 refine WCr (WLa Z (WLa Z (WL_nil (WQ_code (WC_ret ?_)))))
 refine WQ2 Z (by
   exact ⟨rfl, rfl⟩) pqZ
theorem xin_ok (m : XM) (x : PX) (hE : x.E.length ≤ 10000) {L : List (Int × Nat)} (hM : Mk ekW ptrS m.ses m.smc L) (s : Ss) (hin : (s.num, s.p) ∈ L) (st : Int) (now : Nat) (hm : x.may (decide (0 ≤ s.num ∧ s.num ≤ 100)) now = 0) (hs : s.st = st) : Spec Tryz.prog 34 [ptrP m.p, .int .i64 s.num, .int .i64 st, .int .u64 (now : Int)] [pxE m x, pxM m, seE s] (fun r H' => r = .tuple #[ptrS s.p, .int .i64 0] ∧ H' = [pxE m x, pxM m, seE s]) := by
 refine Spec.of (E := [(0, ptrP m.p), (1, .int .i64 s.num), (2, .int .i64 st), (3, .int .u64 (now : Int))]) Tryz.func34 rfl (by kernel_rfl) Tryz.ntmps34 rfl rfl (fun w => ?_)
 refine WCr (WLa Z (WLa Z (WL_nil (WQ_code (WC_seq (WCr (WLa Z (WLa Z (WLq Z (xright_ok s.num) Z pqZ ?_)))))))))
 refine WLa Z (WLq Z (xmay_ok m x (decide (0 ≤ s.num ∧ s.num ≤ 100)) now) Z pqZ ?_)
 refine WLa Z (WL_nil (WQ_code (WCr (WLa Z (WLa Z (WL_nil (WQ_code (WC_dF Z (by exact fun e => e hm) ?_))))))))
 refine WC_skip (WQ_code (WCr (WLa Z (WLa Z (WLf Z fa68_4 (WLl Z sc66 mmZ Z (WLa Z (WLv Z (R_lookK (k := s.num) (a := s.p) Z Tryz.underlying66 int_key Z Z mmZ hM hin) ?_))))))))
 refine WLa Z (WL_nil (WQ_code (WC_seq (WCr (WLa Z (WLv Z (R_ptrEqNil Z Tryz.underlying87 Z) ?_))))))
 refine WLa Z (WLa Z (WLa Z (WLf Z fa90_4 (WLl Z sc49 mmZ Z (WLa Z (WLa Z (WLa Z (WL_nil (WQ_code (WC_dF Z (by exact fun e => e hs) ?_))))))))))
 refine WC_skip (WQ_code (WCr (WLa Z (WLa Z (WLq Z (xfull_ok m x hE) Z pqZ ?_)))))
 refine WLa Z (WLa Z (WL_nil (WQ_code (WC_ret ?_))))
 refine WQ2 Z (by
   exact ⟨rfl, rfl⟩) pqZ
theorem Spec.shed {P : Program} {f : FuncId} {args : List Value} {H : Heap} {post : Value → Heap → Prop} (h : Spec P f args H (fun r H' => ∃ H1 G, H'.Perm (H1 ++ G) ∧ post r H1)) : Spec P f args H post :=
 ⟨h.enters, fun w hw => (h.calls w hw).mono fun e w' ⟨v, H', e1, ⟨H1, G, p, q⟩, r⟩ => ⟨v, H1, e1, q, (r.perm p).left⟩⟩
theorem px_perm {a b c d e : Ent} {SS S2 R : Heap} (h : SS.Perm (e :: S2)) : ([a, b, c, d] ++ (SS ++ R)).Perm (([a, e, b, c, d] ++ R) ++ S2) := by
 refine (((h.append_right R).append_left [a, b, c, d])).trans ?_
 refine List.Perm.cons a ?_
 refine (List.perm_middle (l₁ := [b, c, d]) (a := e) (l₂ := S2 ++ R)).trans (List.Perm.cons e (List.Perm.cons b (List.Perm.cons c (List.Perm.cons d (show (S2 ++ R).Perm (R ++ S2) from List.perm_append_comm)))))
theorem px_mid (T L P S : Heap) : ((T ++ (L ++ P)) ++ S).Perm (L ++ (T ++ (S ++ P))) := by
 have h1 : ((T ++ (L ++ P)) ++ S).Perm ((L ++ T) ++ (S ++ P)) := by
  rw [← List.append_assoc T L P, List.append_assoc (T ++ L) P S]
  exact (List.perm_append_comm).append List.perm_append_comm
 rw [List.append_assoc L T (S ++ P)] at h1
 exact h1
theorem px_perm2 {a b c d e : Ent} {SS S2 L P : Heap} (h : SS.Perm (e :: S2)) : ([a, b, c, d] ++ (SS ++ (L ++ P))).Perm (([a, e] ++ L) ++ ([b, c, d] ++ (S2 ++ P))) :=
 (px_perm h).trans (List.Perm.cons a (List.Perm.cons e (px_mid [b, c, d] L P S2)))
theorem px_perm3 {a b c d e : Ent} {SS S2 L P : Heap} (h : SS.Perm (e :: S2)) : ([a, b, c, d] ++ (SS ++ (L ++ P))).Perm (([a, e, b, c] ++ L) ++ ([d] ++ (S2 ++ P))) :=
 (px_perm h).trans (List.Perm.cons a (List.Perm.cons e (List.Perm.cons b (List.Perm.cons c (px_mid [d] L P S2)))))
theorem px_back3 {a b c d e : Ent} {S2 L P : Heap} : (([a, e, b, c] ++ L) ++ ([d] ++ (S2 ++ P))).Perm (([a, b, c, d] ++ (S2 ++ (L ++ P))) ++ [e]) := by
 refine (px_perm3 (SS := e :: S2) (List.Perm.refl _)).symm.trans ?_
 refine (List.perm_middle (l₁ := [a, b, c, d]) (a := e) (l₂ := S2 ++ (L ++ P))).trans ?_
 exact (List.perm_append_singleton e _).symm
abbrev pxH (m : XM) (x : PX) : Heap := [pxE m x, pxM m, pxV m x, pxQ m] ++ (ssH x.S ++ (balH m.bm ++ poolsH m.pm x.P))
theorem PXIs.le {N N2 : Nat} {m : XM} {x : PX} (h : PXIs N m x) (hN : N ≤ N2) : PXIs N2 m x := ⟨h.bal.le hN, h.len, h.po, h.oq, h.mp, h.eO, h.ok, h.seed, h.num, h.vl, h.now⟩
theorem PXIs.setS {N : Nat} {m : XM} {x : PX} (h : PXIs N m x) {A B : List Ss} {s s' : Ss} (hS : x.S = A ++ s :: B) (hn : s'.num = s.num) (hp : s'.p = s.p) : PXIs N m { x with S := A ++ s' :: B } := by
 have e : sesM (A ++ s' :: B) = sesM x.S := by rw [hS]; simp only [sesM, List.map_append, List.map_cons, hn, hp]
 refine ⟨h.bal, h.len, h.po, h.oq, ?_, h.eO, h.ok, h.seed, fun y hy => ?_, h.vl, h.now⟩
 ·show Mk ekW ptrS m.ses m.smc (sesM (A ++ s' :: B)); rw [e]; exact h.mp
 ·rcases List.mem_append.1 hy with hy | hy
  ·exact h.num y (by rw [hS]; exact List.mem_append_left _ hy)
  ·rcases List.mem_cons.1 hy with rfl | hy
   ·rw [hn]; exact h.num s (by rw [hS]; exact List.mem_append_right _ (List.mem_cons_self ..))
   ·exact h.num y (by rw [hS]; exact List.mem_append_right _ (List.mem_cons_of_mem _ hy))
def PX.att (x : PX) (A : List Ss) (s : Ss) (B : List Ss) : PX :=
 if x.b.cand x.now = [] then
  if x.failE s = 0 then { x with S := A ++ x.later s :: B } else { x.tell ⟨3, s.num, -1, -1, x.failE s⟩ with S := A ++ B }
 else match x.P[x.pk s]? with
  | some si => { x.attX s si with S := A ++ x.attS s si :: B }
  | none => x
theorem attX_S (x : PX) (s : Ss) (si : PS) : (x.attX s si).S = x.S ∧ (x.attS s si).num = s.num ∧ (x.attS s si).p = s.p := by
 by_cases h1 : (x.pv s si).k = 1
 ·rw [(attX_1 h1).1, (attX_1 h1).2]; exact ⟨rfl, rfl, rfl⟩
 ·by_cases h2 : (x.pv s si).k = 2
  ·rw [(attX_2 h1 h2).1, (attX_2 h1 h2).2]; exact ⟨rfl, rfl, rfl⟩
  ·rw [(attX_3 h1 h2).1, (attX_3 h1 h2).2]; exact ⟨rfl, rfl, rfl⟩
theorem pk_at {N : Nat} {m : XM} {x : PX} (h : PXIs N m x) (s : Ss) (hne : x.b.cand x.now ≠ []) : x.b.pickI s.key x.now = (x.pk s : Int) ∧ ∃ mi si, m.pm[x.pk s]? = some mi ∧ x.P[x.pk s]? = some si := by
 obtain ⟨i, z, h1, h2, _⟩ := cand_mem (pickI_mem x.b.k (un x.b.V) x.b.nx s.key hne)
 have h1 : x.b.pickI s.key x.now = (i : Int) := h1
 have hl := (List.getElem?_eq_some_iff.1 h2).1
 rw [un_len] at hl
 have e : x.pk s = i := by unfold PX.pk; rw [h1]; rfl
 obtain ⟨mi, hmi⟩ := getE (T := m.pm) (i := i) (by rw [h.len, ← h.vl]; exact hl)
 obtain ⟨si, hsi⟩ := getE (T := x.P) (i := i) (by rw [← h.vl]; exact hl)
 rw [e]; exact ⟨h1, mi, si, hmi, hsi⟩
theorem xattempt_ok {N : Nat} {m : XM} {x : PX} (h : PXIs N m x) (hN : N ≤ 9000) (hE : x.E.length ≤ 1000000) {A B : List Ss} {s : Ss} (hS : x.S = A ++ s :: B) (hk : s.key.size ≤ 64) (ht : s.tr ≤ 1000) (hbl : x.b.last ≤ x.now) (hpo : ∀ si ∈ x.P, si.E.length ≤ 10000 ∧ si.n < 1000000000000) (hd : delL (sesM x.S) s.num = sesM (A ++ B)) :
  Spec Tryz.prog 33 [ptrP m.p, ptrS s.p] (pxH m x) (fun r H' => ∃ m', r = .tuple #[] ∧ H' = pxH m' (x.att A s B) ∧ PXIs (N + 1) m' (x.att A s B) ∧ m'.p = m.p) := by
 have hin : (s.num, s.p) ∈ sesM x.S := by rw [hS]; exact List.mem_map_of_mem (f := fun s : Ss => (s.num, s.p)) (List.mem_append_right _ (List.mem_cons_self ..))
 have hperm : (ssH x.S).Perm (seE s :: ssH (A ++ B)) := by rw [hS]; exact ssH_split A B s
 by_cases hne : x.b.cand x.now = []
 ·by_cases hf : x.failE s = 0
  ·have hX : x.att A s B = { x with S := A ++ x.later s :: B } := by unfold PX.att; rw [if_pos hne, if_pos hf]
   refine Spec.re ((((xatt_l h hN s hk ht hbl hne hf).fr ([pxM m, pxV m x, pxQ m] ++ (ssH (A ++ B) ++ poolsH m.pm x.P))).perm (px_perm2 hperm)).mono ?_)
   rintro r H' ⟨H1, ⟨hr, rfl⟩, rfl⟩
   refine ⟨pxH m (x.att A s B), ?_, m, hr, rfl, ?_, rfl⟩
   ·rw [hX]
    exact (px_perm2 (ssH_split A B (x.later s))).symm
   ·rw [hX]
    exact (h.setS (s' := x.later s) hS rfl rfl).le (Nat.le_succ N)
  ·have hX : x.att A s B = { x.tell ⟨3, s.num, -1, -1, x.failE s⟩ with S := A ++ B } := by unfold PX.att; rw [if_pos hne, if_neg hf]
   refine Spec.shed ((((xatt_g h hN hE s hin hk ht hbl hne hf).fr ([pxQ m] ++ (ssH (A ++ B) ++ poolsH m.pm x.P))).perm (px_perm3 hperm)).mono ?_)
   rintro r H' ⟨H1, ⟨ses, eb, ek, ec, epre, etl, hr, rfl, hO, hM⟩, rfl⟩
   refine ⟨pxH { m with ses := ses, eb := eb, ek := ek, ec := ec, epre := epre, etl := etl } (x.att A s B), [seE s], ?_, { m with ses := ses, eb := eb, ek := ek, ec := ec, epre := epre, etl := etl }, hr, rfl, ?_, rfl⟩
   ·rw [hX]
    exact px_back3
   ·rw [hX]
    rw [hd] at hM
    exact ⟨h.bal.le (Nat.le_succ N), h.len, h.po, h.oq, hM, hO, h.ok, h.seed, fun y hy => h.num y (by
     rw [hS]
     rcases List.mem_append.1 hy with hy | hy
     ·exact List.mem_append_left _ hy
     ·exact List.mem_append_right _ (List.mem_cons_of_mem _ hy)), h.vl, h.now⟩
 ·obtain ⟨hpi, mi, si, hmi, hsi⟩ := pk_at h s hne
  obtain ⟨e1, e2, e3⟩ := attX_S x s si
  have hX : x.att A s B = { x.attX s si with S := A ++ x.attS s si :: B } := by unfold PX.att; rw [if_neg hne, hsi]
  obtain ⟨q1, q2⟩ := hpo si (List.mem_of_getElem? hsi)
  refine Spec.re ((((xatt_ok h hN hE s hk hbl hne hmi hsi hpi q1 q2).fr (ssH (A ++ B))).perm (px_perm hperm)).mono ?_)
  rintro r H' ⟨H1, ⟨m', hr, rfl, hI, hp, _⟩, rfl⟩
  refine ⟨pxH m' (x.att A s B), ?_, m', hr, rfl, ?_, hp⟩
  ·rw [hX]
   exact (px_perm (ssH_split A B (x.attS s si))).symm
  ·rw [hX]
   exact hI.setS (e1.trans hS) e2 e3
theorem pnext_none {m : PM} {s : PS} (h : PIs m s) (hE : s.E = []) : Spec Tryz.prog 66 [ptrP m.p] (poH m s) (fun r H' => r = .tuple #[.agg #[.int .i64 0, .int .i64 0, .int .i64 0], .bool false] ∧ H' = poH m s) := by
 refine Spec.of (E := [(0, ptrP m.p)]) Tryz.func66 rfl (by kernel_rfl) Tryz.ntmps66 rfl rfl (fun w => ?_)
 refine WCr (WLd Z (D_alloc Z zv143) ?_)
 rintro _ _ ⟨b1, rfl, rfl⟩
 refine WLa Z (WL_nil (WQ_code (WC_seq (WCr (WLa Z (WLq Z (pnone_ok h) Z pqZ ?_))))))
 refine WLa Z (WLa Z (WLa Z (WLf Z fa136_7 (WLv Z (R_load (v := sVal m.eb m.ek s.E.length m.ec) Z sc134 Z mmZ (pc_t h.cl Z 2)) ?_))))
 refine WLv Z (R_lenS Z Tryz.underlying134 Z) ?_
 refine WLa Z (WLa Z (WL_nil (WQ_code (WC_dT Z (by rw [hE]; rfl) ?_))))
 refine WCr (WLv Z (R_build Z zv143 pl143 Z Z) ?_)
 refine WLs (vs := [_, _, _]) Z Tryz.sizeOf143 Z Z plZ (nb Z) ?_
 refine WLa Z (WL_nil (WQ_code (WC_ret ?_)))
 refine WQ_ret Z Z (.cons (.cell (vs := [_, _, _]) Z ag143 mmZ Z atZ) (.cons (.tmp Z) .nil)) Z (by
   exact ⟨rfl, rfl⟩) pqZ
theorem pnext_some {m : PM} {s : PS} (h : PIs m s) {x : Pv} {r : List Pv} (hE : s.E = x :: r) : Spec Tryz.prog 66 [ptrP m.p] (poH m s) (fun v H' => ∃ m', v = .tuple #[pvV x, .bool true] ∧ H' = poH m' s.nx ∧ m'.p = m.p ∧ PIs m' s.nx) := by
 have hnx : s.nx = { s with E := r } := by unfold PS.nx; rw [hE]; rfl
 have heO := h.eO
 rw [hE] at heO
 obtain ⟨wb, hwb⟩ := heO.some_of (Nat.succ_pos _)
 have hlen : s.E.length = r.length + 1 := by rw [hE]; rfl
 rw [hnx]
 refine Spec.of (E := [(0, ptrP m.p)]) Tryz.func66 rfl (by kernel_rfl) Tryz.ntmps66 rfl rfl (fun w => ?_)
 refine WCr (WLd Z (D_alloc Z zv143) ?_)
 rintro _ _ ⟨b1, rfl, rfl⟩
 refine WLa Z (WL_nil (WQ_code (WC_seq (WCr (WLa Z (WLq Z (pnone_ok h) Z pqZ ?_))))))
 refine WLa Z (WLa Z (WLa Z (WLf Z fa136_7 (WLv Z (R_load (v := sVal m.eb m.ek s.E.length m.ec) Z sc134 Z mmZ (pc_t h.cl Z 2)) ?_))))
 refine WLv Z (R_lenS Z Tryz.underlying134 Z) ?_
 refine WLa Z (WLa Z (WL_nil (WQ_code (WC_dF Z (by omega) ?_))))
 refine WC_skip (WQ_code (WC_seq (WC_drawY [⟨some b1, _⟩, ⟨some m.p, _⟩] [(m.p, 198, sVal m.eb m.ek s.E.length m.ec)] [15] [(0, false), (1, false), (2, false), (3, false), (4, true), (5, false), (6, false), (7, false), (8, false), (9, false), (10, true)] [(11, true), (12, false), (13, true), (14, true), (15, false)] followsMixed Z Z (by kernel_rfl) pqZ (.cons mmZ (pc_t h.cl Z 2) .nil) ?_)))
 refine WYE_val Z Z Z Z (R_move Z Z) ?_
 refine WYE_val Z Z Z Z (R_move Z Z) ?_
 refine WYE_val Z Z Z Z (R_nilCheck Z Z) ?_
 refine WYE_val Z Z Z Z (R_fieldAddr Z fa136_7 Z) ?_
 refine WYE_early Z Z Z Z Z sc134 Z (by repeat (first | exact List.Mem.head _ | refine List.Mem.tail _ ?_)) ?_
 refine WYE_val Z Z Z Z (R_indexS (i := 0) hwb Z Tryz.underlying134 Tryz.sizeOf143 Z Z (by omega)) ?_
 refine WYE_val Z Z Z Z (R_loadAO (vs := [.int .i64 x.k, .int .i64 x.who, .int .i64 x.c]) hwb Z ag143 Z mmZ Z (h.eO.atE (i := 0) (x := x) (by rw [hE]; rfl) (by omega))) ?_
 refine WYE_val Z Z Z Z (R_move Z Z) ?_
 refine WYE_val Z Z Z Z (R_nilCheck Z Z) ?_
 refine WYE_val Z Z Z Z (R_fieldAddr Z fa136_7 Z) ?_
 refine WYE_early Z Z Z Z Z sc134 Z (by repeat (first | exact List.Mem.head _ | refine List.Mem.tail _ ?_)) ?_
 refine WYE_rest ?_
 refine WY_val Z Z Z Z (R_cut1 (m := r.length) hwb Z Tryz.underlying134 Tryz.sizeOf143 Z Z hlen) ?_
 refine WY_do0 Z Z Z (D_store (vs := [_, _, _]) Z Tryz.sizeOf143 Z Z Z Z Z plZ (nb Z)) ?_
 rintro _ _ rfl
 refine ⟨⟨_, pqZ⟩, .inr (.cons mmZ (pc_t h.cl rfl 2) .nil), ?_⟩
 refine WY_val Z Z Z Z (R_nilCheck Z Z) ?_
 refine WY_val Z Z Z Z (R_fieldAddr Z fa136_7 Z) ?_
 refine WY_do0 Z Z Z (D_store (vs := [_]) Z Tryz.sizeOf134 Z Z Z Z Z plZ (by exact pc_roomT h.cl rfl (j := 2) (by show 2 < 3; decide))) ?_
 rintro _ _ rfl
 refine ⟨⟨_, pqZ⟩, .inl rfl, ?_⟩
 refine WY_nil ?_
 refine WQ_code (WCr (WLv Z (R_loadA (vs := [_, _, _]) Z ag143 Z mmZ Z atZ) ?_))
 refine WLs (vs := [_, _, _]) Z Tryz.sizeOf143 Z Z plZ (nb Z) ?_
 refine WLa Z (WL_nil (WQ_code (WC_ret ?_)))
 rw [show putAt (pC m s) _ _ = _ from pc_putT h.cl (A := pcH s) rfl 2 _, show poV m s = (⟨m.eb, cl ((m.epre ++ encV x) ++ (r.flatMap encV ++ m.etl)) 143⟩ : Ent) from by unfold poV; rw [hE]; simp]
 refine WQ_ret Z Z (.cons (.cell (vs := [_, _, _]) Z ag143 mmZ Z atZ) (.cons (.tmp Z) .nil)) Z (by
   exact ⟨{ m with ek := if m.ec = 1 then m.ek else m.ek + 3, ec := m.ec - 1, epre := m.epre ++ encV x }, rfl, rfl, rfl, h.ev (heO.cut (ys := encV x) (zs := r.flatMap encV) (m := r.length) rfl rfl rfl)⟩) pqZ
theorem pnext_orX {m : PM} {s : PS} (h : PIs m s) : Spec Tryz.prog 66 [ptrP m.p] (poH m s) (fun v H' => ∃ m', ((s.E = [] ∧ v = .tuple #[.agg #[.int .i64 0, .int .i64 0, .int .i64 0], .bool false]) ∨ (∃ x r, s.E = x :: r ∧ v = .tuple #[pvV x, .bool true])) ∧ H' = poH m' s.nx ∧ m'.p = m.p ∧ PIs m' s.nx) := by
 cases hE : s.E with
 | nil =>
  have hnx : s.nx = s := by unfold PS.nx; rw [hE]; show { s with E := [] } = s; rw [← hE]
  rw [hnx]
  exact (pnext_none h hE).mono fun v H' ⟨h1, h2⟩ => ⟨m, .inl ⟨rfl, h1⟩, h2, rfl, h⟩
 | cons x r => exact (pnext_some h hE).mono fun v H' ⟨m', h1, h2, h3, h4⟩ => ⟨m', .inr ⟨x, r, rfl, h1⟩, h2, h3, h4⟩
theorem xp_next {ms : List PM} {ss : List PS} {i : Nat} {mi : PM} {si : PS} (h1 : ms[i]? = some mi) (h2 : ss[i]? = some si) (h : PIs mi si) : Spec Tryz.prog 66 [ptrP mi.p] (poolsH ms ss) (fun v H' => ∃ m', ((si.E = [] ∧ v = .tuple #[.agg #[.int .i64 0, .int .i64 0, .int .i64 0], .bool false]) ∨ (∃ x r, si.E = x :: r ∧ v = .tuple #[pvV x, .bool true])) ∧ H' = poolsH (ms.set i m') (ss.set i si.nx) ∧ m'.p = mi.p ∧ PIs m' si.nx) := by
 refine (Spec.pool h1 h2 (Q := fun v m' s' => ((si.E = [] ∧ v = .tuple #[.agg #[.int .i64 0, .int .i64 0, .int .i64 0], .bool false]) ∨ (∃ x r, si.E = x :: r ∧ v = .tuple #[pvV x, .bool true])) ∧ s' = si.nx ∧ m'.p = mi.p ∧ PIs m' s') ((pnext_orX h).mono ?_)).mono ?_
 ·rintro r H' ⟨m', e1, e2, e3, e4⟩
  exact ⟨m', _, e2, e1, rfl, e3, e4⟩
 ·rintro r H' ⟨m', s', e1, e2, rfl, e3, e4⟩
  exact ⟨m', e2, e1, e3, e4⟩
theorem xp_dialed {ms : List PM} {ss : List PS} {i : Nat} {mi : PM} {si : PS} (h1 : ms[i]? = some mi) (h2 : ss[i]? = some si) (h : PIs mi si) (hE : si.E.length ≤ 10000) (c : Int) (made : Bool) (now : Nat) (hb : now ≤ 18446744073709551615) : Spec Tryz.prog 35 [ptrP mi.p, .int .i64 c, .bool made, .int .u64 (now : Int)] (poolsH ms ss) (fun r H' => ∃ m', r = .int .i64 (si.inE c 1 now) ∧ H' = poolsH (ms.set i m') (ss.set i (si.dialed c made now)) ∧ m'.p = mi.p ∧ PIs m' (si.dialed c made now)) := by
 refine (Spec.pool h1 h2 (Q := fun r m' s' => r = .int .i64 (si.inE c 1 now) ∧ s' = si.dialed c made now ∧ m'.p = mi.p ∧ PIs m' s') ((pdialed_ok h hE c made now hb).mono ?_)).mono ?_
 ·rintro r H' ⟨m', e1, e2, e3, e4⟩
  exact ⟨m', _, e2, e1, rfl, e3, e4⟩
 ·rintro r H' ⟨m', s', e1, e2, rfl, e3, e4⟩
  exact ⟨m', e2, e1, e3, e4⟩
theorem xp_put {ms : List PM} {ss : List PS} {i : Nat} {mi : PM} {si : PS} (h1 : ms[i]? = some mi) (h2 : ss[i]? = some si) (h : PIs mi si) (hE : si.E.length ≤ 10000) (c : Int) (good : Bool) (now : Nat) (hb : now ≤ 18446744073709551615) : Spec Tryz.prog 40 [ptrP mi.p, .int .i64 c, .bool good, .int .u64 (now : Int)] (poolsH ms ss) (fun r H' => ∃ m', r = .int .i64 (si.inE c 2 now) ∧ H' = poolsH (ms.set i m') (ss.set i (si.put c good now)) ∧ m'.p = mi.p ∧ PIs m' (si.put c good now)) := by
 refine (Spec.pool h1 h2 (Q := fun r m' s' => r = .int .i64 (si.inE c 2 now) ∧ s' = si.put c good now ∧ m'.p = mi.p ∧ PIs m' s') ((pput_ok h hE c good now hb).mono ?_)).mono ?_
 ·rintro r H' ⟨m', e1, e2, e3, e4⟩
  exact ⟨m', _, e2, e1, rfl, e3, e4⟩
 ·rintro r H' ⟨m', s', e1, e2, rfl, e3, e4⟩
  exact ⟨m', e2, e1, e3, e4⟩
def BS.doneX (s : BS) (now : Nat) (n : Int) (good : Bool) : BS := match s.C.find? (fun c => decide (c.1 = n)) with
 | some c => s.done now n c.2.1.toNat c.2.2 good
 | none => s
theorem bdt_ok {N : Nat} {m : Bm} {s : BS} (h : BIs N m s) (hN : N ≤ 9000) (now : Nat) (n : Int) (good : Bool) (h1 : s.last ≤ now) (h2 : now ≤ 18446744073709551614) : Spec Tryz.prog 38 [ptrB m.p, .int .u64 (now : Int), .int .i64 n, .bool good] (balH m) (fun r H' => ∃ m' e, r = .int .i64 e ∧ H' = balH m' ∧ m'.p = m.p ∧ BIs (N + 1) m' (s.doneX now n good)) := by
 cases hf : s.C.find? (fun c => decide (c.1 = n)) with
 | none =>
  have hX : s.doneX now n good = s := by unfold BS.doneX; rw [hf]
  have hno : n ∉ s.C.map (·.1) := fun e => by
   obtain ⟨c, hc, e⟩ := List.mem_map.1 e
   have := List.find?_eq_none.1 hf c hc
   simp only [decide_eq_true_eq] at this
   exact this e
  have hl := h.last
  refine Spec.re (((((bdone_none m N s.C h.is now n good (by omega) h2 hno).fr ([bE2 m] ++ bks m.L)).perm (List.Perm.cons _ (List.Perm.swap _ _ _)))).mono ?_)
  rintro r H' ⟨H1, ⟨hr, rfl⟩, rfl⟩
  refine ⟨balH m, ?_, m, 9, hr, rfl, rfl, by rw [hX]; exact h.le (Nat.le_succ N)⟩
  exact List.Perm.cons _ (List.Perm.swap _ _ _)
 | some c =>
  obtain ⟨n', jI, gn⟩ := c
  have hc := List.mem_of_find?_eq_some hf
  have hn : n' = n := by have := List.find?_some hf; simpa using this
  subst hn
  have hX : s.doneX now n' good = s.done now n' jI.toNat gn good := by unfold BS.doneX; rw [hf]
  have hb := h.is.bk _ hc
  obtain ⟨j, rfl⟩ := Int.eq_ofNat_of_zero_le (show 0 ≤ jI from hb.1)
  refine (bd_ok h hN now n' good h1 h2 j gn hc).mono ?_
  rintro r H' ⟨m', hr, hH, hp, hI⟩
  exact ⟨m', 0, hr, hH, hp, by rw [hX]; exact hI⟩
theorem px_perm4 {a b c d e : Ent} {SS S2 R : Heap} (h : SS.Perm (e :: S2)) : ([a, b, c, d] ++ (SS ++ R)).Perm ([a, e, c] ++ ([b, d] ++ (S2 ++ R))) := by
 refine (px_perm h).trans (List.Perm.cons a (List.Perm.cons e ?_))
 refine (List.Perm.swap c b _).trans (List.Perm.cons c (List.Perm.cons b (List.Perm.cons d ?_)))
 exact (show (R ++ S2).Perm (S2 ++ R) from List.perm_append_comm)
theorem xact_all {N : Nat} {m : XM} {x : PX} (h : PXIs N m x) (hE : x.E.length ≤ 1000000) {A B : List Ss} {s : Ss} (hS : x.S = A ++ s :: B) (c : Int) :
  Spec Tryz.prog 36 [ptrP m.p, ptrS s.p, .int .i64 c] (pxH m x) (fun r H' => ∃ m', r = .tuple #[] ∧ H' = pxH m' { x.tell ⟨1, s.num, s.be, c, 0⟩ with S := A ++ { s with st := 4, cn := c } :: B } ∧ PXIs N m' { x.tell ⟨1, s.num, s.be, c, 0⟩ with S := A ++ { s with st := 4, cn := c } :: B } ∧ m'.p = m.p ∧ m'.pm = m.pm ∧ m'.bm = m.bm ∧ m'.ob = m.ob ∧ m'.oc = m.oc ∧ m'.otl = m.otl) := by
 have hperm : (ssH x.S).Perm (seE s :: ssH (A ++ B)) := by rw [hS]; exact ssH_split A B s
 refine Spec.re ((((xact_ok m x h.eO hE s c).fr ([pxM m, pxQ m] ++ (ssH (A ++ B) ++ (balH m.bm ++ poolsH m.pm x.P)))).perm (px_perm4 hperm)).mono ?_)
 rintro r H' ⟨H1, ⟨eb, ek, ec, epre, etl, hr, rfl, hO⟩, rfl⟩
 refine ⟨_, ?_, { m with eb := eb, ek := ek, ec := ec, epre := epre, etl := etl }, hr, rfl, ?_, rfl, rfl, rfl, rfl, rfl, rfl⟩
 ·exact (px_perm4 (ssH_split A B { s with st := 4, cn := c })).symm
 ·exact (h.tell ⟨1, s.num, s.be, c, 0⟩ hO).setS (s' := { s with st := 4, cn := c }) hS rfl rfl
theorem xdial_all {N : Nat} {m : XM} {x : PX} (h : PXIs N m x) (hE : x.E.length ≤ 1000000) {A B : List Ss} {s : Ss} (hS : x.S = A ++ s :: B) (c : Int) :
  Spec Tryz.prog 62 [ptrP m.p, ptrS s.p, .int .i64 c] (pxH m x) (fun r H' => ∃ m', r = .tuple #[] ∧ H' = pxH m' { x.tell ⟨2, s.num, s.be, c, 0⟩ with S := A ++ { s with st := 3, cn := c } :: B } ∧ PXIs N m' { x.tell ⟨2, s.num, s.be, c, 0⟩ with S := A ++ { s with st := 3, cn := c } :: B } ∧ m'.p = m.p ∧ m'.pm = m.pm ∧ m'.bm = m.bm ∧ m'.ob = m.ob ∧ m'.oc = m.oc ∧ m'.otl = m.otl) := by
 have hperm : (ssH x.S).Perm (seE s :: ssH (A ++ B)) := by rw [hS]; exact ssH_split A B s
 refine Spec.re ((((xdial_ok m x h.eO hE s c).fr ([pxM m, pxQ m] ++ (ssH (A ++ B) ++ (balH m.bm ++ poolsH m.pm x.P)))).perm (px_perm4 hperm)).mono ?_)
 rintro r H' ⟨H1, ⟨eb, ek, ec, epre, etl, hr, rfl, hO⟩, rfl⟩
 refine ⟨_, ?_, { m with eb := eb, ek := ek, ec := ec, epre := epre, etl := etl }, hr, rfl, ?_, rfl, rfl, rfl, rfl, rfl, rfl⟩
 ·exact (px_perm4 (ssH_split A B { s with st := 3, cn := c })).symm
 ·exact (h.tell ⟨2, s.num, s.be, c, 0⟩ hO).setS (s' := { s with st := 3, cn := c }) hS rfl rfl
theorem xfail_all {N : Nat} {m : XM} {x : PX} (h : PXIs N m x) (hE : x.E.length ≤ 1000000) {A B : List Ss} {s : Ss} (hS : x.S = A ++ s :: B) (hd : delL (sesM x.S) s.num = sesM (A ++ B)) (code : Int) :
  Spec Tryz.prog 51 [ptrP m.p, ptrS s.p, .int .i64 code] (pxH m x) (fun r H' => ∃ m', r = .tuple #[] ∧ H' = pxH m' { x.tell ⟨3, s.num, -1, -1, code⟩ with S := A ++ B } ∧ PXIs N m' { x.tell ⟨3, s.num, -1, -1, code⟩ with S := A ++ B } ∧ m'.p = m.p ∧ m'.pm = m.pm ∧ m'.bm = m.bm ∧ m'.ob = m.ob ∧ m'.oc = m.oc ∧ m'.otl = m.otl) := by
 have hin : (s.num, s.p) ∈ sesM x.S := by rw [hS]; exact List.mem_map_of_mem (f := fun s : Ss => (s.num, s.p)) (List.mem_append_right _ (List.mem_cons_self ..))
 have hperm : (ssH x.S).Perm (seE s :: ssH (A ++ B)) := by rw [hS]; exact ssH_split A B s
 refine Spec.shed ((((xfail_ok m x h.eO hE h.mp s hin code).fr ([pxQ m] ++ (ssH (A ++ B) ++ (balH m.bm ++ poolsH m.pm x.P)))).perm (px_perm3 (L := []) hperm)).mono ?_)
 rintro r H' ⟨H1, ⟨ses, eb, ek, ec, epre, etl, hr, rfl, hO, hM⟩, rfl⟩
 refine ⟨_, [seE s], ?_, { m with ses := ses, eb := eb, ek := ek, ec := ec, epre := epre, etl := etl }, hr, rfl, ?_, rfl, rfl, rfl, rfl, rfl, rfl⟩
 ·exact px_back3 (L := [])
 ·rw [hd] at hM
  exact ⟨h.bal, h.len, h.po, h.oq, hM, hO, h.ok, h.seed, fun y hy => h.num y (by
   rw [hS]
   rcases List.mem_append.1 hy with hy | hy
   ·exact List.mem_append_left _ hy
   ·exact List.mem_append_right _ (List.mem_cons_of_mem _ hy)), h.vl, h.now⟩
theorem ses_del {S A B : List Ss} {s : Ss} (hS : S = A ++ s :: B) (hn : (S.map (·.num)).Nodup) : delL (sesM S) s.num = sesM (A ++ B) := by
 subst hS
 have hx : ∀ y ∈ A ++ B, y.num ≠ s.num := fun y hy e => by
  have h1 := ((List.perm_middle (l₁ := A) (a := s) (l₂ := B)).map (fun y : Ss => y.num)).nodup_iff.1 hn
  rw [List.map_cons, List.nodup_cons] at h1
  exact h1.1 (by rw [← e]; exact List.mem_map_of_mem hy)
 have h2 : (A ++ s :: B).filter (fun y => decide (y.num ≠ s.num)) = A ++ B := by
  rw [List.filter_append, List.filter_cons_of_neg (by simp), ← List.filter_append, List.filter_eq_self.2 (fun y hy => decide_eq_true (hx y hy))]
 unfold delL sesM
 rw [List.filter_map]
 exact congrArg sesM h2
def updS (S : List Ss) (n : Int) (f : Ss → Ss) : List Ss := S.map fun s => if s.num = n then f s else s
def PX.drE (i : Nat) (x : PX) (e : Pv) : PX :=
 if e.k = 5 then x.tell ⟨4, -1, (i : Int), e.c, 0⟩
 else match x.S.find? (fun s => decide (s.num = e.who)) with
  | none => x
  | some s =>
   if e.k = 1 then { x.tell ⟨1, s.num, s.be, e.c, 0⟩ with S := updS x.S s.num fun s => { s with st := 4, cn := e.c } }
   else if e.k = 2 then { x.tell ⟨2, s.num, s.be, e.c, 0⟩ with S := updS x.S s.num fun s => { s with st := 3, cn := e.c } }
   else if e.k = 4 then { x.tell ⟨3, s.num, -1, -1, 12⟩ with b := x.b.doneX x.now s.cal true, S := x.S.filter fun y => decide (y.num ≠ s.num) }
   else x
theorem updS_at {S A B : List Ss} {s : Ss} (hS : S = A ++ s :: B) (hn : (S.map (·.num)).Nodup) (f : Ss → Ss) : updS S s.num f = A ++ f s :: B := by
 subst hS
 have hx : ∀ y ∈ A ++ B, y.num ≠ s.num := fun y hy e => by
  have h1 := ((List.perm_middle (l₁ := A) (a := s) (l₂ := B)).map (fun y : Ss => y.num)).nodup_iff.1 hn
  rw [List.map_cons, List.nodup_cons] at h1
  exact h1.1 (by rw [← e]; exact List.mem_map_of_mem hy)
 have key : ∀ L : List Ss, (∀ y ∈ L, y.num ≠ s.num) → L.map (fun y => if y.num = s.num then f y else y) = L := by
  intro L
  induction L with
  | nil => intro _; rfl
  | cons a r ih => intro h; rw [List.map_cons, if_neg (h a (List.mem_cons_self ..)), ih fun y hy => h y (List.mem_cons_of_mem _ hy)]
 unfold updS
 rw [List.map_append, List.map_cons, if_pos rfl, key A fun y hy => hx y (List.mem_append_left _ hy), key B fun y hy => hx y (List.mem_append_right _ hy)]
end Go.Proofs.YtelmlkdibcdebaaGreat
