/-
  Chapter 48 (balance), part BalV: contracts of functions that the laws call, each for the heap it names.
-/
import Derived.Test.YtiokpmgbabpikaaRows
import Derived.Test.YtiokpmgbabpikaaZSLOpt
import Derived.Test.YtiokpmgbabpikaaTab
import Derived.Test.YtiokpmgbabpikaaBal5
import Derived.Test.YtiokpmgbabpikaaBalP
set_option linter.unusedVariables false
set_option maxRecDepth 20000
namespace Go.Proofs.Ytiokpmgbabpikaa


/-! ### Only what the document tells of the backends matters -/
def un (V : List Vw) : List Bk := V.map fun v => ⟨v.1, v.2.1, v.2.2.1, v.2.2.2.1, 0, v.2.2.2.2⟩
theorem vw_un (V : List Vw) : (un V).map vw = V := by
  unfold un
  rw [List.map_map]
  exact (List.map_congr_left (fun v _ => rfl)).trans (List.map_id V)
theorem un_len (V : List Vw) : (un V).length = V.length := List.length_map _
section
variable {L L2 : List Bk}
theorem cv_len (h : L.map vw = L2.map vw) : L.length = L2.length := by
  have := congrArg List.length h
  rwa [List.length_map, List.length_map] at this
theorem gBv (L : List Bk) (a : Int) : vw (gB L a) = ((L.map vw)[a.toNat]?).getD (vw zeroK) := by
  unfold gB
  rw [List.getElem?_map]
  cases L[a.toNat]? <;> rfl
theorem cv_gB (h : L.map vw = L2.map vw) (a : Int) : vw (gB L a) = vw (gB L2 a) := by rw [gBv, gBv, h]
theorem cv_w (h : L.map vw = L2.map vw) (a : Int) : (gB L a).w = (gB L2 a).w := congrArg (fun v : Vw => v.1) (cv_gB h a)
theorem cv_sh (h : L.map vw = L2.map vw) (a : Int) : (gB L a).sh = (gB L2 a).sh := congrArg (fun v : Vw => v.2.1) (cv_gB h a)
theorem cv_act (h : L.map vw = L2.map vw) (a : Int) : (gB L a).act = (gB L2 a).act := congrArg (fun v : Vw => v.2.2.1) (cv_gB h a)
theorem cv_up (h : L.map vw = L2.map vw) (a : Int) : (gB L a).up = (gB L2 a).up := congrArg (fun v : Vw => v.2.2.2.1) (cv_gB h a)
theorem cv_b (h : L.map vw = L2.map vw) (a : Int) : (gB L a).b = (gB L2 a).b := congrArg (fun v : Vw => v.2.2.2.2) (cv_gB h a)
theorem cv_ok (h : L.map vw = L2.map vw) (now i : Nat) : okAt L now i = okAt L2 now i := by
  have e : ∀ M : List Bk, okAt M now i = match (M.map vw)[i]? with
      | some v => v.2.2.2.1 && decide (rdB v.2.2.2.2 now)
      | none => false := fun M => by
    unfold okAt
    rw [List.getElem?_map]
    cases M[i]? <;> rfl
  rw [e, e, h]
theorem cv_cand (h : L.map vw = L2.map vw) (now : Nat) : cand L now = cand L2 now := by
  unfold cand candK
  rw [cv_len h, show okAt L now = okAt L2 now from funext (cv_ok h now)]
theorem cv_least (h : L.map vw = L2.map vw) (a b : Int) : leastQ L a b = leastQ L2 a b := by
  unfold leastQ; rw [cv_act h, cv_act h, cv_w h, cv_w h]
theorem cv_wei (h : L.map vw = L2.map vw) (a b : Int) : weiQ L a b = weiQ L2 a b := by
  unfold weiQ; rw [cv_sh h, cv_sh h]
theorem vw_sh (x : Bk) (s : Int) : vw { x with sh := s } = ((vw x).1, s, (vw x).2.2) := rfl
theorem cv_bump1 (h : L.map vw = L2.map vw) (a : Int) : (bump1 L a).map vw = (bump1 L2 a).map vw := by
  unfold bump1
  rw [List.map_set, List.map_set, h]
  refine congrArg _ ?_
  show ((gB L a).w, (gB L a).sh + (gB L a).w, (gB L a).act, (gB L a).up, (gB L a).b) = ((gB L2 a).w, (gB L2 a).sh + (gB L2 a).w, (gB L2 a).act, (gB L2 a).up, (gB L2 a).b)
  rw [cv_w h, cv_sh h, cv_up h, cv_act h, cv_b h]
end
theorem cv_bump (l : List Int) : ∀ {L L2 : List Bk}, L.map vw = L2.map vw → (bump L l).map vw = (bump L2 l).map vw := by
  induction l with
  | nil => intro L L2 h; exact h
  | cons a r ih => intro L L2 h; exact ih (cv_bump1 h a)
section
variable {L L2 : List Bk}
theorem cv_sumW (h : L.map vw = L2.map vw) (l : List Int) : sumW L l = sumW L2 l := by
  unfold sumW
  rw [show (fun (s : Int) i => s + (gB L i).w) = fun s i => s + (gB L2 i).w from funext fun s => funext fun i => by rw [cv_w h]]
theorem cv_leastI (h : L.map vw = L2.map vw) (l : List Int) : leastI L l = leastI L2 l := by
  unfold leastI
  exact sel_congr fun a _ b _ => by rw [cv_least h]
theorem cv_weiI (h : L.map vw = L2.map vw) (l : List Int) : weiI L l = weiI L2 l := by
  unfold weiI
  exact sel_congr fun a _ b _ => by rw [cv_wei h]
theorem cv_drop1 (h : L.map vw = L2.map vw) (a s : Int) : (drop1 L a s).map vw = (drop1 L2 a s).map vw := by
  unfold drop1
  rw [List.map_set, List.map_set, h]
  refine congrArg _ ?_
  show ((gB L a).w, (gB L a).sh - s, (gB L a).act, (gB L a).up, (gB L a).b) = ((gB L2 a).w, (gB L2 a).sh - s, (gB L2 a).act, (gB L2 a).up, (gB L2 a).b)
  rw [cv_w h, cv_sh h, cv_up h, cv_act h, cv_b h]
theorem cv_pickI (h : L.map vw = L2.map vw) (k nx : Nat) (key : ByteArray) (l : List Int) : pickI k L nx key l = pickI k L2 nx key l := by
  unfold pickI
  rw [cv_leastI h, cv_weiI (cv_bump l h)]
theorem cv_pickL (h : L.map vw = L2.map vw) (k : Nat) (l : List Int) : (pickL k L l).map vw = (pickL k L2 l).map vw := by
  unfold pickL
  split
  · rw [cv_weiI (cv_bump l h), cv_sumW h]
    exact cv_drop1 (cv_bump l h) _ _
  · exact h
theorem cv_pickS (h : L.map vw = L2.map vw) (k now : Nat) (l : List Int) (i : Nat) : (pickS k L now l i).map vw = (pickS k L2 now l i).map vw := by
  unfold pickS
  rw [List.map_set, List.map_set, cv_pickL h]
  refine congrArg _ ?_
  show ((gB _ _).w, (gB _ _).sh, (gB L _).act + 1, (gB _ _).up, alB (gB L _).b now) = ((gB _ _).w, (gB _ _).sh, (gB L2 _).act + 1, (gB _ _).up, alB (gB L2 _).b now)
  have hp := cv_pickL h k l
  rw [cv_w hp, cv_sh hp, cv_up hp, cv_act h, cv_b h]
theorem cv_doneS (h : L.map vw = L2.map vw) (now j : Nat) (gn : Int) (good : Bool) : (doneS L now j gn good).map vw = (doneS L2 now j gn good).map vw := by
  unfold doneS
  rw [List.map_set, List.map_set, h]
  refine congrArg _ ?_
  show ((gB _ _).w, (gB _ _).sh, (gB L _).act - 1, (gB _ _).up, dnK (gB L _).b now gn good) = ((gB _ _).w, (gB _ _).sh, (gB L2 _).act - 1, (gB _ _).up, dnK (gB L2 _).b now gn good)
  rw [cv_w h, cv_sh h, cv_up h, cv_act h, cv_b h]
end
/-! ### A balancer by the document -/
structure BS where
  k : Nat
  V : List Vw
  nx : Nat
  gv : Nat
  last : Nat
  C : List Cl
structure BIs (N : Nat) (m : Bm) (s : BS) : Prop where
  is : BalIs N m s.C
  k : m.k = s.k
  V : m.L.map vw = s.V
  nx : m.nx = s.nx
  gv : m.gv = s.gv
  last : m.last = s.last
abbrev BS.cand (s : BS) (now : Nat) : List Int := Go.Proofs.Ytiokpmgbabpikaa.cand (un s.V) now
abbrev BS.pickI (s : BS) (key : ByteArray) (now : Nat) : Int := Go.Proofs.Ytiokpmgbabpikaa.pickI s.k (un s.V) s.nx key (s.cand now)
def BS.pick (s : BS) (key : ByteArray) (now : Nat) : BS :=
  { s with V := (pickS s.k (un s.V) now (s.cand now) (s.pickI key now).toNat).map vw, nx := pickN s.k s.V.length s.nx (s.cand now), gv := s.gv + 1, last := now, C := (((s.gv + 1 : Nat) : Int), (s.pickI key now, (alB (gB (un s.V) (s.pickI key now)).b now).gen)) :: s.C }
def BS.setup (s : BS) (i : Nat) (up : Bool) : BS := { s with V := ((un s.V).set i { gB (un s.V) (i : Int) with up := up }).map vw }
def BS.done (s : BS) (now : Nat) (n : Int) (j : Nat) (gn : Int) (good : Bool) : BS := { s with V := (doneS (un s.V) now j gn good).map vw, last := now, C := delL s.C n }
def bs0 (k : Nat) (W : List Int) (limit : Int) (op : Nat) : BS := ⟨k, W.map (fun w => (w, 0, 0, true, newB limit 1 op)), 0, 0, 0, []⟩
theorem BIs.un {N : Nat} {m : Bm} {s : BS} (h : BIs N m s) : m.L.map vw = (Go.Proofs.Ytiokpmgbabpikaa.un s.V).map vw := by rw [vw_un]; exact h.V
theorem BIs.len {N : Nat} {m : Bm} {s : BS} (h : BIs N m s) : m.n = s.V.length := by rw [← h.V, List.length_map]; exact h.is.hn.symm
theorem BIs.cand {N : Nat} {m : Bm} {s : BS} (h : BIs N m s) (now : Nat) : Go.Proofs.Ytiokpmgbabpikaa.cand m.L now = s.cand now := cv_cand h.un now
theorem BIs.pickI {N : Nat} {m : Bm} {s : BS} (h : BIs N m s) (key : ByteArray) (now : Nat) : Go.Proofs.Ytiokpmgbabpikaa.pickI m.k m.L m.nx key (Go.Proofs.Ytiokpmgbabpikaa.cand m.L now) = s.pickI key now := by
  rw [h.cand, h.k, h.nx, cv_pickI h.un]
theorem BIs.le {N N2 : Nat} {m : Bm} {s : BS} (h : BIs N m s) (hN : N ≤ N2) : BIs N2 m s := ⟨h.is.le hN, h.k, h.V, h.nx, h.gv, h.last⟩
theorem bp_ok {N : Nat} {m : Bm} {s : BS} (h : BIs N m s) (hN : N ≤ 9000) (now : Nat) (key : ByteArray) (hk : key.size ≤ 64) (h1 : s.last ≤ now) (h2 : now ≤ 18446744073709551614) (hne : s.cand now ≠ []) : Spec Try.prog 12 [ptrB m.p, .int .u64 (now : Int), .string key] (balH m)
    (fun r H' => ∃ m', r = .tuple #[.agg #[.int .i64 (s.pickI key now), .int .i64 ((s.gv + 1 : Nat) : Int)], .int .i64 0] ∧ H' = balH m' ∧ m'.p = m.p ∧ BIs (N + 1) m' (s.pick key now)) := by
  have hne' : Go.Proofs.Ytiokpmgbabpikaa.cand m.L now ≠ [] := by rw [h.cand]; exact hne
  obtain ⟨i, x, hi, hx, _, hr⟩ := cand_mem (pickI_mem m.k m.L m.nx key hne')
  have hlast := h.last
  refine (bpick_raw m N s.C h.is hN now key hk (by omega) h2 i x hx hr hne' hi).mono ?_
  rintro r H' ⟨es', mc', hr', hM, hH⟩
  have hpi : s.pickI key now = (i : Int) := by rw [← h.pickI]; exact hi
  have hb := h.is.pick hN (by omega) h2 hx hr hne' (mc := mc') hM
  refine ⟨_, ?_, hH, rfl, ?_⟩
  · rw [hr', hpi, h.gv]
  · have hC : (s.pick key now).C = (((m.gv + 1 : Nat) : Int), ((i : Int), (alB x.b now).gen)) :: s.C := by
      show (((s.gv + 1 : Nat) : Int), (s.pickI key now, (alB (gB (Go.Proofs.Ytiokpmgbabpikaa.un s.V) (s.pickI key now)).b now).gen)) :: s.C = _
      rw [hpi, ← cv_b h.un, gB_at hx, h.gv]
    refine ⟨by rw [hC]; exact hb, h.k, ?_, ?_, ?_, rfl⟩
    · show (pickS m.k m.L now (Go.Proofs.Ytiokpmgbabpikaa.cand m.L now) i).map vw = (pickS s.k (Go.Proofs.Ytiokpmgbabpikaa.un s.V) now (s.cand now) (s.pickI key now).toNat).map vw
      rw [hpi, Int.toNat_natCast, h.cand, h.k, cv_pickS h.un]
    · show pickN m.k m.n m.nx (Go.Proofs.Ytiokpmgbabpikaa.cand m.L now) = pickN s.k s.V.length s.nx (s.cand now)
      rw [h.cand, h.k, h.nx, h.len]
    · show m.gv + 1 = s.gv + 1
      rw [h.gv]
theorem bpn_ok {N : Nat} {m : Bm} {s : BS} (h : BIs N m s) (hN : N ≤ 9000) (now : Nat) (key : ByteArray) (hk : key.size ≤ 64) (h1 : s.last ≤ now) (h2 : now ≤ 18446744073709551614) (hne : s.cand now = []) : Spec Try.prog 12 [ptrB m.p, .int .u64 (now : Int), .string key] (balH m)
    (fun r H' => r = .tuple #[.agg #[.int .i64 0, .int .i64 0], .int .i64 9] ∧ H' = balH m) := by
  have hlast := h.last
  exact bpick_none m N s.C h.is hN now key hk (by omega) h2 (by rw [h.cand]; exact hne)
theorem bs_ok {N : Nat} {m : Bm} {s : BS} (h : BIs N m s) (i : Nat) (hi : i < s.V.length) (up : Bool) : Spec Try.prog 13 [ptrB m.p, .int .i64 (i : Int), .bool up] (balH m)
    (fun r H' => ∃ m', r = .int .i64 0 ∧ H' = balH m' ∧ m'.p = m.p ∧ BIs N m' (s.setup i up)) := by
  have hnn := h.is.n
  have hlen := h.len
  have hhn := h.is.hn
  obtain ⟨x, hx⟩ := getE (T := m.L) (i := i) (by omega)
  refine Spec.mono ((bsetup_ok m i x hx h.is.hn hnn.2 up).fr (bE3 m :: bks m.L)) ?_
  rintro r H' ⟨H1, ⟨hr, rfl⟩, rfl⟩
  refine ⟨{ m with L := m.L.set i { x with up := up } }, hr, ?_, rfl, h.is.setup hx up, h.k, ?_, h.nx, h.gv, h.last⟩
  · show [bE1 m, _] ++ bE3 m :: bks m.L = _ :: _ :: _ :: bks (m.L.set i { x with up := up })
    rw [bks_set (y := { x with up := up }) hx rfl rfl]; rfl
  · show (m.L.set i { x with up := up }).map vw = ((Go.Proofs.Ytiokpmgbabpikaa.un s.V).set i { gB (Go.Proofs.Ytiokpmgbabpikaa.un s.V) (i : Int) with up := up }).map vw
    rw [List.map_set, List.map_set, h.un]
    refine congrArg _ ?_
    have hg := gB_at hx
    show (x.w, x.sh, x.act, up, x.b) = ((gB (Go.Proofs.Ytiokpmgbabpikaa.un s.V) (i : Int)).w, (gB (Go.Proofs.Ytiokpmgbabpikaa.un s.V) (i : Int)).sh, (gB (Go.Proofs.Ytiokpmgbabpikaa.un s.V) (i : Int)).act, up, (gB (Go.Proofs.Ytiokpmgbabpikaa.un s.V) (i : Int)).b)
    rw [← cv_w h.un, ← cv_sh h.un, ← cv_act h.un, ← cv_b h.un, hg]
theorem bd_ok {N : Nat} {m : Bm} {s : BS} (h : BIs N m s) (hN : N ≤ 9000) (now : Nat) (n : Int) (good : Bool) (h1 : s.last ≤ now) (h2 : now ≤ 18446744073709551614) (j : Nat) (gn : Int) (hc : (n, ((j : Int), gn)) ∈ s.C) :
    Spec Try.prog 18 [ptrB m.p, .int .u64 (now : Int), .int .i64 n, .bool good] (balH m) (fun r H' => ∃ m', r = .int .i64 0 ∧ H' = balH m' ∧ m'.p = m.p ∧ BIs (N + 1) m' (s.done now n j gn good)) := by
  have hlast := h.last
  have hbk := h.is.bk _ hc
  have hhn := h.is.hn
  obtain ⟨x, hx⟩ := getE (T := m.L) (i := j) (by dsimp only at hbk; omega)
  have hgn := h.is.gn _ hc
  refine (bdone_raw m N s.C h.is hN now n good (by omega) h2 j gn x hx hc ⟨hgn.1, hgn.2 x (by dsimp only; rw [Int.toNat_natCast]; exact hx)⟩).mono ?_
  rintro r H' ⟨es', mc', hr', hM, hH⟩
  exact ⟨_, hr', hH, rfl, h.is.done hN (by omega) h2 hx (mc := mc') hM, h.k, cv_doneS h.un now j gn good, h.nx, h.gv, rfl⟩

end Go.Proofs.Ytiokpmgbabpikaa
