/-
 Chapter 49 (proxy), part PxO: contracts of functions that the laws call, each for the heap it names.
-/
import Derived.Test.YtelmlkdibcdebaaGreatY03
import Derived.Test.YtelmlkdibcdebaaGreatRows
set_option linter.unusedVariables false
set_option maxRecDepth 20000
set_option maxHeartbeats 4000000
namespace Go.Proofs.YtelmlkdibcdebaaGreat
def IterAny (P : Program) (g : FuncId) (ca : List Value) (Hit : Heap) {α : Type} (enc : α → List Value) (may : List α → α → Prop) (all : List α → Prop) : Prop :=
  ∀ (l : Nat) (J Jx : List α → Heap → Prop),
    (∀ pre x hj, may pre x → J pre hj → YSpec P l (enc x) hj (fun v H' => (v = .bool true ∧ J (pre ++ [x]) H') ∨ (v = .bool false ∧ Jx (pre ++ [x]) H'))) →
    ∀ hj, J [] hj → Spec P g (yieldV l :: ca) (Hit ++ hj) (fun _ H' => ∃ h2, ((∃ xs, all xs ∧ J xs h2) ∨ ∃ pre, Jx pre h2) ∧ H' = Hit ++ h2)
theorem WC_rangeA {X : Ctx} {p : Post} {E : Env} {H : Heap} {α G GX : Type} {f : Operand} {ps : List Tmp} {assign body : Code} {g : FuncId} {ca : List Value} {Hit F1 F2 : Heap} {enc : α → List Value} {may : List α → α → Prop} {all : List α → Prop}
    (hit : IterAny X.P g ca Hit enc may all) (hro : X.ro = none) (hf : ev E f = some (.func (.func g) #[] ca.toArray)) (hlen : ∀ x, (enc x).length = ps.length) (hps : ps.all (fun q => Nat.blt q X.N) = true)
    (I : List α → G → Prop) (GI : G → Heap) (Ix : Code → List α → GX → Prop) (HX : GX → Heap) (g0 : G) (h0 : I [] g0) (hq : Pulls Hit H F1) (hq2 : Pulls (GI g0) F1 F2)
    (hround : ∀ l pre x gg, may pre x → I pre gg → ∀ w, WC ⟨X.P, some l, X.N, [], GI gg, w⟩ assign (begPost X.P l X.N body I GI Ix HX (pre ++ [x]) (GI gg) w) (pushE ps (enc x) E) (GI gg))
    (hdone : ∀ dl xs gg, all xs → I xs gg → WQ { X with D := markOf dl :: X.D } p.nrm E (dlE dl :: (GI gg ++ (Hit ++ F2))))
    (hstop : ∀ dl c pre gx, Ix c pre gx → WC { X with D := markOf dl :: X.D } c p E (dlE dl :: (HX gx ++ (Hit ++ F2)))) :
    WC X (.rangeFunc f ps.toArray assign body) p E H := by
  intro a w ha hw
  refine wpIn_rangeFunc ?_
  intro fn _
  have hF : (fen X.ro).round = none := by rw [hro]; rfl
  rw [hF]
  obtain ⟨r, er⟩ : ∃ r : Loop, r = { state := .ready, pending := none, fn, tmps := a.tmps, params := ps.toArray, assign, body, defers := w.heap.size } := ⟨_, rfl⟩
  have hwa := (hw.alloc (.deferred (some []))).alloc (.loop r)
  rw [World.size_alloc] at hwa
  -- the iterator's contract
  have hS := hit (w.heap.size + 1) (fun ys h => ∃ gg, I ys gg ∧ h = (⟨some (w.heap.size + 1), .loop r⟩ :: dlE w.heap.size :: GI gg : Heap))
    (fun ys h => ∃ c gx, Ix c ys gx ∧ h = (⟨some (w.heap.size + 1), .loop { r with state := .done, pending := some c }⟩ :: dlE w.heap.size :: HX gx : Heap))
    (fun pre x hj hx hJ => by
      obtain ⟨gg, hI, rfl⟩ := hJ
      have e1 : r.params.toList = ps := by rw [er]
      refine ySpec_of (E := E) (N := X.N) (assign := assign) (body := body) (by rw [er]) (by rw [er]) (by rw [er]) (by rw [er]) (by rw [er]; exact ha.size) (by rw [er]; exact ha.env) (by rw [← Array.length_toList, e1]; exact hlen x) (by rw [e1]; exact hps)
        (fun w' => ?_)
      rw [e1]
      exact hround _ pre x gg hx hI w')
    (⟨some (w.heap.size + 1), .loop r⟩ :: dlE w.heap.size :: GI g0) ⟨g0, h0, rfl⟩
  have hp : (⟨some (w.heap.size + 1), .loop r⟩ :: ⟨some w.heap.size, .deferred (some [])⟩ :: H : Heap).Perm ((Hit ++ (⟨some (w.heap.size + 1), .loop r⟩ :: dlE w.heap.size :: GI g0)) ++ F2) := by
    have h1 : H.Perm (Hit ++ (GI g0 ++ F2)) := hq.perm.trans (List.Perm.append_left _ hq2.perm)
    have h2 := (List.Perm.append_left [⟨some (w.heap.size + 1), .loop r⟩, dlE w.heap.size] h1)
    refine h2.trans ?_
    rw [List.append_assoc, ← List.append_assoc]
    exact List.Perm.append_right _ List.perm_append_comm |>.trans (by rw [List.append_assoc]; exact .refl _)
  have hwp := hwa.perm hp
  obtain ⟨W1, eW⟩ : ∃ W1, W1 = (w.alloc (.deferred (some []))).alloc (.loop r) := ⟨_, rfl⟩
  rw [← eW] at hwa hwp
  refine ⟨w.heap.size + 1, [markOf w.heap.size], W1, { target := .fn (.func g) ca.toArray, args := #[yieldV (w.heap.size + 1)] }, W1, g, #[yieldV (w.heap.size + 1)] ++ ca.toArray, W1, ?_, ?_, fun _ _ => trivial, ?_, ?_, ?_⟩
  · rw [eW, er]; exact run_enterLoop_outer _ _ _ _ _
  · simp only [resolve, ha.eval hf]
    simp [go_sem, yieldV]
  · have := hS.enters (#[yieldV (w.heap.size + 1)] ++ ca.toArray) W1
    simpa [invoke] using this
  · intro h; simp [fen, Fence.wide] at h
  · have hc := hS.calls _ hwp.left.hok
    have e2 : (yieldV (w.heap.size + 1) :: ca).toArray = #[yieldV (w.heap.size + 1)] ++ ca.toArray := by simp
    rw [e2] at hc
    rw [hro]
    refine CallsIn.mono hc ?_
    rintro e w3 ⟨v, H', rfl, ⟨h2, hJ, rfl⟩, hw3⟩
    have hw3' := hwa.frame hp hw3
    have ha' : ∀ (D : List Deferred), AE { X with D := D ++ X.D } E { a with defers := D ++ a.defers } := fun D => ⟨ha.size, by simp [ha.defers], ha.env⟩
    rcases hJ with ⟨xs, hall, gg, hI, rfl⟩ | ⟨pre, c, gx, hI, rfl⟩
    · have hp3 : (Hit ++ (⟨some (w.heap.size + 1), .loop r⟩ :: dlE w.heap.size :: GI gg) ++ F2 : Heap).Perm (⟨some (w.heap.size + 1), .loop r⟩ :: dlE w.heap.size :: (GI gg ++ (Hit ++ F2))) := by
        rw [List.append_assoc]
        refine (List.perm_append_comm_assoc _ _ _).trans ?_
        exact .refl _
      have h3 := hw3'.perm hp3
      refine ⟨none, w3.putObj (w.heap.size + 1) (.loop { r with state := .exhausted }), ?_, ?_⟩
      · rw [run_endLoop h3.at (by rw [er]; simp)]; rw [er]
      · exact hdone w.heap.size xs gg hall hI _ _ (ha' [markOf w.heap.size]) ((h3.turn1 (.loop { r with state := .exhausted })).drop .head)
    · have hp3 : (Hit ++ (⟨some (w.heap.size + 1), .loop { r with state := .done, pending := some c }⟩ :: dlE w.heap.size :: HX gx) ++ F2 : Heap).Perm (⟨some (w.heap.size + 1), .loop { r with state := .done, pending := some c }⟩ :: dlE w.heap.size :: (HX gx ++ (Hit ++ F2))) := by
        rw [List.append_assoc]
        refine (List.perm_append_comm_assoc _ _ _).trans ?_
        exact .refl _
      have h3 := hw3'.perm hp3
      refine ⟨some c, w3.putObj (w.heap.size + 1) (.loop { r with state := .exhausted, pending := some c }), ?_, ?_⟩
      · rw [run_endLoop h3.at (by simp)]
      · have := hstop w.heap.size c pre gx hI _ _ (ha' [markOf w.heap.size]) ((h3.turn1 (.loop { r with state := .exhausted, pending := some c })).drop .head)
        rw [hro] at this
        exact this
section
section
variable {κ α : Type} {ek : κ → Value} {ev : α → Value} {W : List (κ × α)} {es : Array MapEntry} {seen : Array Nat} {c : Nat} {ys : List κ}
structure KsG (ek : κ → Value) (W : List (κ × α)) (es : Array MapEntry) (seen : Array Nat) (ys : List κ) : Prop where
  src : ∀ x ∈ ys, x ∈ W.map (·.1)
  nd : ys.Nodup
  seen : ∀ e ∈ es.toList, ∀ k : κ, e.key = ek k → (e.born ∈ seen ↔ k ∈ ys)
theorem born_injG {es : List MapEntry} (h : (es.map (·.born)).Nodup) {e e2 : MapEntry} (h1 : e ∈ es) (h2 : e2 ∈ es) (h3 : e.born = e2.born) : e = e2 := by
  obtain ⟨i, hi⟩ := List.mem_iff_getElem?.1 h1
  obtain ⟨j, hj⟩ := List.mem_iff_getElem?.1 h2
  have e1 : (es.map (·.born))[i]? = some e2.born := by rw [List.getElem?_map, hi]; exact congrArg some h3
  have e3 : (es.map (·.born))[j]? = some e2.born := by rw [List.getElem?_map, hj]; rfl
  obtain ⟨l1, q1⟩ := List.getElem?_eq_some_iff.1 e1
  obtain ⟨l2, q2⟩ := List.getElem?_eq_some_iff.1 e3
  have := (List.getElem_inj h).1 (q1.trans q2.symm)
  subst this
  rw [hi] at hj
  exact Option.some.inj hj
theorem KsG.new (ek : κ → Value) (W : List (κ × α)) (es : Array MapEntry) : KsG ek W es #[] [] := ⟨fun x hx => by (cases hx), .nil, fun e _ k _ => by simp⟩
theorem KsG.next (hinj : ∀ a b, ek a = ek b → a = b) (h : KsG ek W es seen ys) (hM : Mk ek ev es c W) {e : MapEntry} (he : e ∈ es.toList) (hs : e.born ∉ seen) {k : κ} (hk : e.key = ek k) :
    (k ∈ W.map (·.1) ∧ k ∉ ys) ∧ KsG ek W es (seen.push e.born) (ys ++ [k]) := by
  obtain ⟨⟨k', v⟩, hx, e1, _⟩ := hM.back he
  obtain rfl : k' = k := hinj _ _ (e1.symm.trans hk)
  have h1 : k' ∈ W.map (·.1) := List.mem_map.2 ⟨_, hx, rfl⟩
  have h2 : k' ∉ ys := fun hm => hs ((h.seen e he k' hk).2 hm)
  refine ⟨⟨h1, h2⟩, fun x hx => ?_, ?_, fun e2 he2 k2 hk2 => ?_⟩
  · rcases List.mem_append.1 hx with hx | hx
    · exact h.src x hx
    · rw [List.mem_singleton.1 hx]; exact h1
  · rw [List.nodup_append]
    exact ⟨h.nd, by simp, fun a ha b hb => by rw [List.mem_singleton.1 hb]; rintro rfl; exact h2 ha⟩
  · rw [Array.mem_push, List.mem_append, List.mem_singleton, h.seen e2 he2 k2 hk2]
    constructor
    · rintro (q1 | q1)
      · exact .inl q1
      · have := born_injG hM.bnd he2 he q1
        subst this
        exact .inr (hinj _ _ (hk2.symm.trans hk))
    · rintro (q1 | rfl)
      · exact .inl q1
      · right
        have : e2 = e := by
          have hp := hM.perm
          have hnk : (es.toList.map (fun e => e.key)).Nodup := by
            have h5 : (es.toList.map (fun e => e.key)).Perm (W.map fun x => ek x.1) := by
              have := hp.map Prod.fst
              rw [List.map_map, List.map_map] at this
              exact this
            refine h5.nodup_iff.2 ?_
            have h6 : (W.map fun x => ek x.1) = (W.map (·.1)).map ek := by rw [List.map_map]; rfl
            rw [h6, List.nodup_iff_pairwise_ne, List.pairwise_map]
            exact List.Pairwise.imp (S := fun a b : κ => ek a ≠ ek b) (fun {a b} hab e => hab (hinj _ _ e)) (List.nodup_iff_pairwise_ne.1 hM.nodup)
          obtain ⟨i, hi⟩ := List.mem_iff_getElem?.1 he2
          obtain ⟨j, hj⟩ := List.mem_iff_getElem?.1 he
          have q3 : (es.toList.map (fun e => e.key))[i]? = some e.key := by rw [List.getElem?_map, hi]; exact congrArg some (hk2.trans hk.symm)
          have q4 : (es.toList.map (fun e => e.key))[j]? = some e.key := by rw [List.getElem?_map, hj]; rfl
          obtain ⟨l1, r1⟩ := List.getElem?_eq_some_iff.1 q3
          obtain ⟨l2, r2⟩ := List.getElem?_eq_some_iff.1 q4
          have := (List.getElem_inj hnk).1 (r1.trans r2.symm)
          subst this
          rw [hi] at hj
          exact Option.some.inj hj
        rw [this]
theorem KsG.done (h : KsG ek W es seen ys) (hM : Mk ek ev es c W) (hall : ∀ e ∈ es.toList, e.born ∈ seen) : ys.Perm (W.map (·.1)) := by
  classical
  refine (List.perm_ext_iff_of_nodup h.nd hM.nodup).2 fun a => ⟨h.src a, fun ha => ?_⟩
  obtain ⟨⟨k, v⟩, hx, rfl⟩ := List.mem_map.1 ha
  obtain ⟨e, he, hk, _⟩ := hM.has hx
  exact (h.seen e he k hk).1 (hall e he)
theorem pigeonG [DecidableEq κ] : ∀ (ks m : List κ), ks.Nodup → (∀ k ∈ ks, k ∈ m) → ks.length ≤ m.length
  | [], _, _, _ => Nat.zero_le _
  | k :: ks, m, hn, h => by
    have hk : k ∈ m := h k (List.mem_cons_self ..)
    obtain ⟨hk1, hn1⟩ := List.nodup_cons.1 hn
    have := pigeonG ks (m.erase k) hn1 (fun x hx => (List.mem_erase_of_ne (by intro e; subst e; exact hk1 hx)).2 (h x (List.mem_cons_of_mem _ hx)))
    rw [List.length_erase_of_mem hk] at this
    have hp : 0 < m.length := List.length_pos_of_mem hk
    simp only [List.length_cons]
    omega
theorem KsG.len [DecidableEq κ] (h : KsG ek W es seen ys) : ys.length ≤ W.length := by
  have := pigeonG ys (W.map (·.1)) h.nd h.src
  rwa [List.length_map] at this
structure KyG (κ : Type) where
  seen : Array Nat
  ys : List κ
  hj : Heap
def getT [DecidableEq κ] (L : List (κ × α)) (k : κ) (z : α) : α := match L.find? (fun x => decide (x.1 = k)) with
  | some x => x.2
  | none => z
theorem getT_in [DecidableEq κ] {L : List (κ × α)} (hn : (L.map (·.1)).Nodup) {k : κ} {a : α} (h : (k, a) ∈ L) (z : α) : getT L k z = a := by
  unfold getT
  cases e : L.find? (fun x => decide (x.1 = k)) with
  | none =>
    have := List.find?_eq_none.1 e (k, a) h
    simp at this
  | some y =>
    have h1 := List.find?_some e
    have h2 := List.mem_of_find?_eq_some e
    simp only [decide_eq_true_eq] at h1
    obtain ⟨k2, a2⟩ := y
    simp only at h1
    subst h1
    exact key_uniq hn h2 h
theorem getT_out [DecidableEq κ] {L : List (κ × α)} {k : κ} (h : k ∉ L.map (·.1)) (z : α) : getT L k z = z := by
  unfold getT
  rw [List.find?_eq_none.2 fun x hx => by
    simp only [decide_eq_true_eq]
    exact fun e => h (List.mem_map.2 ⟨x, hx, e⟩)]
end
theorem R_lookKT_ {X : Ctx} {E : Env} {H : Heap} {o : Oper} {κ α : Type} [DecidableEq κ] {ek : κ → Value} {ev : α → Value} {es : Array MapEntry} {c b : Nat} {L : List (κ × α)} {mt kt et : TypeId} {x y : Operand} {k : κ} {z : α} (ho : o.op = .lookup mt x y false) (hu : X.P.underlying mt = some (.map kt et)) (K : KeyOk X.P kt ek) (hx : Go.Proofs.YtelmlkdibcdebaaGreat.ev E x = some (.map (some b))) (hy : Go.Proofs.YtelmlkdibcdebaaGreat.ev E y = some (ek k)) (hm : (⟨some b, .map es c⟩ : Ent) ∈ H) (hM : Mk ek ev es c L)
    (hz : ∀ w, (zeroValue et).run X.P w = .ok (ev z) w) : Runs X o E H (ev (getT L k z)) := by
  by_cases h : k ∈ L.map (·.1)
  · obtain ⟨⟨k2, a⟩, hxa, rfl⟩ := List.mem_map.1 h
    rw [getT_in hM.nodup hxa]
    exact R_lookK ho hu K hx hy hm hM hxa
  · rw [getT_out h]
    exact R_lookK0 ho hu K hx hy hm hM h hz
end
structure AsI where
 l : List Int
 ob : Option Nat
 c : Nat
 tl : List Value
theorem ekW_inj (a b : Int) (h : ekW a = ekW b) : a = b := by simp only [ekW, Value.int.injEq, true_and] at h; exact h
theorem wkit_ok {W : List (Int × (Nat × Nat))} (bb mb : Nat) (es : Array MapEntry) (c : Nat) (hM : Mk ekW evW es c W) : IterAny Tryz.prog 130 [.pointer (some ⟨bb, 0, none⟩)] [⟨some bb, cl [.map (some mb)] 129⟩, ⟨some mb, .map es c⟩] (fun a : Int => [ekW a]) (fun pre x => x ∈ W.map (·.1) ∧ x ∉ pre) (fun xs => xs.Perm (W.map (·.1))) := by
 intro lp J Jx hY hj h0
 refine Spec.of (E := [(0, yieldV lp), (1, .pointer (some ⟨bb, 0, none⟩))]) Tryz.func130 rfl (by kernel_rfl) Tryz.ntmps130 rfl rfl (fun w => ?_)
 refine WCr (WLl Z sc129 mmZ Z (WLd Z (D_rangeMap Z Tryz.underlying129 Z mmZ) ?_))
 rintro _ _ ⟨bi, rfl, rfl⟩
 refine WL_nil (WQ_code (WC_block (WC_loopH (G := KyG Int) [3, 6, 7, 8, 9, 10, 11, 12, 13] (fun y => KsG ekW W es y.seen y.ys ∧ J y.ys y.hj) (fun y => []) (fun y => [⟨some bi, .mapIter (some mb) c y.seen c⟩, ⟨some bb, cl [.map (some mb)] 129⟩, ⟨some mb, .map es c⟩] ++ y.hj) (fun y => W.length - y.ys.length) (⟨#[], [], hj⟩) (⟨KsG.new ekW W es, h0⟩) leZ pqZ ?_)))
 rintro y ⟨hks, hJ⟩
 refine WCr (WLd Z (D_nextMap Z Z plZ mmZ hM.born) ?_)
 rintro _ _ (⟨rfl, rfl, hall⟩ | ⟨e, he, hns, rfl, rfl⟩)
 ·refine WLa Z (WL_set (s := 7) (v := .bool false) Z (by rfl) ?_)
  refine WL_nil (WQ_code (WC_seq (WC_F Z (WC_exit ?_))))
  refine WQ2 Z (by
    first | exact ⟨_, .inr ⟨_, hJ2⟩, rfl⟩ | exact ⟨_, .inl ⟨_, hks.done hM hall, hJ⟩, rfl⟩) pqZ
 ·refine WLa Z (WL_set (s := 7) (v := .bool true) Z (by rfl) ?_)
  refine WL_nil (WQ_code (WC_seq (WC_T Z (WC_skip (WQ_code (WC_block (WCr ?_)))))))
  obtain ⟨⟨k, v9⟩, hx, hek, hev⟩ := hM.back he
  dsimp only at hek hev
  obtain ⟨hmay, hks2⟩ := hks.next ekW_inj hM he hns hek
  refine WLv Z (R_entryMap Z Z mmZ mmZ he hM.bnd) ?_
  rw [hek, hev]
  refine WLa Z (WLa Z (WL_nil (WQ_code (WCr (WLa Z (WLa Z (WLd Z (D_yield (F := [_, _, _]) (hY y.ys k y.hj hmay hJ) Z Z Z Z (List.Perm.refl _)) ?_)))))))
  rintro _ _ ⟨hj2, (⟨rfl, hJ2⟩ | ⟨rfl, hJ2⟩), rfl⟩
  ·refine WLa Z (WL_nil (WQ_code (WC_F Z (WC_skip ?_))))
   refine WQ_nextH (gg := y) (⟨y.seen.push e.born, y.ys ++ [k], hj2⟩) (⟨hks2, hJ2⟩) (by have := hks2.len; rw [List.length_append, List.length_singleton] at this; dsimp only; rw [List.length_append, List.length_singleton]; omega) leZ (psZ) Z pqZ
  ·refine WLa Z (WL_nil (WQ_code (WC_T Z (WC_ret ?_))))
   refine WQ2 Z (by
     first | exact ⟨_, .inr ⟨_, hJ2⟩, rfl⟩ | exact ⟨_, .inl ⟨_, hks.done hM hall, hJ⟩, rfl⟩) pqZ
theorem wkeys_ok (mb : Nat) : Spec Tryz.prog 79 [.map (some mb)] [] (fun r H' => ∃ bb, r = .func (.func 130) #[] #[.pointer (some ⟨bb, 0, none⟩)] ∧ H' = [⟨some bb, cl [.map (some mb)] 129⟩]) := by
 refine Spec.of (E := [(0, .map (some mb))]) Tryz.func79 rfl (by kernel_rfl) Tryz.ntmps79 rfl rfl (fun w => ?_)
 refine WCr (WLd Z (D_box (cs := [_]) Z Z Z) ?_)
 rintro _ _ ⟨b1, rfl, rfl⟩
 refine WLa Z (WL_nil (WQ_code (WCr (WLv Z (R_makeFunc Z Z Z) ?_))))
 refine WLa Z (WL_nil (WQ_code (WC_ret ?_)))
 refine WQ1 Z (by
   exact ⟨b1, rfl, rfl⟩) pqZ
theorem wapps_ok {W : List (Int × (Nat × Nat))} (hl : W.length ≤ 1001) (bb mb : Nat) (es : Array MapEntry) (c : Nat) (hM : Mk ekW evW es c W) : Spec Tryz.prog 129 [.slice none 0 0, .func (.func 130) #[] #[.pointer (some ⟨bb, 0, none⟩)]] [⟨some bb, cl [.map (some mb)] 129⟩, ⟨some mb, .map es c⟩] (fun r H' => ∃ (xs : List Int) (o : Option Nat) (c2 : Nat) (tl : List Value), xs.Perm (W.map (·.1)) ∧ r = slV o xs.length c2 ∧ Own o xs.length c2 1 (ivs xs) tl ∧ H' = ⟨o, cl (ivs xs ++ tl) 3⟩ :: [⟨some bb, cl [.map (some mb)] 129⟩, ⟨some mb, .map es c⟩]) := by
 refine Spec.ofM (E := [(0, .slice none 0 0), (1, .func (.func 130) #[] #[.pointer (some ⟨bb, 0, none⟩)])]) Tryz.func129 rfl (by kernel_rfl) Tryz.ntmps129 rfl rfl (fun w => ?_)
 refine WCr (WLd Z (D_box (cs := [_]) Z Z Z) ?_)
 rintro _ _ ⟨b1, rfl, rfl⟩
 refine WLa Z (WL_nil (WQ_code (WC_seq (WCr (WLa Z (WL_nil (WQ_code (WC_block (WC_none 3 ?_)))))))))
 refine WC_rangeA (G := AsI) (GX := Unit) (wkit_ok bb mb es c hM) Z Z (fun _ => Z) Z (fun pre g => g.l = pre ∧ (pre.Nodup ∧ ∀ x ∈ pre, x ∈ W.map (·.1)) ∧ Own g.ob g.l.length g.c 1 (ivs g.l) g.tl) (fun g => [⟨some b1, cl [slV g.ob g.l.length g.c] 23⟩, ⟨g.ob, cl (ivs g.l ++ g.tl) 3⟩]) (fun _ _ _ => False) (fun _ => []) (⟨[], none, 0, []⟩) (⟨Z, ⟨.nil, fun x hx => by cases hx⟩, Own.empty 1⟩) pqZ pqZ ?_ ?_ ?_
 ·intro l pre x gg hx hI w2
  obtain ⟨hgl, ⟨hgn, hgs⟩, hgo⟩ := hI
  have hbl : gg.l.length ≤ 1001 := by rw [hgl]; have := pigeonG pre (W.map (·.1)) hgn hgs; rw [List.length_map] at this; omega
  refine WC_region (WLa Z (WL_nil ?_))
  refine WQ_begin (fun w3 => ?_)
  refine WC_block (WC_region (WLl Z sc23 mmZ Z (WLa Z (WLd Z (D_buildSlice Z si23 Z Z Z) ?_))))
  rintro _ _ ⟨b2, rfl, rfl⟩
  refine WLd Z (D_append Z si23 Z (hgo) plZ Z mmZ ((atZ : At _ 0 [_])) (Z) (Z) (by omega) (by omega)) ?_
  rintro _ _ ⟨ob3, cap3, tl3, rfl, own3, rfl⟩
  rw [show ivs gg.l ++ [Value.int .i64 x] = ivs (gg.l ++ [x]) from by simp [ivs], show gg.l.length + 1 = (gg.l ++ [x]).length from by simp] at own3 ⊢
  refine WLs (vs := [_]) Z Tryz.sizeOf23 Z Z plZ (nb Z) ?_
  refine WL_nil ?_
  refine WQ_rnd (⟨gg.l ++ [x], ob3, cap3, tl3⟩) ?_ pqZ
  exact (⟨by rw [← hgl], ⟨by rw [List.nodup_append]; exact ⟨hgn, by simp, fun a ha b hb => by rw [List.mem_singleton.1 hb]; rintro rfl; exact hx.2 ha⟩, fun y hy => by rcases List.mem_append.1 hy with hy | hy; exact hgs y hy; rw [List.mem_singleton.1 hy]; exact hx.1⟩, own3⟩)
 ·intro dl xs gg hall hI
  obtain ⟨hgl, _, hgo⟩ := hI
  subst hgl
  refine WQ_code (WCr (WLl Z sc23 mmZ Z (WLa Z (WL_nil (WQ_code (WC_ret ?_))))))
  refine WQ_retM Z plZ Z (.cons (.tmp Z) .nil) Z (by
    exact ⟨gg.l, gg.ob, gg.c, gg.tl, hall, rfl, hgo, rfl⟩) pqZ
 ·intro dl c pre gx hIx
  exact hIx.elim
theorem wcoll_ok {W : List (Int × (Nat × Nat))} (hl : W.length ≤ 1001) (bb mb : Nat) (es : Array MapEntry) (c : Nat) (hM : Mk ekW evW es c W) : Spec Tryz.prog 78 [.func (.func 130) #[] #[.pointer (some ⟨bb, 0, none⟩)]] [⟨some bb, cl [.map (some mb)] 129⟩, ⟨some mb, .map es c⟩] (fun r H' => ∃ (xs : List Int) (o : Option Nat) (c2 : Nat) (tl : List Value), xs.Perm (W.map (·.1)) ∧ r = slV o xs.length c2 ∧ Own o xs.length c2 1 (ivs xs) tl ∧ H' = ⟨o, cl (ivs xs ++ tl) 3⟩ :: [⟨some bb, cl [.map (some mb)] 129⟩, ⟨some mb, .map es c⟩]) := by
 refine Spec.of (E := [(0, .func (.func 130) #[] #[.pointer (some ⟨bb, 0, none⟩)])]) Tryz.func78 rfl (by kernel_rfl) Tryz.ntmps78 rfl rfl (fun w => ?_)
 refine WCr (WLa Z (WL_nil (WQ_code (WCr (WLa Z (WLc Z (wapps_ok hl bb mb es c hM) Z pqZ ?_))))))
 rintro _ _ ⟨_, ⟨xs, o9, c9, tl9, hperm, rfl, own9, rfl⟩, rfl⟩
 refine WLa Z (WL_nil (WQ_code (WC_ret ?_)))
 refine WQ1 Z (by
   exact ⟨xs, o9, c9, tl9, hperm, rfl, own9, rfl⟩) pqZ
structure DelW where
 j : Nat
 A : List Int
 J : List Int
theorem flt_next {p : Int → Bool} {l : List Int} {j : Nat} {x : Int} (h : l[j]? = some x) : (l.take (j + 1)).filter (fun v => !p v) = (l.take j).filter (fun v => !p v) ++ (if p x = true then [] else [x]) := by
 rw [take_next h, List.filter_append]
 cases hp : p x <;> simp [hp]
theorem drop_at {l : List Int} {j : Nat} {x : Int} (h : l[j]? = some x) : l.drop j = x :: l.drop (j + 1) := by
 obtain ⟨h1, rfl⟩ := List.getElem?_eq_some_iff.1 h
 exact List.drop_eq_getElem_cons h1
theorem mid_get {A J R : List Int} {j : Nat} (hj : A.length + J.length = j) {x : Int} : (A ++ (J ++ x :: R))[j]? = some x := by
 subst hj
 rw [List.getElem?_append_right (by omega), List.getElem?_append_right (by omega), show A.length + J.length - A.length - J.length = 0 from by omega]; rfl
theorem mid_set {A J R : List Int} {v y : Int} : (A ++ (y :: J ++ R)).set A.length v = (A ++ [v]) ++ (J ++ R) := by
 rw [List.set_append_right _ _ (Nat.le_refl _), Nat.sub_self]; simp
theorem mid_at {A J R : List Int} {y : Int} : (A ++ (y :: J ++ R))[A.length]? = some y := by
 rw [List.getElem?_append_right (Nat.le_refl _), Nat.sub_self]; rfl
def insR (cf : Int → Int → Int) (A : List Int) (x : Int) : List Int := (A.reverse.dropWhile (fun y => decide (cf x y < 0))).reverse ++ x :: (A.reverse.takeWhile (fun y => decide (cf x y < 0))).reverse
def isL (cf : Int → Int → Int) (l : List Int) : List Int := l.foldl (insR cf) []
theorem insR_eq {cf : Int → Int → Int} {P B : List Int} {x : Int} (hB : ∀ y ∈ B, cf x y < 0) (hP : P = [] ∨ ∃ P' y, P = P' ++ [y] ∧ ¬ cf x y < 0) : insR cf (P ++ B) x = P ++ x :: B := by
 unfold insR
 have h1 : ∀ y ∈ B.reverse, decide (cf x y < 0) = true := fun y hy => decide_eq_true (hB y (List.mem_reverse.1 hy))
 rw [List.reverse_append, List.takeWhile_append_of_pos h1, List.dropWhile_append_of_pos h1]
 rcases hP with rfl | ⟨P', y, rfl, hy⟩
 ·simp
 ·rw [List.reverse_append, List.reverse_singleton, List.singleton_append, List.takeWhile_cons_of_neg (by simpa using hy), List.dropWhile_cons_of_neg (by simpa using hy)]
  simp
theorem isL_next {cf : Int → Int → Int} {l : List Int} {i : Nat} {x : Int} (h : l[i]? = some x) : isL cf (l.take (i + 1)) = insR cf (isL cf (l.take i)) x := by
 unfold isL
 rw [take_next h, List.foldl_append]; rfl
theorem insR_perm (cf : Int → Int → Int) (A : List Int) (x : Int) : (insR cf A x).Perm (x :: A) := by
 unfold insR
 refine List.perm_middle.trans (.cons _ ?_)
 have e : (A.reverse.dropWhile (fun y => decide (cf x y < 0))).reverse ++ (A.reverse.takeWhile (fun y => decide (cf x y < 0))).reverse = A := by rw [← List.reverse_append, List.takeWhile_append_dropWhile, List.reverse_reverse]
 exact List.Perm.of_eq e
theorem isL_perm (cf : Int → Int → Int) (l : List Int) : (isL cf l).Perm l := by
 have key : ∀ (l A : List Int), (l.foldl (insR cf) A).Perm (A ++ l) := by
  intro l
  induction l with
  | nil => intro A; rw [List.append_nil]; exact .refl _
  | cons x r ih => intro A; exact (ih _).trans (((insR_perm cf A x).append_right r).trans List.perm_middle.symm)
 exact key l []
theorem isL_len (cf : Int → Int → Int) (l : List Int) : (isL cf l).length = l.length := (isL_perm cf l).length_eq
structure InsW where
 j : Nat
 A : List Int
 B : List Int
theorem snoc_or (P : List Int) : P = [] ∨ ∃ P' y, P = P' ++ [y] := by
 rcases List.eq_nil_or_concat P with h | ⟨P', y, h⟩
 ·exact .inl h
 ·exact .inr ⟨P', y, by rw [h]; simp⟩
theorem isL_one (cf : Int → Int → Int) {l : List Int} (h : 1 ≤ l.length) : isL cf (l.take 1) ++ l.drop 1 = l := by
 cases l with
 | nil => simp at h
 | cons a r => rfl
theorem isort_nil (o : Option Nat) (c : Nat) (fv : Value) (b : Int) (hb : b ≤ 1) : Spec Tryz.prog 164 [slV o 0 c, .int .i64 0, .int .i64 b, fv] [] (fun r H' => r = .tuple #[] ∧ H' = []) := by
 refine Spec.of (E := [(0, slV o 0 c), (1, .int .i64 0), (2, .int .i64 b), (3, fv)]) Tryz.func164 rfl (by kernel_rfl) Tryz.ntmps164 rfl rfl (fun w => ?_)
 refine WCr (WLa Z (WLv Z (R_add Z Z Z (by omega)) ?_))
 refine WLa Z (WL_nil (WQ_code (WC_block (WC_loopF (G := Unit) [8, 9, 12, 13, 14, 15, 16, 17, 18, 19, 20, 21, 22, 23, 24, 25, 26, 27, 28, 29, 30, 31, 32, 33, 34, 35, 36, 37, 38, 39, 40, 41, 42, 43, 44, 45, 46, 47, 48, 49, 50, 51, 52] (fun u => True) (fun u => [(8, .int .i64 1)]) (fun u => []) (fun u => 0) (()) (trivial) leZ pqY ?_))))
 rintro u _
 refine WC_seq (WCr (WLa Z (WLa Z (WLa Z (WL_nil (WQ_code (WC_dF Z (by omega) ?_)))))))
 refine WC_exit ?_
 refine WQ2 Z (by
   exact ⟨rfl, rfl⟩) pqY
theorem stab_nil (o : Option Nat) (c : Nat) (fv : Value) : Spec Tryz.prog 134 [slV o 0 c, .int .i64 0, fv] [] (fun r H' => r = .tuple #[] ∧ H' = []) := by
 refine Spec.of (E := [(0, slV o 0 c), (1, .int .i64 0), (2, fv)]) Tryz.func134 rfl (by kernel_rfl) Tryz.ntmps134 rfl rfl (fun w => ?_)
 refine WCr (WLa Z (WL_nil (WQ_code (WCr (WLa Z (WLa Z (WLa Z (WL_nil (WQ_code (WC_seq (WC_block (WC_loopF (G := Unit) [7, 8, 11, 12, 13, 14, 15, 16, 17, 18, 19, 20, 21, 22] (fun u => True) (fun u => [(7, .int .i64 0), (8, .int .i64 20)]) (fun u => []) (fun u => 0) (()) (trivial) leZ pqY ?_))))))))))))
 rintro u _
 refine WC_seq (WCr (WLa Z (WLa Z (WLa Z (WL_nil (WQ_code (WC_dF Z (by omega) ?_)))))))
 refine WC_exit (WQ_code (WCr (WLa Z (WLa Z (WLa Z (WLa Z (WLq Z (isort_nil o c fv 0 (by omega)) Z pqY ?_)))))))
 refine WL_nil (WQ_code (WC_block (WC_loopF (G := Unit) [6, 7, 8, 9, 28, 29, 30, 31, 32, 33, 34, 35, 36, 37, 38, 39, 40, 41, 42, 43, 44, 45, 46, 47, 48, 49, 50, 51, 52, 53, 54, 55, 56, 57, 58, 59, 60, 61, 62] (fun u => True) (fun u => [(6, .int .i64 20)]) (fun u => []) (fun u => 0) (()) (trivial) leZ pqY ?_)))
 rintro u _
 refine WC_seq (WCr (WLa Z (WLa Z (WLa Z (WL_nil (WQ_code (WC_dF Z (by omega) ?_)))))))
 refine WC_exit ?_
 refine WQ2 Z (by
   exact ⟨rfl, rfl⟩) pqY
theorem stabf_nil (o : Option Nat) (c : Nat) (fv : Value) : Spec Tryz.prog 87 [slV o 0 c, fv] [] (fun r H' => r = .tuple #[] ∧ H' = []) := by
 refine Spec.of (E := [(0, slV o 0 c), (1, fv)]) Tryz.func87 rfl (by kernel_rfl) Tryz.ntmps87 rfl rfl (fun w => ?_)
 refine WC_region (WLa Z (WLa Z (WLv Z (R_len Z Tryz.underlying23 Z) ?_)))
 refine WLa Z (WLq Z (stab_nil o c fv) Z pqY ?_)
 refine WL_nil ?_
 refine WQ2 Z (by
   exact ⟨rfl, rfl⟩) pqY
abbrev plQ (Q : List Qp) (a : Int) : Nat × Nat := getT (wq Q) a (0, 0)
def keepW (Q : List Qp) (now : Nat) (a : Int) : Bool := !decide (now ≠ 18446744073709551615 ∧ (plQ Q a).2 ≤ now)
def lateC (Q : List Qp) (a b : Int) : Int := lexI ((plQ Q a).2 : Int) ((plQ Q b).2 : Int) ((plQ Q a).1 : Int) ((plQ Q b).1 : Int)
def young (s : PS) (now : Nat) (a : Int) : Bool := decide (s.keep = 18446744073709551615 ∨ now - sinceI s.C a < s.keep)
def ageC (C : List Cn) (a b : Int) : Int := cmpI (sinceI C a) (sinceI C b)
theorem vpas_ok (d now : Nat) : Spec Tryz.prog 81 [.int .u64 (d : Int), .int .u64 (now : Int)] [] (fun r H' => r = .bool (decide (now ≠ 18446744073709551615 ∧ d ≤ now)) ∧ H' = []) := by
 refine Spec.of (E := [(0, .int .u64 (d : Int)), (1, .int .u64 (now : Int))]) Tryz.func81 rfl (by kernel_rfl) Tryz.ntmps81 rfl rfl (fun w => ?_)
 refine WCr (WLa Z (WL_nil (WQ_code (WCr (WLa Z (WLa Z (WLa Z ?_)))))))
 refine WL_splitD (s := 7) Z (fun c1 => ?_) (fun c1 => ?_)
 ·have hg := c1
  refine WLa Z (WLa Z (WLa Z (WLa Z (WLa Z (WL_nil (WQ_code (WC_ret ?_)))))))
  refine WQ1 Z (by
    first | exact ⟨congrArg Value.bool (decide_eq_decide.2 (by omega)), rfl⟩ | exact ⟨congrArg Value.bool (decide_eq_false (by omega)).symm, rfl⟩) pqZ
 ·have hg := c1
  refine WLa Z (WLa Z (WLa Z (WLa Z (WLa Z (WL_nil (WQ_code (WC_ret ?_)))))))
  refine WQ1 Z (by
    first | exact ⟨congrArg Value.bool (decide_eq_decide.2 (by omega)), rfl⟩ | exact ⟨congrArg Value.bool (decide_eq_false (by omega)).symm, rfl⟩) pqZ
theorem nan64_ok (a : Int) : Spec Tryz.prog 132 [.int .u64 a] [] (fun r H' => r = .bool false ∧ H' = []) := by
 refine Spec.of (E := [(0, .int .u64 a)]) Tryz.func132 rfl (by kernel_rfl) Tryz.ntmps132 rfl rfl (fun w => ?_)
 refine WCr (WLa Z (WL_nil (WQ_code (WCr (WLa Z (WLa Z (WLa Z (WLa Z (WL_nil (WQ_code (WC_ret ?_)))))))))))
 refine WQ1 Z (by
   exact ⟨congrArg Value.bool (by simp), rfl⟩) pqZ
theorem cmp64_ok (a b : Int) : Spec Tryz.prog 84 [.int .u64 a, .int .u64 b] [] (fun r H' => r = .int .i64 (cmpI a b) ∧ H' = []) := by
 refine Spec.of (E := [(0, .int .u64 a), (1, .int .u64 b)]) Tryz.func84 rfl (by kernel_rfl) Tryz.ntmps84 rfl rfl (fun w => ?_)
 refine WCr (WLa Z (WL_nil (WQ_code (WCr (WLa Z (WLq Z (nan64_ok _) Z pqZ ?_))))))
 refine WLa Z (WL_nil (WQ_code (WCr (WLa Z (WLq Z (nan64_ok _) Z pqZ ?_)))))
 refine WLa Z (WL_nil (WQ_code (WC_seq (WCr (WLa Z (WL_nil (WQ_code (WC_F Z (WC_skip (WQ_code (WC_seq (WCr (WLa Z (WL_nil (WQ_code (WC_F Z (WC_skip (WQ_code (WC_seq (WCr (WLa Z (WLa Z (WLa Z (WL_nil (WQ_code ?_)))))))))))))))))))))))))
 refine WC_dec Z (fun c1 => ?_) (fun c1 => ?_)
 ·refine WCr (WLa Z (WL_nil (WQ_code (WC_ret ?_))))
  refine WQ1 Z (by
    exact ⟨congrArg (Value.int .i64) (by unfold cmpI; (repeat split) <;> omega), rfl⟩) pqZ
 ·refine WC_skip (WQ_code (WC_seq (WCr (WLa Z (WLa Z (WLa Z (WL_nil (WQ_code ?_))))))))
  refine WC_dec Z (fun c2 => ?_) (fun c2 => ?_)
  ·refine WCr (WLa Z (WL_nil (WQ_code (WC_ret ?_))))
   refine WQ1 Z (by
     exact ⟨congrArg (Value.int .i64) (by unfold cmpI; (repeat split) <;> omega), rfl⟩) pqZ
  ·refine WC_skip (WQ_code (WCr (WLa Z (WL_nil (WQ_code (WC_ret ?_))))))
   refine WQ1 Z (by
     exact ⟨congrArg (Value.int .i64) (by unfold cmpI; (repeat split) <;> omega), rfl⟩) pqZ
theorem padv1_ok {m : PM} {s : PS} (h : PIs m s) (b2 b3 now : Nat) (a : Int) : Spec Tryz.prog 80 [.int .i64 a, .pointer (some ⟨b2, 0, none⟩), .pointer (some ⟨b3, 0, none⟩)] [⟨some b2, cl [ptrP m.p] 79⟩, ⟨some b3, cl [.int .u64 (now : Int)] 25⟩, poP m s, poW m] (fun r H' => r = .bool (keepW s.Q now a) ∧ [⟨some b2, cl [ptrP m.p] 79⟩, ⟨some b3, cl [.int .u64 (now : Int)] 25⟩, poP m s, poW m] = H') := by
 refine Spec.of (E := [(0, .int .i64 a), (1, .pointer (some ⟨b2, 0, none⟩)), (2, .pointer (some ⟨b3, 0, none⟩))]) Tryz.func80 rfl (by kernel_rfl) Tryz.ntmps80 rfl rfl (fun w => ?_)
 refine WCr (WLa Z (WL_nil (WQ_code (WC_seq (WC_draw _ [(0, true), (1, true), (2, true), (3, true), (4, true), (5, true), (6, true), (7, true), (8, true), (9, true), (10, true)] followsMixed Z Z (by kernel_rfl) .all ?_)))))
 refine WMl Z sc79 mmZ Z (WMa Z (WMf Z fa136_6 (WMv Z (R_load (v := .map (some m.wm)) Z sc129 Z mmZ (pc_t h.cl Z 1)) ?_)))
 refine WMa Z (WMv Z (R_lookKT_ (k := a) (z := ((0, 0) : Nat × Nat)) Z Tryz.underlying129 int_key Z Z mmZ h.wM (fun w => Tryz.zeroValue168 w)) ?_)
 refine WMv Z (R_field Z Tryz.underlying168 Z Z sc25 Z Z) ?_
 refine WMl Z sc25 mmZ Z (WM_call Z (Spec.quiet (vpas_ok _ now)) Z Z Z Z Z Z Z pqZ ?_)
 refine WMa Z (WMa Z (WM_nil (WQ_code (WC_ret ?_))))
 refine WQ1 Z (by
   exact ⟨rfl, rfl⟩) pqZ
theorem padv2_ok {m : PM} {s : PS} (h : PIs m s) (b2 : Nat) (a b : Int) : Spec Tryz.prog 83 [.int .i64 a, .int .i64 b, .pointer (some ⟨b2, 0, none⟩)] [⟨some b2, cl [ptrP m.p] 79⟩, poP m s, poW m] (fun r H' => r = .int .i64 (lateC s.Q a b) ∧ H' = [⟨some b2, cl [ptrP m.p] 79⟩, poP m s, poW m]) := by
 refine Spec.of (E := [(0, .int .i64 a), (1, .int .i64 b), (2, .pointer (some ⟨b2, 0, none⟩))]) Tryz.func83 rfl (by kernel_rfl) Tryz.ntmps83 rfl rfl (fun w => ?_)
 refine WCr (WLa Z (WL_nil (WQ_code (WC_seq (WC_drawB _ [(0, .q), (1, .q), (2, .q), (3, .q), (4, .q), (5, .q), (6, .q), (7, .q), (8, .q), (9, .q), (10, .q), (11, .q), (12, .b [13]), (13, .b []), (14, .n []), (15, .n [])] followsMixed Z Z (by kernel_rfl) .all ?_)))))
 refine WB_val Z Z Z Z (R_load Z sc79 Z mmZ Z) ?_
 refine WB_val Z Z Z Z (R_nilCheck Z Z) ?_
 refine WB_val Z Z Z Z (R_fieldAddr Z fa136_6 Z) ?_
 refine WB_val Z Z Z Z (R_load (v := .map (some m.wm)) Z sc129 Z mmZ (pc_t h.cl Z 1)) ?_
 refine WB_val Z Z Z Z (R_move Z Z) ?_
 refine WB_val Z Z Z Z (R_lookKT_ (k := a) (z := ((0, 0) : Nat × Nat)) Z Tryz.underlying129 int_key Z Z mmZ h.wM (fun w => Tryz.zeroValue168 w)) ?_
 refine WB_val Z Z Z Z (R_load Z sc79 Z mmZ Z) ?_
 refine WB_val Z Z Z Z (R_nilCheck Z Z) ?_
 refine WB_val Z Z Z Z (R_fieldAddr Z fa136_6 Z) ?_
 refine WB_val Z Z Z Z (R_load (v := .map (some m.wm)) Z sc129 Z mmZ (pc_t h.cl Z 1)) ?_
 refine WB_val Z Z Z Z (R_move Z Z) ?_
 refine WB_val Z Z Z Z (R_lookKT_ (k := b) (z := ((0, 0) : Nat × Nat)) Z Tryz.underlying129 int_key Z Z mmZ h.wM (fun w => Tryz.zeroValue168 w)) ?_
 refine WB_birth Z Z Z Z (.cons Z Z (B_alloc Z zv168) .nil) (B_alloc Z zv168) (fun b1 => ?_)
 refine WB_birth Z Z Z Z .nil (B_alloc Z zv168) (fun b2 => ?_)
 refine WB_do0 Z Z Z .nil (fun _ => D_store (vs := [_, _]) Z Tryz.sizeOf168 Z Z Z Z Z plZ (nb Z)) ?_
 rintro _ _ rfl
 refine ⟨⟨_, pqZ⟩, ?_⟩
 refine WB_do0 Z Z Z .nil (fun _ => D_store (vs := [_, _]) Z Tryz.sizeOf168 Z Z Z Z Z plZ (nb Z)) ?_
 rintro _ _ rfl
 refine ⟨⟨_, pqZ⟩, ?_⟩
 refine WB_nil (WQ_code (WC_seq (WC_draw _ [(0, true), (1, true), (2, true), (3, true), (4, true), (5, true), (6, true), (7, true), (8, true), (9, true), (10, false), (11, false), (12, true)] followsMixed Z Z (by kernel_rfl) .all ?_)))
 refine WMf Z fa168_1 (WMl Z sc25 mmZ Z (WMf Z fa168_1 (WMl Z sc25 mmZ Z (WM_call Z (Spec.quiet (cmpt_ok _ _)) Z Z Z Z Z Z Z pqZ ?_))))
 refine WMf Z fa168_0 (WMl Z sc24 mmZ Z (WMf Z fa168_0 (WMl Z sc24 mmZ Z (WM_call Z (Spec.quiet (cmp64_ok _ _)) Z Z Z Z Z Z Z pqZ ?_))))
 refine WMd Z (D_buildSlice Z si23 Z Z Z) ?_
 rintro _ _ ⟨b3, rfl, rfl⟩
 refine ⟨⟨_, pqZ⟩, ?_⟩
 refine WMd Z (D_call (cor_ok [cmpI ((plQ s.Q a).2 : Int) ((plQ s.Q b).2 : Int), cmpI ((plQ s.Q a).1 : Int) ((plQ s.Q b).1 : Int)] (nb Z) _ _ [] (own_litP _ _ (nb Z))) Z Z Z Z pqZ) ?_
 rintro _ _ ⟨_, ⟨rfl, rfl⟩, rfl⟩
 refine ⟨⟨_, pqZ⟩, ?_⟩
 refine WMa Z (WM_nil (WQ_code (WC_ret ?_)))
 refine WQ1 Z (by
   exact ⟨rfl, rfl⟩) pqZ
theorem padv3_ok {m : PM} {s : PS} (h : PIs m s) (b2 b3 now : Nat) (hn : s.now ≤ now) (hb : now ≤ 18446744073709551615) (a : Int) (ha : a ∈ allI 3 s.C) : Spec Tryz.prog 86 [.int .i64 a, .pointer (some ⟨b2, 0, none⟩), .pointer (some ⟨b3, 0, none⟩)] [⟨some b2, cl [ptrP m.p] 79⟩, ⟨some b3, cl [.int .u64 (now : Int)] 25⟩, poP m s] (fun r H' => r = .bool (young s now a) ∧ [⟨some b2, cl [ptrP m.p] 79⟩, ⟨some b3, cl [.int .u64 (now : Int)] 25⟩, poP m s] = H') := by
 obtain ⟨i, x, rfl, hx, _⟩ := allI_mem ha
 have hi := (List.getElem?_eq_some_iff.1 hx).1
 rw [h.cl] at hi
 have hsi := h.since x (List.mem_of_getElem? hx)
 have hkp := h.keep
 refine Spec.of (E := [(0, .int .i64 (i : Int)), (1, .pointer (some ⟨b2, 0, none⟩)), (2, .pointer (some ⟨b3, 0, none⟩))]) Tryz.func86 rfl (by kernel_rfl) Tryz.ntmps86 rfl rfl (fun w => ?_)
 refine WCr (WLa Z (WL_nil (WQ_code (WC_seq (WC_draw _ [(0, true), (1, true), (2, true), (3, true), (4, true), (5, true), (6, true), (7, true), (8, true), (9, true), (10, true), (11, true), (12, true), (13, true), (14, true), (15, true), (16, true), (17, true), (18, true), (19, true), (20, true), (21, true)] followsMixed Z Z (by kernel_rfl) .all ?_)))))
 refine WMl Z sc79 mmZ Z (WMa Z (WMf Z fa136_2 (WMl Z sc25 mmZ Z (WMa Z (WMa Z ?_)))))
 refine WM_splitD (s := 10) Z (fun c1 => ?_) (fun c1 => ?_)
 ·have hg := c1
  refine WMa Z (WMa Z (WMa Z (WMa Z (WMa Z (WMa Z (WMa Z (WMa Z (WMa Z (WMa Z (WMa Z (WMa Z (WMa Z (WMa Z (WMa Z (WMa Z (WM_nil (WQ_code (WC_ret ?_))))))))))))))))))
  refine WQ1 Z (by
    first | exact ⟨congrArg Value.bool (by unfold young; rw [since_at hx]; exact decide_eq_decide.2 (by omega)), rfl⟩ | exact ⟨congrArg Value.bool (by unfold young; rw [since_at hx]; exact (decide_eq_true (by omega)).symm), rfl⟩) pqZ
 ·have hg := c1
  refine WMl Z sc25 mmZ Z (WMl Z sc79 mmZ Z (WMa Z (WMa Z (WMf Z fa136_4 (WMv Z (R_indexAddrAN Z Tryz.underlying133 Tryz.sizeOf132 Z Z (by omega)) ?_)))))
  refine WMf Z fa132_2 (WMv Z (R_load (v := .int .u64 (x.since : Int)) Z sc25 Z mmZ (pc_get (A := pcH s) Z hx (j := 2) (by omega))) ?_)
  refine WMv Z (R_subR (r := ((now - x.since : Nat) : Int)) Z Z Z (by rw [w64 ⟨by omega, by omega⟩]; omega)) ?_
  refine WMl Z sc79 mmZ Z (WMa Z (WMf Z fa136_2 (WMl Z sc25 mmZ Z (WMa Z (WMa Z (WMa Z (WM_nil (WQ_code (WC_ret ?_)))))))))
  refine WQ1 Z (by
    first | exact ⟨congrArg Value.bool (by unfold young; rw [since_at hx]; exact decide_eq_decide.2 (by omega)), rfl⟩ | exact ⟨congrArg Value.bool (by unfold young; rw [since_at hx]; exact (decide_eq_true (by omega)).symm), rfl⟩) pqZ
theorem padv4_ok {m : PM} {s : PS} (h : PIs m s) (b2 : Nat) (a b : Int) (ha : a ∈ allI 3 s.C) (hb : b ∈ allI 3 s.C) : Spec Tryz.prog 88 [.int .i64 a, .int .i64 b, .pointer (some ⟨b2, 0, none⟩)] [⟨some b2, cl [ptrP m.p] 79⟩, poP m s] (fun r H' => r = .int .i64 (ageC s.C a b) ∧ [⟨some b2, cl [ptrP m.p] 79⟩, poP m s] = H') := by
 obtain ⟨i, x, rfl, hx, _⟩ := allI_mem ha
 obtain ⟨j, y, rfl, hy, _⟩ := allI_mem hb
 have hi := (List.getElem?_eq_some_iff.1 hx).1
 have hj := (List.getElem?_eq_some_iff.1 hy).1
 rw [h.cl] at hi hj
 refine Spec.of (E := [(0, .int .i64 (i : Int)), (1, .int .i64 (j : Int)), (2, .pointer (some ⟨b2, 0, none⟩))]) Tryz.func88 rfl (by kernel_rfl) Tryz.ntmps88 rfl rfl (fun w => ?_)
 refine WCr (WLa Z (WL_nil (WQ_code (WC_seq (WC_draw _ [(0, true), (1, true), (2, true), (3, true), (4, true), (5, true), (6, true), (7, true), (8, true), (9, true), (10, true), (11, true), (12, true), (13, true), (14, true), (15, true)] followsMixed Z Z (by kernel_rfl) .all ?_)))))
 refine WMl Z sc79 mmZ Z (WMa Z (WMa Z (WMf Z fa136_4 (WMv Z (R_indexAddrAN Z Tryz.underlying133 Tryz.sizeOf132 Z Z (by omega)) ?_))))
 refine WMf Z fa132_2 (WMv Z (R_load (v := .int .u64 (x.since : Int)) Z sc25 Z mmZ (pc_get (A := pcH s) Z hx (j := 2) (by omega))) ?_)
 refine WMl Z sc79 mmZ Z (WMa Z (WMa Z (WMf Z fa136_4 (WMv Z (R_indexAddrAN Z Tryz.underlying133 Tryz.sizeOf132 Z Z (by omega)) ?_))))
 refine WMf Z fa132_2 (WMv Z (R_load (v := .int .u64 (y.since : Int)) Z sc25 Z mmZ (pc_get (A := pcH s) Z hy (j := 2) (by omega))) ?_)
 refine WM_call Z (Spec.quiet (cmpt_ok _ _)) Z Z Z Z Z Z Z pqZ ?_
 refine WMa Z (WM_nil (WQ_code (WC_ret ?_)))
 refine WQ1 Z (by
   exact ⟨congrArg (Value.int .i64) (by unfold ageC; rw [since_at hx, since_at hy]), rfl⟩) pqZ
theorem lexI_lt (x y a b : Int) : lexI x y a b < 0 ↔ x < y ∨ (x = y ∧ a < b) := by
 unfold lexI
 simp only [orL, cmpI]
 (repeat' split) <;> omega
theorem srt_uniq {α : Type} {lt : α → α → Prop} : ∀ {l l2 : List α}, l.Perm l2 → l.Pairwise (fun a b => ¬ lt b a) → l2.Pairwise lt → l = l2
 | [], l2, hp, _, _ => by rw [List.nil_perm.1 hp]
 | a :: r, [], hp, _, _ => by have := hp.length_eq; simp at this
 | a :: r, b :: r2, hp, h1, h2 => by
  obtain ⟨h1a, h1b⟩ := List.pairwise_cons.1 h1
  obtain ⟨h2a, h2b⟩ := List.pairwise_cons.1 h2
  have e : a = b := by
   have hb : b ∈ a :: r := hp.mem_iff.2 (List.mem_cons_self ..)
   have ha : a ∈ b :: r2 := hp.mem_iff.1 (List.mem_cons_self ..)
   rcases List.mem_cons.1 ha with h | h
   ·exact h
   ·rcases List.mem_cons.1 hb with h3 | h3
    ·exact h3.symm
    ·exact absurd (h2a a h) (h1a b h3)
  subst e
  rw [srt_uniq (List.Perm.cons_inv hp) h1b h2b]
def PS.late (s : PS) (now : Nat) : List Qp := (s.Q.filter (fun x => decide (x.dl ≤ now))).mergeSort (fun a b => decide (a.dl < b.dl ∨ (a.dl = b.dl ∧ a.t ≤ b.t)))
def PS.tmo (s : PS) (x : Qp) : PS := (s.leave x.who).tell 4 x.who (-1)
def PS.old (s : PS) (now : Nat) : List Int := ((allI 3 s.C).filter (fun a => !young s now a)).mergeSort (fun a b => decide (sinceI s.C a < sinceI s.C b ∨ (sinceI s.C a = sinceI s.C b ∧ a ≤ b)))
def PS.shut (s : PS) (c : Int) : PS := (s.tell 5 (-1) c).lose c.toNat
def PS.adv1 (s : PS) (now : Nat) : PS := (s.late now).foldl PS.tmo (s.at_ now)
def PS.advance (s : PS) (now : Nat) : PS := if s.may true now ≠ 0 then s else ((s.adv1 now).old now).foldl PS.shut (s.adv1 now)
abbrev ltQ (a b : Qp) : Prop := a.dl < b.dl ∨ (a.dl = b.dl ∧ a.t < b.t)
theorem late_perm (s : PS) (now : Nat) : (s.late now).Perm (s.Q.filter (fun x => decide (x.dl ≤ now))) := List.mergeSort_perm _ _
theorem late_mem {s : PS} {now : Nat} {x : Qp} (h : x ∈ s.late now) : x ∈ s.Q ∧ x.dl ≤ now := by
 have := (late_perm s now).mem_iff.1 h
 rw [List.mem_filter] at this
 exact ⟨this.1, of_decide_eq_true this.2⟩
theorem late_srt {s : PS} {g : Nat} (hq : Qk (fq s.Q) g) (now : Nat) : (s.late now).Pairwise ltQ := by
 have h1 : (s.late now).Pairwise (fun a b => decide (a.dl < b.dl ∨ (a.dl = b.dl ∧ a.t ≤ b.t)) = true) := List.pairwise_mergeSort (fun a b c h1 h2 => by simp only [decide_eq_true_eq] at *; omega) (fun a b => by simp only [Bool.or_eq_true, decide_eq_true_eq]; omega) _
 have h2 : (s.late now).Pairwise (fun a b => a.t ≠ b.t) := by
  have h3 : (s.Q.map (·.t)).Nodup := by
   have := hq.nodup
   rwa [List.map_map] at this
  have h4 : ((s.late now).map (·.t)).Nodup := ((late_perm s now).map _).nodup_iff.2 (h3.sublist ((List.filter_sublist ..).map _))
  rw [List.nodup_iff_pairwise_ne, List.pairwise_map] at h4
  exact h4
 refine (h1.and h2).imp fun {a b} ⟨h3, h4⟩ => ?_
 simp only [decide_eq_true_eq] at h3
 show a.dl < b.dl ∨ (a.dl = b.dl ∧ a.t < b.t)
 omega
theorem late_nodup {s : PS} (hn : (s.Q.map (·.who)).Nodup) (now : Nat) : ((s.late now).map (·.who)).Nodup :=
 ((late_perm s now).map _).nodup_iff.2 (hn.sublist ((List.filter_sublist ..).map _))
theorem plQ_at {Q : List Qp} (hn : (Q.map (·.who)).Nodup) {x : Qp} (hx : x ∈ Q) : plQ Q x.who = (x.t, x.dl) :=
 getT_in (by rw [List.map_map]; exact hn) (List.mem_map_of_mem (f := fun x : Qp => (x.who, (x.t, x.dl))) hx) _
theorem pair_mem {α : Type} {R : α → α → Prop} : ∀ {l : List α}, l.Pairwise R → l.Pairwise (fun a b => a ∈ l ∧ b ∈ l ∧ R a b)
 | [], _ => .nil
 | x :: r, h => by
  obtain ⟨h1, h2⟩ := List.pairwise_cons.1 h
  refine List.pairwise_cons.2 ⟨fun b hb => ⟨List.mem_cons_self .., List.mem_cons_of_mem _ hb, h1 b hb⟩, (pair_mem h2).imp fun ⟨ha, hb, hab⟩ => ⟨List.mem_cons_of_mem _ ha, List.mem_cons_of_mem _ hb, hab⟩⟩
theorem late_eq {m : PM} {s : PS} (h : PIs m s) {now : Nat} (hne : now ≠ 18446744073709551615) {xs ys : List Int} (h1 : xs.Perm ((wq s.Q).map (·.1))) (h2 : ys.Perm (xs.filter (fun v => !keepW s.Q now v))) (h3 : ys.Pairwise (fun a b => ¬ lateC s.Q b a < 0)) : ys = (s.late now).map (·.who) := by
 have hp : ys.Perm ((s.late now).map (·.who)) := by
  refine h2.trans ((h1.filter _).trans (List.Perm.trans ?_ ((late_perm s now).map _).symm))
  rw [List.map_map, List.filter_map]
  refine List.Perm.of_eq (congrArg _ ?_)
  refine List.filter_congr fun x hx => ?_
  show (!keepW s.Q now x.who) = _
  unfold keepW
  rw [plQ_at h.nd hx, Bool.not_not]
  exact decide_eq_decide.2 ⟨fun e => e.2, fun e => ⟨hne, e⟩⟩
 refine srt_uniq (lt := fun a b => lateC s.Q a b < 0) hp h3 ?_
 rw [List.pairwise_map]
 refine (pair_mem (late_srt h.qk now)).imp fun {a b} ⟨ha, hb, hab⟩ => ?_
 show lateC s.Q a.who b.who < 0
 unfold lateC
 rw [lexI_lt, plQ_at h.nd (late_mem ha).1, plQ_at h.nd (late_mem hb).1]
 have h9 : a.dl < b.dl ∨ (a.dl = b.dl ∧ a.t < b.t) := hab
 dsimp only
 omega
theorem tmo_Q : ∀ (l : List Qp) (s : PS), (l.foldl PS.tmo s).Q = s.Q.filter (fun y => decide (∀ x ∈ l, y.who ≠ x.who))
 | [], s => (List.filter_eq_self.2 fun y _ => decide_eq_true (fun x hx => by cases hx)).symm
 | a :: r, s => by
  rw [List.foldl_cons, tmo_Q r]
  show (s.Q.filter _).filter _ = _
  rw [List.filter_filter]
  refine List.filter_congr fun y _ => ?_
  rw [← Bool.decide_and]
  refine decide_eq_decide.2 ⟨fun ⟨h1, h2⟩ x hx => ?_, fun h => ⟨fun x hx => h x (List.mem_cons_of_mem _ hx), h a (List.mem_cons_self ..)⟩⟩
  rcases List.mem_cons.1 hx with rfl | hx
  ·exact h2
  ·exact h1 x hx
theorem tmo_rest : ∀ (l : List Qp) (s : PS), (l.foldl PS.tmo s).C = s.C ∧ (l.foldl PS.tmo s).keep = s.keep ∧ (l.foldl PS.tmo s).now = s.now ∧ (l.foldl PS.tmo s).E.length = s.E.length + l.length ∧ (l.foldl PS.tmo s).n = s.n
 | [], s => ⟨rfl, rfl, rfl, rfl, rfl⟩
 | a :: r, s => by
  obtain ⟨h1, h2, h3, h4, h5⟩ := tmo_rest r (s.tmo a)
  refine ⟨h1, h2, h3, ?_, h5⟩
  rw [List.foldl_cons, h4]
  show (s.E ++ [_]).length + _ = _
  rw [List.length_append, List.length_cons]; simp; omega
theorem qp_next {l : List Qp} {k : Nat} {x : Qp} (h : l[k]? = some x) (s : PS) : (l.take (k + 1)).foldl PS.tmo s = ((l.take k).foldl PS.tmo s).tmo x := by
 rw [take_next h, List.foldl_append]; rfl
theorem tmo_in {s : PS} (hn : (s.Q.map (·.who)).Nodup) {now k : Nat} {x : Qp} (hx : (s.late now)[k]? = some x) (s' : PS) (hs' : s'.Q = s.Q) : ∃ A B, (((s.late now).take k).foldl PS.tmo s').Q = A ++ x :: B := by
 have h1 := (late_mem (List.mem_of_getElem? hx)).1
 refine List.append_of_mem ?_
 rw [tmo_Q, List.mem_filter, hs']
 refine ⟨h1, decide_eq_true fun y hy e => ?_⟩
 have h2 := late_nodup hn now
 obtain ⟨i, hi⟩ := List.mem_iff_getElem?.1 hy
 have hik : i < k := by have := (List.getElem?_eq_some_iff.1 hi).1; rw [List.length_take] at this; omega
 rw [List.getElem?_take_of_lt hik] at hi
 have e1 : ((s.late now).map (·.who))[i]? = some x.who := by rw [List.getElem?_map, hi, e]; rfl
 have e2 : ((s.late now).map (·.who))[k]? = some x.who := by rw [List.getElem?_map, hx]; rfl
 obtain ⟨l1, q1⟩ := List.getElem?_eq_some_iff.1 e1
 obtain ⟨l2, q2⟩ := List.getElem?_eq_some_iff.1 e2
 have := (List.getElem_inj h2).1 (q1.trans q2.symm)
 omega
theorem allF_srt (t : Int) : ∀ (C : List Cn) (k : Nat), (allF t k C).Pairwise (· < ·) ∧ ∀ a ∈ allF t k C, (k : Int) ≤ a
 | [], k => ⟨.nil, fun a ha => by cases ha⟩
 | x :: r, k => by
  obtain ⟨h1, h2⟩ := allF_srt t r (k + 1)
  have h3 : ∀ a ∈ allF t (k + 1) r, (k : Int) < a := fun a ha => by have := h2 a ha; omega
  unfold allF
  split
  ·refine ⟨List.pairwise_cons.2 ⟨h3, h1⟩, fun a ha => ?_⟩
   rcases List.mem_cons.1 ha with rfl | ha
   ·exact Int.le_refl _
   ·exact Int.le_of_lt (h3 a ha)
  ·exact ⟨h1, fun a ha => Int.le_of_lt (h3 a ha)⟩
theorem split_rev (q : Int → Bool) : ∀ R : List Int, ∃ T D, R = T ++ D ∧ (∀ y ∈ T, q y = true) ∧ (D = [] ∨ ∃ y D', D = y :: D' ∧ q y = false)
 | [] => ⟨[], [], rfl, fun y hy => (by cases hy), .inl rfl⟩
 | a :: r => by
  cases ha : q a with
  | false => exact ⟨[], a :: r, rfl, fun y hy => (by cases hy), .inr ⟨a, r, rfl, ha⟩⟩
  | true =>
   obtain ⟨T, D, h1, h2, h3⟩ := split_rev q r
   refine ⟨a :: T, D, by rw [h1]; rfl, fun y hy => ?_, h3⟩
   rcases List.mem_cons.1 hy with rfl | hy
   ·exact ha
   ·exact h2 y hy
theorem insR_split (cf : Int → Int → Int) (A : List Int) (x : Int) : ∃ P B, A = P ++ B ∧ (∀ y ∈ B, cf x y < 0) ∧ (P = [] ∨ ∃ P' y, P = P' ++ [y] ∧ ¬ cf x y < 0) ∧ insR cf A x = P ++ x :: B := by
 obtain ⟨T, D, h1, h2, h3⟩ := split_rev (fun y => decide (cf x y < 0)) A.reverse
 have hA : A = D.reverse ++ T.reverse := by rw [← List.reverse_append, ← h1, List.reverse_reverse]
 have hB : ∀ y ∈ T.reverse, cf x y < 0 := fun y hy => of_decide_eq_true (h2 y (List.mem_reverse.1 hy))
 have hP : D.reverse = [] ∨ ∃ P' y, D.reverse = P' ++ [y] ∧ ¬ cf x y < 0 := by
  rcases h3 with rfl | ⟨y, D', rfl, hy⟩
  ·exact .inl rfl
  ·exact .inr ⟨D'.reverse, y, by simp, of_decide_eq_false hy⟩
 exact ⟨D.reverse, T.reverse, hA, hB, hP, by rw [hA, insR_eq hB hP]⟩
abbrev ltA (C : List Cn) (a b : Int) : Prop := sinceI C a < sinceI C b ∨ (sinceI C a = sinceI C b ∧ a < b)
theorem ageC_lt (C : List Cn) (a b : Int) : ageC C a b < 0 ↔ sinceI C a < sinceI C b := by
 unfold ageC cmpI
 (repeat' split) <;> omega
theorem insR_srt {C : List Cn} {A : List Int} {x : Int} (h : A.Pairwise (ltA C)) (hx : ∀ a ∈ A, a < x) : (insR (ageC C) A x).Pairwise (ltA C) := by
 obtain ⟨P, B, rfl, hB, hP, e⟩ := insR_split (ageC C) A x
 rw [e]
 obtain ⟨h1, h2, h3⟩ := List.pairwise_append.1 h
 have hP2 : ∀ a ∈ P, sinceI C a ≤ sinceI C x := fun a ha => by
  rcases hP with rfl | ⟨P', y, rfl, hy⟩
  ·cases ha
  ·rw [ageC_lt] at hy
   rcases List.mem_append.1 ha with ha | ha
   ·have := (List.pairwise_append.1 h1).2.2 a ha y (by simp)
    have h9 : sinceI C a < sinceI C y ∨ (sinceI C a = sinceI C y ∧ a < y) := this
    omega
   ·rw [List.mem_singleton.1 ha]; omega
 refine List.pairwise_append.2 ⟨h1, List.pairwise_cons.2 ⟨fun b hb => .inl ((ageC_lt C x b).1 (hB b hb)), h2⟩, fun a ha b hb => ?_⟩
 rcases List.mem_cons.1 hb with rfl | hb
 ·have h5 := hP2 a ha
  have h6 := hx a (List.mem_append_left _ ha)
  show sinceI C a < sinceI C b ∨ (sinceI C a = sinceI C b ∧ a < b)
  omega
 ·exact h3 a ha b hb
theorem isL_srt {C : List Cn} : ∀ (l : List Int), l.Pairwise (· < ·) → (isL (ageC C) l).Pairwise (ltA C) := by
 have key : ∀ (l A : List Int), l.Pairwise (· < ·) → A.Pairwise (ltA C) → (∀ a ∈ A, ∀ b ∈ l, a < b) → (l.foldl (insR (ageC C)) A).Pairwise (ltA C) := by
  intro l
  induction l with
  | nil => intro A _ h _; exact h
  | cons x r ih =>
   intro A hl hA hx
   obtain ⟨h1, h2⟩ := List.pairwise_cons.1 hl
   refine ih _ h2 (insR_srt hA fun a ha => hx a ha x (List.mem_cons_self ..)) fun a ha b hb => ?_
   rcases List.mem_cons.1 ((insR_perm (ageC C) A x).mem_iff.1 ha) with rfl | ha
   ·exact h1 b hb
   ·exact hx a ha b (List.mem_cons_of_mem _ hb)
 intro l hl
 exact key l [] hl .nil (fun a ha => by cases ha)
theorem old_eq (s : PS) (now : Nat) : isL (ageC s.C) ((allI 3 s.C).filter (fun a => !young s now a)) = s.old now := by
 have h1 := isL_srt (C := s.C) _ ((allF_srt 3 s.C 0).1.filter (fun a => !young s now a))
 refine (srt_uniq (lt := ltA s.C) ?_ ?_ h1).symm
 ·exact (List.mergeSort_perm _ _).trans (isL_perm _ _).symm
 ·have h2 : (s.old now).Pairwise (fun a b => decide (sinceI s.C a < sinceI s.C b ∨ (sinceI s.C a = sinceI s.C b ∧ a ≤ b)) = true) := List.pairwise_mergeSort (fun a b c h1 h2 => by simp only [decide_eq_true_eq] at *; omega) (fun a b => by simp only [Bool.or_eq_true, decide_eq_true_eq]; omega) _
  refine h2.imp fun {a b} h3 h4 => ?_
  simp only [decide_eq_true_eq] at h3
  have h5 : sinceI s.C b < sinceI s.C a ∨ (sinceI s.C b = sinceI s.C a ∧ b < a) := h4
  omega
theorem old_mem {s : PS} {now : Nat} {a : Int} (h : a ∈ s.old now) : a ∈ allI 3 s.C ∧ young s now a = false := by
 have := (List.mergeSort_perm _ _).mem_iff.1 h
 rw [List.mem_filter] at this
 exact ⟨this.1, by simpa using this.2⟩
theorem old_len (s : PS) (now : Nat) : (s.old now).length ≤ (allI 3 s.C).length := by
 have := (List.mergeSort_perm ((allI 3 s.C).filter (fun a => !young s now a)) (fun a b => decide (sinceI s.C a < sinceI s.C b ∨ (sinceI s.C a = sinceI s.C b ∧ a ≤ b)))).length_eq
 have h2 := List.length_filter_le (fun a => !young s now a) (allI 3 s.C)
 unfold PS.old; omega
theorem next_E (s : PS) : s.next.E.length ≤ s.E.length + 1 := by
 unfold PS.next
 split
 ·omega
 ·split
  ·show (s.E ++ [_]).length ≤ _
   rw [List.length_append]; simp
  ·omega
theorem shut_E (s : PS) (c : Int) : (s.shut c).E.length ≤ s.E.length + 2 := by
 have := next_E ((s.tell 5 (-1) c).set c.toNat ⟨0, 0, 0⟩)
 have h2 : ((s.tell 5 (-1) c).set c.toNat ⟨0, 0, 0⟩).E.length = s.E.length + 1 := by
  show (s.E ++ [_]).length = _
  rw [List.length_append]; rfl
 show ((s.tell 5 (-1) c).set c.toNat ⟨0, 0, 0⟩).next.E.length ≤ _
 omega
theorem shuts_E : ∀ (l : List Int) (s : PS), (l.foldl PS.shut s).E.length ≤ s.E.length + 2 * l.length
 | [], s => by simp
 | c :: r, s => by
  have h1 := shuts_E r (s.shut c)
  have h2 := shut_E s c
  rw [List.foldl_cons, List.length_cons]; omega
theorem shut_next {l : List Int} {k : Nat} {c : Int} (h : l[k]? = some c) (s : PS) : (l.take (k + 1)).foldl PS.shut s = ((l.take k).foldl PS.shut s).shut c := by
 rw [take_next h, List.foldl_append]; rfl
theorem adv_no {s : PS} {now : Nat} (h : s.may true now ≠ 0) : s.advance now = s := by unfold PS.advance; rw [if_pos h]
theorem adv_ok {s : PS} {now : Nat} (h : s.may true now = 0) : s.advance now = ((s.adv1 now).old now).foldl PS.shut (s.adv1 now) := by unfold PS.advance; rw [if_neg (by rw [h]; decide)]
structure AdW where
 k : Nat
 m : PM
theorem ptellH_ok {m : PM} {s : PS} (h : PIs m s) (k who c : Int) (hE : s.E.length ≤ 1000000) : Spec Tryz.prog 73 [ptrP m.p, .int .i64 k, .int .i64 who, .int .i64 c] (poH m s) (fun r H' => ∃ m', r = .tuple #[] ∧ H' = poH m' (s.tell k who c) ∧ m'.p = m.p ∧ PIs m' (s.tell k who c)) :=
 Spec.re ((((ptell_ok h k who c hE).fr (qH m.q m.qm (fq s.Q) s.n m.qes m.qmc ++ [poW m])).perm (List.Perm.cons _ (List.perm_append_comm (l₁ := qH m.q m.qm (fq s.Q) s.n m.qes m.qmc ++ [poW m]) (l₂ := [poV m s])))).mono fun r H' ⟨H1, ⟨ob, ek, ec, epre, etl, h1, h2, h3⟩, h4⟩ =>
  ⟨poH { m with eb := ob, ek := ek, ec := ec, epre := epre, etl := etl } (s.tell k who c), by rw [h4, h2]; exact (List.Perm.cons _ (List.perm_append_comm (l₁ := qH m.q m.qm (fq s.Q) s.n m.qes m.qmc ++ [poW m]) (l₂ := [poV { m with eb := ob, ek := ek, ec := ec, epre := epre, etl := etl } (s.tell k who c)]))).symm, _, h1, rfl, rfl, h.tell h3⟩)
theorem pshut_eq (s : PS) (i : Nat) : s.shut (i : Int) = (s.tell 5 (-1) (i : Int)).lose i := by
 show (s.tell 5 (-1) (i : Int)).lose ((i : Int)).toNat = _
 rw [Int.toNat_natCast]
def stV (x : Int) : Int := if x = 1 then 1 else if x = 2 then 2 else 0
def hOf (C : List Cn) (i : Nat) : Int := match C[i]? with
 | some x => stV x.st
 | none => 0
def updH (h : Nat → Int) (i : Nat) (v : Int) : Nat → Int := fun j => if j = i then v else h j
def appE (h : Nat → Int) : List Pv → Option (Nat → Int)
 | [] => some h
 | e :: r => if e.k ≠ 1 ∧ e.k ≠ 2 then appE h r else if 0 ≤ e.c ∧ e.c < 64 ∧ h e.c.toNat = 0 then appE (updH h e.c.toNat (if e.k = 1 then 2 else 1)) r else none
theorem appE_quiet {h : Nat → Int} : ∀ {E : List Pv}, (∀ e ∈ E, e.k ≠ 1 ∧ e.k ≠ 2) → appE h E = some h
 | [], _ => rfl
 | e :: r, he => by
  unfold appE
  rw [if_pos (he e (List.mem_cons_self ..)), appE_quiet fun x hx => he x (List.mem_cons_of_mem _ hx)]
theorem appE_one {h : Nat → Int} {k who : Int} {i : Nat} (hk : k = 1 ∨ k = 2) (hi : i < 64) (h0 : h i = 0) : appE h [⟨k, who, (i : Int)⟩] = some (updH h i (if k = 1 then 2 else 1)) := by
 unfold appE
 rw [if_neg (by dsimp only; omega), if_pos ⟨by dsimp only; omega, by dsimp only; omega, by dsimp only; rw [Int.toNat_natCast]; exact h0⟩]
 dsimp only
 rw [Int.toNat_natCast]; rfl
theorem updH_same (h : Nat → Int) (i : Nat) : updH h i (h i) = h := funext fun j => by unfold updH; split <;> simp_all
theorem updH_twice (h : Nat → Int) (i : Nat) (a b : Int) : updH (updH h i a) i b = updH h i b := funext fun j => by unfold updH; split <;> simp_all
theorem updH_at (h : Nat → Int) (i : Nat) (a : Int) : updH h i a i = a := by unfold updH; rw [if_pos rfl]
theorem updH_ne (h : Nat → Int) {i j : Nat} (a : Int) (e : j ≠ i) : updH h i a j = h j := by unfold updH; rw [if_neg e]
theorem hOf_at {C : List Cn} {i : Nat} {x : Cn} (h : C[i]? = some x) : hOf C i = stV x.st := by unfold hOf; rw [h]
theorem hOf_set {C : List Cn} {i : Nat} (h : i < C.length) (x : Cn) : hOf (C.set i x) = updH (hOf C) i (stV x.st) := funext fun j => by
 unfold hOf updH
 by_cases e : j = i
 ·subst e
  rw [if_pos rfl, List.getElem?_set_self h]
 ·rw [if_neg e, List.getElem?_set_ne (fun e2 => e e2.symm)]
abbrev cn (t : Int) (C : List Cn) : Nat := C.countP (fun x => decide (x.st = t))
theorem allF_cn (t : Int) : ∀ (C : List Cn) (k : Nat), (allF t k C).length = cn t C
 | [], _ => rfl
 | x :: r, k => by
  have ih := allF_cn t r (k + 1)
  unfold allF cn
  rw [List.countP_cons]
  by_cases e : x.st = t
  ·rw [if_pos e, if_pos (decide_eq_true e), List.length_cons, ih]
  ·rw [if_neg e, if_neg (by simpa using e), ih]; rfl
theorem cn_set (t : Int) : ∀ {C : List Cn} {i : Nat} {x : Cn} (y : Cn), C[i]? = some x → cn t (C.set i y) + (if x.st = t then 1 else 0) = cn t C + (if y.st = t then 1 else 0)
 | [], _, _, _, h => by simp at h
 | z :: r, 0, x, y, h => by
  simp at h; subst h
  rw [List.set_cons_zero]
  unfold cn
  rw [List.countP_cons, List.countP_cons]
  simp only [decide_eq_true_eq]
  omega
 | z :: r, i + 1, x, y, h => by
  have ih := cn_set t (C := r) (i := i) y (by simpa using h)
  rw [List.set_cons_succ]
  unfold cn at ih ⊢
  rw [List.countP_cons, List.countP_cons]
  omega
theorem cn_sum : ∀ {C : List Cn}, (∀ x ∈ C, 0 ≤ x.st ∧ x.st ≤ 3) → cn 0 C + cn 1 C + cn 2 C + cn 3 C = C.length
 | [], _ => rfl
 | x :: r, h => by
  have ih := cn_sum (C := r) fun y hy => h y (List.mem_cons_of_mem _ hy)
  have hx := h x (List.mem_cons_self ..)
  unfold cn at ih ⊢
  rw [List.countP_cons, List.countP_cons, List.countP_cons, List.countP_cons, List.length_cons]
  simp only [decide_eq_true_eq]
  (repeat' split) <;> omega
theorem cn_pos {t : Int} {C : List Cn} {i : Nat} {x : Cn} (h : C[i]? = some x) (hx : x.st = t) : 0 < cn t C := List.countP_pos_iff.2 ⟨x, List.mem_of_getElem? h, decide_eq_true hx⟩
theorem cn_nil {t : Int} {C : List Cn} (h : allI t C = []) : cn t C = 0 := by rw [← allF_cn t C 0]; exact congrArg List.length h
theorem b0_ : (0 : Int) ≤ 0 ∧ (0 : Int) ≤ 3 := by decide
theorem b1_ : (0 : Int) ≤ 1 ∧ (1 : Int) ≤ 3 := by decide
theorem b2_ : (0 : Int) ≤ 2 ∧ (2 : Int) ≤ 3 := by decide
theorem b3_ : (0 : Int) ≤ 3 ∧ (3 : Int) ≤ 3 := by decide
structure PH (s : PS) : Prop where
 len : s.C.length = 64
 st : ∀ x ∈ s.C, 0 ≤ x.st ∧ x.st ≤ 3
 used : cn 1 s.C + cn 2 s.C + cn 3 s.C ≤ s.op
 idle : cn 3 s.C ≤ s.most
 wait : s.Q = [] ∨ (cn 3 s.C = 0 ∧ cn 1 s.C + cn 2 s.C + cn 3 s.C = s.op)
 op : s.op ≤ 64
def wt (s : PS) : Nat := 3 * cn 3 s.C + 2 * cn 2 s.C + cn 1 s.C + s.Q.length
theorem PH.room {s : PS} (h : PH s) : s.room = true ↔ cn 1 s.C + cn 2 s.C + cn 3 s.C < s.op := by
 have h1 := cn_sum h.st
 have h2 := allF_cn 0 s.C 0
 have h3 := h.len
 unfold PS.room PS.used
 rw [show (allI 0 s.C).length = cn 0 s.C from h2, decide_eq_true_eq]
 omega
theorem PH.set {s : PS} (h : PH s) {i : Nat} {x y : Cn} (hx : s.C[i]? = some x) (hy : 0 ≤ y.st ∧ y.st ≤ 3) (h1 : y.st = 0 ∨ x.st ≠ 0 ∨ s.room = true) (h2 : y.st ≠ 3 ∨ cn 3 s.C < s.most) (h3 : s.Q = [] ∨ (x.st = 1 ∧ y.st = 2)) : PH (s.set i y) := by
 have e0 := cn_set 0 y hx
 have e1 := cn_set 1 y hx
 have e2 := cn_set 2 y hx
 have e3 := cn_set 3 y hx
 have hxm := h.st x (List.mem_of_getElem? hx)
 have hu := h.used
 have hi := h.idle
 have hr : y.st = 0 ∨ x.st ≠ 0 ∨ cn 1 s.C + cn 2 s.C + cn 3 s.C < s.op := by
  rcases h1 with e | e | e
  ·exact .inl e
  ·exact .inr (.inl e)
  ·exact .inr (.inr (h.room.1 e))
 refine ⟨by show (s.C.set i y).length = 64; rw [List.length_set]; exact h.len, fun z hz => ?_, ?_, ?_, ?_, h.op⟩
 ·rcases List.mem_or_eq_of_mem_set hz with hz | rfl
  ·exact h.st z hz
  ·exact hy
 ·show cn 1 (s.C.set i y) + cn 2 (s.C.set i y) + cn 3 (s.C.set i y) ≤ s.op
  (repeat' split at e1) <;> (repeat' split at e2) <;> (repeat' split at e3) <;> omega
 ·show cn 3 (s.C.set i y) ≤ s.most
  (repeat' split at e3) <;> omega
 ·rcases h3 with h3 | ⟨h3, h4⟩
  ·exact .inl h3
  ·rcases h.wait with h5 | ⟨h5, h6⟩
   ·exact .inl h5
   ·right
    show cn 3 (s.C.set i y) = 0 ∧ cn 1 (s.C.set i y) + cn 2 (s.C.set i y) + cn 3 (s.C.set i y) = s.op
    rw [h3, h4] at e1 e2 e3
    simp at e1 e2 e3
    omega
theorem free_x {s : PS} (h : PH s) (hr : s.room = true) : ∃ x, s.C[s.free]? = some x ∧ x.st = 0 ∧ s.free < 64 := by
 obtain ⟨_, h2, x, h3, h4⟩ := PS.free_of (PS.room_ne hr h.len h.op)
 exact ⟨x, h3, h4, by rw [← h.len]; exact h2⟩
structure LoseR (s s' : PS) (k : Nat) (t : Int) : Prop where
 ph : PH s'
 ev : ∃ E2, s'.E = s.E ++ E2 ∧ appE (updH (hOf s.C) k 0) E2 = some (hOf s'.C) ∧ E2.length ≤ 1
 w : wt s' + (if t = 3 then 3 else if t = 2 then 2 else 1) ≤ wt s
 q : s'.Q = s.Q.drop 1
 n : s'.n = s.n
 now : s'.now = s.now
 op : s'.op = s.op
 most : s'.most = s.most
 none : s.Q = [] → s'.E = s.E ∧ hOf s'.C = updH (hOf s.C) k 0
theorem lose_R {s : PS} (h : PH s) {k : Nat} {x : Cn} (hx : s.C[k]? = some x) (hs : x.st ≠ 0) : LoseR s (s.lose k) k x.st := by
 have hk := (List.getElem?_eq_some_iff.1 hx).1
 have e1 := cn_set 1 (⟨0, 0, 0⟩ : Cn) hx
 have e2 := cn_set 2 (⟨0, 0, 0⟩ : Cn) hx
 have e3 := cn_set 3 (⟨0, 0, 0⟩ : Cn) hx
 simp only [show ¬ ((0 : Int) = 1) from by decide, show ¬ ((0 : Int) = 2) from by decide, show ¬ ((0 : Int) = 3) from by decide, if_false, Nat.add_zero] at e1 e2 e3
 have hxm := h.st x (List.mem_of_getElem? hx)
 have hset : hOf (s.set k ⟨0, 0, 0⟩).C = updH (hOf s.C) k 0 := hOf_set hk _
 cases hQ : s.Q with
 | nil =>
  have e : s.lose k = s.set k ⟨0, 0, 0⟩ := PS.next_nil hQ
  rw [e]
  refine ⟨h.set hx b0_ (.inl rfl) (.inl (by decide)) (.inl hQ), ⟨[], (List.append_nil _).symm, congrArg some hset.symm, Nat.zero_le _⟩, ?_, by show s.Q = _; rw [hQ]; rfl, rfl, rfl, rfl, rfl, fun _ => ⟨rfl, hset⟩⟩
  show 3 * cn 3 (s.C.set k ⟨0, 0, 0⟩) + 2 * cn 2 (s.C.set k ⟨0, 0, 0⟩) + cn 1 (s.C.set k ⟨0, 0, 0⟩) + s.Q.length + _ ≤ _
  unfold wt
  (repeat' split at e1) <;> (repeat' split at e2) <;> (repeat' split at e3) <;> (repeat' split) <;> omega
 | cons a r =>
  obtain ⟨hi0, hful⟩ : cn 3 s.C = 0 ∧ cn 1 s.C + cn 2 s.C + cn 3 s.C = s.op := by
   rcases h.wait with e | e
   ·rw [hQ] at e; cases e
   ·exact e
  -- the pool with the connection gone, ars if nobody waited
  have h0 : PH { s.set k ⟨0, 0, 0⟩ with Q := [] } := by
   have h9 : PH { s with Q := [] } := ⟨h.len, h.st, h.used, h.idle, .inl rfl, h.op⟩
   exact h9.set hx b0_ (.inl rfl) (.inl (by decide)) (.inl rfl)
  have hr : (s.set k ⟨0, 0, 0⟩).room = true := by
   have := (h0.room).2 (by
    show cn 1 (s.C.set k ⟨0, 0, 0⟩) + cn 2 (s.C.set k ⟨0, 0, 0⟩) + cn 3 (s.C.set k ⟨0, 0, 0⟩) < s.op
    (repeat' split at e1) <;> (repeat' split at e2) <;> (repeat' split at e3) <;> omega)
   exact this
  have e : s.lose k = ((s.set k ⟨0, 0, 0⟩).pop.dial a.who).tell 2 a.who ((s.set k ⟨0, 0, 0⟩).free : Int) := PS.next_ok hQ hr
  obtain ⟨y, hy, hy0, hfl⟩ := free_x h0 hr
  have hy' : (s.C.set k ⟨0, 0, 0⟩)[(s.set k ⟨0, 0, 0⟩).free]? = some y := hy
  have hfl2 : (s.set k ⟨0, 0, 0⟩).free < 64 := hfl
  have hy2 : (s.set k ⟨0, 0, 0⟩).C[(s.set k ⟨0, 0, 0⟩).free]? = some y := hy
  have f1 := cn_set 1 (⟨1, a.who, 0⟩ : Cn) hy'
  have f2 := cn_set 2 (⟨1, a.who, 0⟩ : Cn) hy'
  have f3 := cn_set 3 (⟨1, a.who, 0⟩ : Cn) hy'
  rw [hy0] at f1 f2 f3
  simp only [show ¬ ((1 : Int) = 2) from by decide, show ¬ ((1 : Int) = 3) from by decide, show ¬ ((0 : Int) = 1) from by decide, show ¬ ((0 : Int) = 2) from by decide, show ¬ ((0 : Int) = 3) from by decide, if_false, if_true, Nat.add_zero] at f1 f2 f3
  have hC : (s.lose k).C = (s.C.set k ⟨0, 0, 0⟩).set (s.set k ⟨0, 0, 0⟩).free ⟨1, a.who, 0⟩ := by rw [e]; rfl
  have hQ' : (s.lose k).Q = r := by rw [e]; show s.Q.drop 1 = r; rw [hQ]; rfl
  have hop : (s.lose k).op = s.op := by rw [e]; rfl
  have hmo : (s.lose k).most = s.most := by rw [e]; rfl
  refine ⟨⟨by rw [hC, List.length_set, List.length_set]; exact h.len, fun z hz => ?_, ?_, ?_, .inr ⟨?_, ?_⟩, by rw [hop]; exact h.op⟩, ⟨[⟨2, a.who, ((s.set k ⟨0, 0, 0⟩).free : Int)⟩], by rw [e]; rfl, ?_, Nat.le_refl _⟩, ?_, by rw [hQ', hQ]; rfl, by rw [e]; rfl, by rw [e]; rfl, hop, hmo, fun e9 => by rw [hQ] at e9; cases e9⟩
  ·rw [hC] at hz
   rcases List.mem_or_eq_of_mem_set hz with hz | rfl
   ·exact h0.st z hz
   ·exact b1_
  ·rw [hC, hop]; (repeat' split at e1) <;> (repeat' split at e2) <;> (repeat' split at e3) <;> omega
  ·rw [hC, hmo]; have := h.idle; (repeat' split at e3) <;> omega
  ·rw [hC]; (repeat' split at e3) <;> omega
  ·rw [hC, hop]; (repeat' split at e1) <;> (repeat' split at e2) <;> (repeat' split at e3) <;> omega
  ·rw [← hset, appE_one (.inr rfl) hfl2 (by rw [hOf_at hy2, hy0]; rfl), hC]
   exact congrArg some (hOf_set (C := s.C.set k ⟨0, 0, 0⟩) (by rw [List.length_set, h.len]; exact hfl2) ⟨1, a.who, 0⟩).symm
  ·unfold wt
   rw [hC, hQ', hQ, List.length_cons]
   (repeat' split at e1) <;> (repeat' split at e2) <;> (repeat' split at e3) <;> (repeat' split) <;> omega
theorem PH.at_ {s : PS} (h : PH s) (now : Nat) : PH (s.at_ now) := ⟨h.len, h.st, h.used, h.idle, h.wait, h.op⟩
theorem PH.tell {s : PS} (h : PH s) (k who c : Int) : PH (s.tell k who c) := ⟨h.len, h.st, h.used, h.idle, h.wait, h.op⟩
theorem PH.dry {s : PS} (h : PH s) (E : List Pv) : PH { s with E := E } := ⟨h.len, h.st, h.used, h.idle, h.wait, h.op⟩
theorem PH.lessQ {s : PS} (h : PH s) {Q : List Qp} (hq : Q = [] ∨ s.Q ≠ []) : PH { s with Q := Q } := ⟨h.len, h.st, h.used, h.idle, by
 rcases hq with e | e
 ·exact .inl e
 ·rcases h.wait with e2 | e2
  ·exact absurd e2 e
  ·exact .inr e2, h.op⟩
structure OpR (s s' : PS) (h : Nat → Int) (now : Nat) : Prop where
 ph : PH s'
 ev : ∃ E2, s'.E = s.E ++ E2 ∧ appE h E2 = some (hOf s'.C)
 w : wt s' ≤ wt s + 1
 n : s'.n ≤ s.n + 1
 now : s'.now = now
 op : s'.op = s.op
 most : s'.most = s.most
 len : s'.E.length ≤ s.E.length + s.Q.length + 128
theorem wt_set {s : PS} {i : Nat} {x y : Cn} (hx : s.C[i]? = some x) (hxs : 0 ≤ x.st ∧ x.st ≤ 3) (hys : 0 ≤ y.st ∧ y.st ≤ 3) : (wt (s.set i y) : Int) + x.st = wt s + y.st := by
 have e1 := cn_set 1 y hx
 have e2 := cn_set 2 y hx
 have e3 := cn_set 3 y hx
 show ((3 * cn 3 (s.C.set i y) + 2 * cn 2 (s.C.set i y) + cn 1 (s.C.set i y) + s.Q.length : Nat) : Int) + x.st = ((3 * cn 3 s.C + 2 * cn 2 s.C + cn 1 s.C + s.Q.length : Nat) : Int) + y.st
 (repeat' split at e1) <;> (repeat' split at e2) <;> (repeat' split at e3) <;> omega
theorem idle_Q {s : PS} (h : PH s) (hi : allI 3 s.C ≠ []) : s.Q = [] := by
 rcases h.wait with e | ⟨e, _⟩
 ·exact e
 ·exfalso
  obtain ⟨a, ha⟩ := List.exists_mem_of_ne_nil _ hi
  obtain ⟨i, x, _, hx, hst⟩ := allI_mem ha
  have := cn_pos hx hst
  omega
theorem room_Q {s : PS} (h : PH s) (hr : s.room = true) : s.Q = [] := by
 rcases h.wait with e | ⟨_, e⟩
 ·exact e
 ·have := h.room.1 hr; omega
theorem get_ev {s : PS} (h : PH s) {who : Int} {now dl : Nat} (he : getE_ s who now dl = 0) :
  PH (s.getS who now dl) ∧ wt (s.getS who now dl) ≤ wt s + 1 ∧ (s.getS who now dl).n ≤ s.n + 1 ∧ (s.getS who now dl).now = now ∧ (s.getS who now dl).op = s.op ∧ (s.getS who now dl).most = s.most ∧ (s.getS who now dl).E = s.E ∧ appE (hOf s.C) [s.getV who now dl] = some (hOf (s.getS who now dl).C) := by
 by_cases hi : allI 3 s.C = []
 ·cases hr : s.room with
  | true =>
   obtain ⟨e1, e2⟩ := get_dial he hi hr
   obtain ⟨x, hx, hx0, hfl⟩ := free_x h hr
   rw [e1, e2]
   have hp := (h.at_ now).set (i := s.free) (y := ⟨1, who, 0⟩) hx b1_ (.inr (.inr hr)) (.inl (by show (1 : Int) ≠ 3; decide)) (.inl (show s.Q = [] from room_Q h hr))
   have hw := wt_set (s := s.at_ now) (y := ⟨1, who, 0⟩) hx (h.st x (List.mem_of_getElem? hx)) b1_
   refine ⟨hp, ?_, Nat.le_succ _, rfl, rfl, rfl, rfl, ?_⟩
   ·rw [hx0] at hw
    have h9 : wt (s.at_ now) = wt s := rfl
    have h8 : ((wt ((s.at_ now).dial who) : Nat) : Int) + 0 = wt (s.at_ now) + 1 := hw
    omega
   ·rw [appE_one (.inr rfl) hfl (by rw [hOf_at hx, hx0]; rfl)]
    exact congrArg some (hOf_set (C := s.C) (by rw [h.len]; exact hfl) ⟨1, who, 0⟩).symm
  | false =>
   obtain ⟨e1, e2⟩ := get_wait he hi hr
   rw [e1, e2]
   have h3 := cn_nil hi
   have hnr : ¬ (cn 1 s.C + cn 2 s.C + cn 3 s.C < s.op) := fun q => by have := h.room.2 q; rw [hr] at this; cases this
   have hu := h.used
   refine ⟨⟨h.len, h.st, h.used, h.idle, .inr ⟨h3, show cn 1 s.C + cn 2 s.C + cn 3 s.C = s.op by omega⟩, h.op⟩, ?_, Nat.le_refl _, rfl, rfl, rfl, rfl, ?_⟩
   ·show 3 * cn 3 s.C + 2 * cn 2 s.C + cn 1 s.C + (s.Q ++ [_]).length ≤ 3 * cn 3 s.C + 2 * cn 2 s.C + cn 1 s.C + s.Q.length + 1
    rw [List.length_append]; simp; omega
   ·exact appE_quiet fun e he => by rw [List.mem_singleton.1 he]; exact ⟨by show (3 : Int) ≠ 1; decide, by show (3 : Int) ≠ 2; decide⟩
 ·obtain ⟨e1, e2⟩ := get_use he hi
  obtain ⟨k, x, hk, hx, hkl, hx3⟩ := last_mem hi
  rw [e1, e2]
  have hp := (h.at_ now).set (i := s.last.toNat) (y := ⟨2, 0, 0⟩) hx b2_ (.inr (.inl (by rw [hx3]; decide))) (.inl (by show (2 : Int) ≠ 3; decide)) (.inl (show s.Q = [] from idle_Q h hi))
  have hw := wt_set (s := s.at_ now) (y := ⟨2, 0, 0⟩) hx (h.st x (List.mem_of_getElem? hx)) b2_
  refine ⟨hp, ?_, Nat.le_succ _, rfl, rfl, rfl, rfl, ?_⟩
  ·rw [hx3] at hw
   have h9 : wt (s.at_ now) = wt s := rfl
   have h8 : ((wt ((s.at_ now).set s.last.toNat ⟨2, 0, 0⟩) : Nat) : Int) + 3 = wt (s.at_ now) + 2 := hw
   omega
  ·have hlt : s.last.toNat < s.C.length := by rw [hk, Int.toNat_natCast]; exact hkl
   have e3 : s.last = ((s.last.toNat : Nat) : Int) := by rw [hk, Int.toNat_natCast]
   rw [show (⟨1, who, s.last⟩ : Pv) = ⟨1, who, ((s.last.toNat : Nat) : Int)⟩ from congrArg (Pv.mk 1 who) e3]
   rw [appE_one (.inl rfl) (by rw [← h.len]; exact hlt) (by rw [hOf_at hx, hx3]; rfl)]
   exact congrArg some (hOf_set (C := s.C) hlt ⟨2, 0, 0⟩).symm
theorem dialed_made_R {s : PS} (h : PH s) {k : Nat} {x : Cn} (hx : s.C[k]? = some x) (hs : x.st = 1) (now : Nat) : PH ((s.at_ now).set k ⟨2, 0, 0⟩) ∧ wt ((s.at_ now).set k ⟨2, 0, 0⟩) ≤ wt s + 1 ∧ hOf ((s.at_ now).set k ⟨2, 0, 0⟩).C = updH (hOf s.C) k 2 := by
 have hw := wt_set (s := s.at_ now) (y := ⟨2, 0, 0⟩) hx (h.st x (List.mem_of_getElem? hx)) b2_
 refine ⟨(h.at_ now).set (y := ⟨2, 0, 0⟩) hx b2_ (.inr (.inl (by rw [hs]; decide))) (.inl (by show (2 : Int) ≠ 3; decide)) (.inr ⟨hs, rfl⟩), ?_, hOf_set (C := s.C) (List.getElem?_eq_some_iff.1 hx).1 _⟩
 rw [hs] at hw
 have h9 : wt (s.at_ now) = wt s := rfl
 have h8 : ((wt ((s.at_ now).set k ⟨2, 0, 0⟩) : Nat) : Int) + 1 = wt (s.at_ now) + 2 := hw
 omega
theorem lose_at {s : PS} (h : PH s) {k : Nat} {x : Cn} (hx : s.C[k]? = some x) (hs : x.st ≠ 0) (now : Nat) : OpR s ((s.at_ now).lose k) (updH (hOf s.C) k 0) now := by
 have r := lose_R (h.at_ now) hx hs
 obtain ⟨E2, e1, e2, e3⟩ := r.ev
 exact ⟨r.ph, ⟨E2, e1, e2⟩, by have := r.w; have h9 : wt (s.at_ now) = wt s := rfl; omega, by rw [r.n]; exact Nat.le_succ _, r.now, r.op, r.most, by rw [e1, List.length_append]; (show s.E.length + _ ≤ _); omega⟩
theorem close_at {s : PS} (h : PH s) {k : Nat} {x : Cn} (hx : s.C[k]? = some x) (hs : x.st ≠ 0) (now : Nat) : OpR s (((s.at_ now).tell 5 (-1) (k : Int)).lose k) (updH (hOf s.C) k 0) now := by
 have r := lose_R ((h.at_ now).tell 5 (-1) (k : Int)) hx hs
 obtain ⟨E2, e1, e2, e3⟩ := r.ev
 refine ⟨r.ph, ⟨⟨5, -1, (k : Int)⟩ :: E2, by rw [e1]; show (s.E ++ [_]) ++ E2 = _; simp, ?_⟩, by have := r.w; have h9 : wt ((s.at_ now).tell 5 (-1) (k : Int)) = wt s := rfl; omega, by rw [r.n]; exact Nat.le_succ _, r.now, r.op, r.most, by rw [e1, List.length_append]; (show (s.E ++ [_]).length + _ ≤ _); rw [List.length_append, List.length_singleton]; omega⟩
 unfold appE
 rw [if_pos ⟨by show (5 : Int) ≠ 1; decide, by show (5 : Int) ≠ 2; decide⟩]
 exact e2
theorem dialed_R {s : PS} (h : PH s) {c : Int} {now : Nat} (he : s.inE c 1 now = 0) (made : Bool) : ∃ k : Nat, c = (k : Int) ∧ k < 64 ∧ hOf s.C k = 1 ∧ OpR s (s.dialed c made now) (if made = true then updH (hOf s.C) k 2 else updH (hOf s.C) k 0) now := by
 obtain ⟨k, x, rfl, hk, hx, hst, _, _⟩ := inE_zero he
 refine ⟨k, rfl, hk, by rw [hOf_at hx, hst]; rfl, ?_⟩
 cases made with
 | true =>
  rw [dialed_made he, if_pos rfl]
  obtain ⟨a, b, c⟩ := dialed_made_R h hx hst now
  exact ⟨a, ⟨[], (List.append_nil _).symm, by rw [c]; rfl⟩, b, Nat.le_succ _, rfl, rfl, rfl, by show s.E.length ≤ _; omega⟩
 | false =>
  rw [dialed_lost he, if_neg (by decide)]
  exact lose_at h hx (by rw [hst]; decide) now
theorem put_R {s : PS} (h : PH s) {c : Int} {now : Nat} (he : s.inE c 2 now = 0) (good : Bool) : ∃ k : Nat, c = (k : Int) ∧ k < 64 ∧ hOf s.C k = 2 ∧ OpR s (s.put c good now) (updH (hOf s.C) k 0) now := by
 obtain ⟨k, x, rfl, hk, hx, hst, _, _⟩ := inE_zero he
 have h2 : hOf s.C k = 2 := by rw [hOf_at hx, hst]; rfl
 refine ⟨k, rfl, hk, h2, ?_⟩
 cases good with
 | false => rw [put_bad he]; exact close_at h hx (by rw [hst]; decide) now
 | true =>
  cases hQ : s.Q with
  | nil =>
   by_cases hl : (allI 3 s.C).length < s.most
   ·rw [put_idle he hQ hl]
    have hl2 : cn 3 s.C < s.most := by rw [← allF_cn 3 s.C 0]; exact hl
    have hp := (h.at_ now).set (y := ⟨3, 0, now⟩) hx b3_ (.inr (.inl (by rw [hst]; decide))) (.inr hl2) (.inl hQ)
    have hw := wt_set (s := s.at_ now) (y := ⟨3, 0, now⟩) hx (h.st x (List.mem_of_getElem? hx)) b3_
    refine ⟨hp, ⟨[], (List.append_nil _).symm, congrArg some (hOf_set (C := s.C) (List.getElem?_eq_some_iff.1 hx).1 ⟨3, 0, now⟩).symm⟩, ?_, Nat.le_succ _, rfl, rfl, rfl, by show s.E.length ≤ _; omega⟩
    rw [hst] at hw
    have h9 : wt (s.at_ now) = wt s := rfl
    have h8 : ((wt ((s.at_ now).set k ⟨3, 0, now⟩) : Nat) : Int) + 2 = wt (s.at_ now) + 3 := hw
    omega
   ·rw [put_over he hQ hl]; exact close_at h hx (by rw [hst]; decide) now
  | cons a r =>
   rw [put_use he hQ]
   have hne : s.Q ≠ [] := by rw [hQ]; simp
   have hp : PH (((s.at_ now).pop).tell 1 a.who (k : Int)) := ((h.at_ now).lessQ (Q := s.Q.drop 1) (.inr hne)).tell _ _ _
   refine ⟨hp, ⟨[⟨1, a.who, (k : Int)⟩], rfl, ?_⟩, ?_, Nat.le_succ _, rfl, rfl, rfl, by show (s.E ++ [_]).length ≤ _; rw [List.length_append, List.length_singleton]; omega⟩
   ·rw [appE_one (.inl rfl) hk (updH_at _ _ _), if_pos rfl, updH_twice]
    exact congrArg some (show _ = hOf s.C by rw [← h2, updH_same])
   ·show 3 * cn 3 s.C + 2 * cn 2 s.C + cn 1 s.C + (s.Q.drop 1).length ≤ 3 * cn 3 s.C + 2 * cn 2 s.C + cn 1 s.C + s.Q.length + 1
    rw [List.length_drop]; omega
structure AdR (s s' : PS) : Prop where
 ph : PH s'
 ev : ∃ E2, s'.E = s.E ++ E2 ∧ ∀ e ∈ E2, e.k ≠ 1 ∧ e.k ≠ 2
 h : hOf s'.C = hOf s.C
 w : wt s' ≤ wt s
 n : s'.n = s.n
 now : s'.now = s.now
 op : s'.op = s.op
 most : s'.most = s.most
theorem AdR.refl {s : PS} (h : PH s) : AdR s s := ⟨h, ⟨[], (List.append_nil _).symm, fun e he => by cases he⟩, rfl, Nat.le_refl _, rfl, rfl, rfl, rfl⟩
theorem AdR.trans {a b c : PS} (h1 : AdR a b) (h2 : AdR b c) : AdR a c := by
 obtain ⟨E1, e1, f1⟩ := h1.ev
 obtain ⟨E2, e2, f2⟩ := h2.ev
 exact ⟨h2.ph, ⟨E1 ++ E2, by rw [e2, e1, List.append_assoc], fun e he => by rcases List.mem_append.1 he with he | he; exact f1 e he; exact f2 e he⟩, h2.h.trans h1.h, Nat.le_trans h2.w h1.w, h2.n.trans h1.n, h2.now.trans h1.now, h2.op.trans h1.op, h2.most.trans h1.most⟩
theorem tmo_R {s : PS} (h : PH s) (x : Qp) : AdR s (s.tmo x) := by
 refine ⟨((h.lessQ (Q := s.Q.filter fun y => decide (y.who ≠ x.who)) ?_).tell _ _ _), ⟨[⟨4, x.who, -1⟩], rfl, fun e he => by rw [List.mem_singleton.1 he]; exact ⟨by show (4 : Int) ≠ 1; decide, by show (4 : Int) ≠ 2; decide⟩⟩, rfl, ?_, rfl, rfl, rfl, rfl⟩
 ·cases hQ : s.Q with
  | nil => exact .inl rfl
  | cons a r => exact .inr (by simp)
 ·show 3 * cn 3 s.C + 2 * cn 2 s.C + cn 1 s.C + (s.Q.filter _).length ≤ 3 * cn 3 s.C + 2 * cn 2 s.C + cn 1 s.C + s.Q.length
  have := List.length_filter_le (fun y : Qp => decide (y.who ≠ x.who)) s.Q
  omega
theorem tmos_R : ∀ (l : List Qp) {s : PS}, PH s → AdR s (l.foldl PS.tmo s)
 | [], s, h => AdR.refl h
 | x :: r, s, h => (tmo_R h x).trans (tmos_R r (tmo_R h x).ph)
theorem shut_R {s : PS} (h : PH s) {k : Nat} {x : Cn} (hx : s.C[k]? = some x) (hs : x.st = 3) : AdR s (s.shut (k : Int)) ∧ (s.shut (k : Int)).C = s.C.set k ⟨0, 0, 0⟩ := by
 have hQ : s.Q = [] := idle_Q h (fun e => by have := cn_pos hx hs; rw [cn_nil e] at this; omega)
 have r := lose_R (h.tell 5 (-1) (k : Int)) hx (by rw [hs]; decide)
 have hC : ((s.tell 5 (-1) (k : Int)).lose k).C = s.C.set k ⟨0, 0, 0⟩ := by
  have e : (s.tell 5 (-1) (k : Int)).lose k = (s.tell 5 (-1) (k : Int)).set k ⟨0, 0, 0⟩ := PS.next_nil hQ
  rw [e]; rfl
 rw [pshut_eq]
 obtain ⟨e1, e2⟩ := r.none hQ
 refine ⟨⟨r.ph, ⟨[⟨5, -1, (k : Int)⟩], e1, fun e he => by rw [List.mem_singleton.1 he]; exact ⟨by show (5 : Int) ≠ 1; decide, by show (5 : Int) ≠ 2; decide⟩⟩, ?_, by have := r.w; have h9 : wt (s.tell 5 (-1) (k : Int)) = wt s := rfl; omega, r.n, r.now, r.op, r.most⟩, hC⟩
 rw [e2]
 show updH (hOf s.C) k 0 = _
 have h0 : hOf s.C k = 0 := by rw [hOf_at hx, hs]; rfl
 rw [← h0, updH_same]
theorem shuts_R : ∀ (l : List Int) {s : PS}, PH s → l.Nodup → (∀ a ∈ l, a ∈ allI 3 s.C) → AdR s (l.foldl PS.shut s)
 | [], s, h, _, _ => AdR.refl h
 | a :: r, s, h, hn, hm => by
  obtain ⟨k, x, rfl, hx, hs⟩ := allI_mem (hm a (List.mem_cons_self ..))
  obtain ⟨h1, h2⟩ := List.nodup_cons.1 hn
  obtain ⟨q, hC⟩ := shut_R h hx hs
  refine q.trans (shuts_R r q.ph h2 fun b hb => ?_)
  obtain ⟨j, y, rfl, hy, hy3⟩ := allI_mem (hm b (List.mem_cons_of_mem _ hb))
  have hjk : k ≠ j := fun e => h1 (by rw [e]; exact hb)
  exact allI_in (x := y) (by rw [hC, List.getElem?_set_ne hjk]; exact hy) hy3
theorem old_nodup (s : PS) (now : Nat) : (s.old now).Nodup := by
 refine (List.mergeSort_perm _ _).nodup_iff.2 ?_
 have h1 := (allF_srt 3 s.C 0).1
 have h2 : (allI 3 s.C).Nodup := h1.imp fun h => Int.ne_of_lt h
 exact h2.sublist (List.filter_sublist ..)
theorem adv_R {s : PS} (h : PH s) {now : Nat} (hm : s.may true now = 0) : OpR s (s.advance now) (hOf s.C) now := by
 rw [adv_ok hm]
 have r1 : AdR (s.at_ now) (s.adv1 now) := tmos_R (s.late now) (h.at_ now)
 have r2 := shuts_R ((s.adv1 now).old now) r1.ph (old_nodup _ _) fun a ha => (old_mem ha).1
 have r := r1.trans r2
 obtain ⟨E2, e1, e2⟩ := r.ev
 refine ⟨r.ph, ⟨E2, e1, ?_⟩, by have := r.w; have h9 : wt (s.at_ now) = wt s := rfl; omega, by rw [r.n]; exact Nat.le_succ _, r.now, r.op, r.most, ?_⟩
 ·have h9 : hOf (s.at_ now).C = hOf s.C := rfl
  rw [← h9, ← r.h]; exact appE_quiet e2
 ·have a1 := shuts_E ((s.adv1 now).old now) (s.adv1 now)
  have a2 := (tmo_rest (s.late now) (s.at_ now)).2.2.2.1
  have a3 := (late_perm s now).length_eq
  have a4 := List.length_filter_le (fun x : Qp => decide (x.dl ≤ now)) s.Q
  have a5 := old_len (s.adv1 now) now
  have a6 := allI_len 3 (s.adv1 now).C
  rw [r1.ph.len] at a6
  have a7 : (s.adv1 now).E.length = s.E.length + (s.late now).length := a2
  omega
structure CutI (s s' : PS) (h : Nat → Int) (t : Nat) : Prop where
 ph : PH s'
 ev : appE h s'.E = some (hOf s'.C)
 len : s'.E.length < 300
 w : wt s' ≤ wt s + 1
 n : s'.n ≤ s.n + 1
 now : s'.now ≤ t
 op : s'.op = s.op
 most : s'.most = s.most
theorem OpR.cut {s s' : PS} {h : Nat → Int} {t : Nat} (r : OpR s s' h t) (hE : s.E = []) (h2 : s.Q.length ≤ 100) : CutI s s' h t := by
 obtain ⟨E2, e1, e2⟩ := r.ev
 rw [hE, List.nil_append] at e1
 have h1 := r.len
 rw [hE] at h1
 simp only [List.length_nil] at h1
 exact ⟨r.ph, by rw [e1]; exact e2, by omega, r.w, r.n, by rw [r.now]; exact Nat.le_refl _, r.op, r.most⟩
theorem CutI.dry {s s' : PS} {h : Nat → Int} {t : Nat} (c : CutI s s' h t) : PH { s' with E := [] } := c.ph.dry []
theorem put_q {s : PS} (h : PH s) {k now : Nat} (he : s.inE (k : Int) 2 now = 0) : (s.Q ≠ [] → (s.put (k : Int) true now).Q.length < s.Q.length) ∧ (s.Q = [] → (s.put (k : Int) true now).Q = [] ∧ hOf (s.put (k : Int) true now).C = updH (hOf s.C) k 0) := by
 obtain ⟨k2, x, e, hk, hx, hst, _, _⟩ := inE_zero he
 obtain rfl : k = k2 := by omega
 constructor
 ·intro hQ
  cases hq : s.Q with
  | nil => exact absurd hq hQ
  | cons a r =>
   rw [put_use he hq]
   show (s.Q.drop 1).length < _
   rw [hq]; simp
 ·intro hQ
  by_cases hl : (allI 3 s.C).length < s.most
  ·rw [put_idle he hQ hl]
   exact ⟨hQ, hOf_set (C := s.C) (List.getElem?_eq_some_iff.1 hx).1 ⟨3, 0, now⟩⟩
  ·rw [put_over he hQ hl]
   have r := lose_R ((h.at_ now).tell 5 (-1) (k : Int)) hx (by rw [hst]; decide)
   exact ⟨by rw [r.q]; show s.Q.drop 1 = []; rw [hQ]; rfl, (r.none hQ).2⟩
def Prog (s : PS) (q0 n : Nat) : Prop := s.Q.length < q0 ∨ (s.Q.length = q0 ∧ ∀ i, i < n → hOf s.C i = 0)
theorem Prog.skip {s : PS} {q0 n : Nat} (h : Prog s q0 n) (h0 : hOf s.C n = 0) : Prog s q0 (n + 1) := by
 rcases h with h | ⟨h1, h2⟩
 ·exact .inl h
 ·refine .inr ⟨h1, fun i hi => ?_⟩
  by_cases e : i = n
  ·rw [e]; exact h0
  ·exact h2 i (by omega)
theorem Prog.put {s s1 : PS} {q0 n t : Nat} (h : Prog s q0 n) (hp : PH s1) (hQ : s1.Q = s.Q) (hh : ∀ i, i < n → hOf s1.C i = hOf s.C i) (he : s1.inE (n : Int) 2 t = 0) : Prog { s1.put (n : Int) true t with E := [] } q0 (n + 1) := by
 obtain ⟨h1, h2⟩ := put_q hp he
 by_cases e : s1.Q = []
 ·obtain ⟨h3, h4⟩ := h2 e
  rcases h with h | ⟨h5, h6⟩
  ·left
   show (s1.put (n : Int) true t).Q.length < q0
   rw [h3]; have : 0 ≤ s.Q.length := Nat.zero_le _; simp; omega
  ·right
   refine ⟨?_, fun i hi => ?_⟩
   ·show (s1.put (n : Int) true t).Q.length = q0
    rw [h3, ← h5, ← hQ, e]
   ·show hOf (s1.put (n : Int) true t).C i = 0
    rw [h4]
    by_cases e2 : i = n
    ·rw [e2, updH_at]
    ·rw [updH_ne _ _ e2, hh i (by omega)]; exact h6 i (by omega)
 ·left
  have := h1 e
  show (s1.put (n : Int) true t).Q.length < q0
  rw [hQ] at this
  rcases h with h | ⟨h5, _⟩ <;> omega
theorem ph_new {op most keep : Nat} (h1 : 1 ≤ op ∧ op ≤ 64) (h2 : most ≤ 64) : PH (PS.new op most keep) := by
 have e : ∀ t : Int, t ≠ 0 → cn t (PS.new op most keep).C = 0 := fun t ht => List.countP_eq_zero.2 fun x hx => by
  rw [List.eq_of_mem_replicate hx]
  simp only [decide_eq_true_eq]
  exact fun e => ht e.symm
 exact ⟨by simp [PS.new], fun x hx => by rw [List.eq_of_mem_replicate hx]; exact b0_, by rw [e 1 (by decide), e 2 (by decide), e 3 (by decide)]; exact Nat.zero_le _, by rw [e 3 (by decide)]; exact Nat.zero_le _, .inl rfl, h1.2⟩
theorem wt_new (op most keep : Nat) : wt (PS.new op most keep) = 0 := by
 have e : ∀ t : Int, t ≠ 0 → cn t (PS.new op most keep).C = 0 := fun t ht => List.countP_eq_zero.2 fun x hx => by
  rw [List.eq_of_mem_replicate hx]
  simp only [decide_eq_true_eq]
  exact fun e => ht e.symm
 unfold wt
 rw [e 1 (by decide), e 2 (by decide), e 3 (by decide)]; rfl
theorem Prog.le {s : PS} {q0 n : Nat} (h : Prog s q0 n) : s.Q.length ≤ q0 := by rcases h with h | ⟨h, _⟩ <;> omega
def PS.pend (s : PS) : List Int := (s.E.filter (fun e => decide (e.k ≠ 5))).map (·.who) ++ s.Q.map (·.who)
def PS.kok (s : PS) : Prop := ∀ e ∈ s.E, e.k = 1 ∨ e.k = 2 ∨ e.k = 4 ∨ e.k = 5
structure OpD (s s' : PS) : Prop where
 pend : s'.pend.Perm s.pend
 kok : s.kok → s'.kok
 sub : ∀ e ∈ s.E, e ∈ s'.E
 dl : ∀ (c : Nat) (x : Cn), s'.C[c]? = some x → x.st = 1 → s.C[c]? = some x ∨ (⟨2, x.who, (c : Int)⟩ : Pv) ∈ s'.E
theorem OpD.refl (s : PS) : OpD s s := ⟨List.Perm.refl _, id, fun _ h => h, fun _ _ h _ => .inl h⟩
theorem OpD.trans {a b c : PS} (h1 : OpD a b) (h2 : OpD b c) : OpD a c := by
 refine ⟨h2.pend.trans h1.pend, fun h => h2.kok (h1.kok h), fun e h => h2.sub e (h1.sub e h), fun i x hx hs => ?_⟩
 rcases h2.dl i x hx hs with h | h
 ·rcases h1.dl i x h hs with h | h
  ·exact .inl h
  ·exact .inr (h2.sub _ h)
 ·exact .inr h
theorem opd_at (s : PS) (now : Nat) : OpD s (s.at_ now) := ⟨List.Perm.refl _, id, fun _ h => h, fun _ _ h _ => .inl h⟩
theorem opd_set (s : PS) (i : Nat) {y : Cn} (hy : y.st ≠ 1) : OpD s (s.set i y) := by
 refine ⟨List.Perm.refl _, id, fun _ h => h, fun c x hx hs => ?_⟩
 have hx : (s.C.set i y)[c]? = some x := hx
 by_cases e : i = c
 ·subst e
  have hl : i < s.C.length := by have := (List.getElem?_eq_some_iff.1 hx).1; rwa [List.length_set] at this
  rw [List.getElem?_set_self hl] at hx
  rw [← Option.some.inj hx] at hs
  exact absurd hs hy
 ·rw [List.getElem?_set_ne e] at hx; exact .inl hx
theorem opd_tell5 (s : PS) (c : Int) : OpD s (s.tell 5 (-1) c) := by
 refine ⟨?_, fun h e he => ?_, fun e he => List.mem_append_left _ he, fun _ _ h _ => .inl h⟩
 ·show (((s.E ++ [_]).filter _).map _ ++ s.Q.map _).Perm _
  rw [List.filter_append, List.filter_cons_of_neg (by simp), List.filter_nil, List.append_nil]; exact List.Perm.refl _
 ·rcases List.mem_append.1 he with he | he
  ·exact h e he
  ·rw [List.mem_singleton.1 he]; exact .inr (.inr (.inr rfl))
theorem pend_tell (s : PS) {k who c : Int} (hk : k ≠ 5) : (s.tell k who c).pend = (s.E.filter (fun e => decide (e.k ≠ 5))).map (·.who) ++ (who :: s.Q.map (·.who)) := by
 show (((s.E ++ [_]).filter _).map _ ++ s.Q.map _) = _
 rw [List.filter_append, List.filter_cons_of_pos (by simpa using hk), List.filter_nil, List.map_append, List.append_assoc]; rfl
theorem opd_popT (s : PS) {a : Qp} {r : List Qp} (hQ : s.Q = a :: r) (c : Int) : OpD s ((s.pop).tell 1 a.who c) := by
 refine ⟨?_, fun h e he => ?_, fun e he => List.mem_append_left _ he, fun _ _ h _ => .inl h⟩
 ·rw [pend_tell _ (by decide)]
  show (_ ++ a.who :: (s.Q.drop 1).map _ : List Int).Perm ((s.E.filter _).map _ ++ s.Q.map _)
  rw [hQ]; exact List.Perm.refl _
 ·rcases List.mem_append.1 he with he | he
  ·exact h e he
  ·rw [List.mem_singleton.1 he]; exact .inl rfl
theorem opd_next (s : PS) : OpD s s.next := by
 cases hQ : s.Q with
 | nil => rw [PS.next_nil hQ]; exact OpD.refl s
 | cons a r =>
  by_cases hr : s.room = true
  ·rw [PS.next_ok hQ hr]
   refine ⟨?_, fun h e he => ?_, fun e he => List.mem_append_left _ he, fun c x hx hs => ?_⟩
   ·rw [pend_tell _ (by decide)]
    show (_ ++ a.who :: (s.Q.drop 1).map _ : List Int).Perm ((s.E.filter _).map _ ++ s.Q.map _)
    rw [hQ]; exact List.Perm.refl _
   ·rcases List.mem_append.1 he with he | he
    ·exact h e he
    ·rw [List.mem_singleton.1 he]; exact .inr (.inl rfl)
   ·have hx : (s.C.set s.free ⟨1, a.who, 0⟩)[c]? = some x := hx
    by_cases e : s.free = c
    ·subst e
     have hl : s.free < s.C.length := by have := (List.getElem?_eq_some_iff.1 hx).1; rwa [List.length_set] at this
     rw [List.getElem?_set_self hl] at hx
     right
     rw [← Option.some.inj hx]
     exact List.mem_append_right _ (List.mem_singleton.2 rfl)
    ·rw [List.getElem?_set_ne e] at hx; exact .inl hx
  ·have : s.next = s := by unfold PS.next; rw [hQ]; dsimp only; rw [if_neg hr]
   rw [this]; exact OpD.refl s
theorem opd_lose (s : PS) (c : Nat) : OpD s (s.lose c) := (opd_set s c (y := ⟨0, 0, 0⟩) (by decide)).trans (opd_next _)
theorem opd_shut (s : PS) (c : Int) : OpD s (s.shut c) := (opd_tell5 s c).trans (opd_lose _ _)
theorem opd_shuts : ∀ (l : List Int) (s : PS), OpD s (l.foldl PS.shut s)
 | [], s => OpD.refl s
 | a :: r, s => (opd_shut s a).trans (opd_shuts r _)
theorem opd_tmo (s : PS) {x : Qp} (hx : x ∈ s.Q) (hn : (s.Q.map (·.who)).Nodup) : OpD s (s.tmo x) := by
 obtain ⟨A, B, hQ⟩ := List.append_of_mem hx
 have hl := leave_eq hQ hn
 refine ⟨?_, fun h e he => ?_, fun e he => List.mem_append_left _ he, fun _ _ h _ => .inl h⟩
 ·unfold PS.tmo
  rw [pend_tell _ (by decide), hl]
  show (_ ++ x.who :: (A ++ B).map _ : List Int).Perm ((s.E.filter _).map _ ++ s.Q.map _)
  rw [hQ]
  refine List.Perm.append_left _ ?_
  rw [List.map_append, List.map_append, List.map_cons]
  exact List.perm_middle.symm
 ·rcases List.mem_append.1 he with he | he
  ·exact h e he
  ·rw [List.mem_singleton.1 he]; exact .inr (.inr (.inl rfl))
theorem opd_tmos : ∀ (l : List Qp) (s : PS), (l.map (·.who)).Nodup → (∀ x ∈ l, x ∈ s.Q) → (s.Q.map (·.who)).Nodup → OpD s (l.foldl PS.tmo s)
 | [], s, _, _, _ => OpD.refl s
 | x :: r, s, h1, h2, h3 => by
  rw [List.map_cons, List.nodup_cons] at h1
  refine (opd_tmo s (h2 x (List.mem_cons_self ..)) h3).trans (opd_tmos r (s.tmo x) h1.2 (fun y hy => ?_) ?_)
  ·show y ∈ s.Q.filter _
   exact List.mem_filter.2 ⟨h2 y (List.mem_cons_of_mem _ hy), decide_eq_true fun e => h1.1 (by rw [← e]; exact List.mem_map_of_mem hy)⟩
  ·show ((s.Q.filter _).map _).Nodup
   exact h3.sublist ((List.filter_sublist ..).map _)
theorem opd_adv {s : PS} (hn : (s.Q.map (·.who)).Nodup) (now : Nat) : OpD s (s.advance now) := by
 by_cases h : s.may true now = 0
 ·rw [adv_ok h]
  exact ((opd_at s now).trans (opd_tmos (s.late now) (s.at_ now) (late_nodup hn now) (fun x hx => (late_mem hx).1) hn)).trans (opd_shuts _ _)
 ·rw [adv_no h]; exact OpD.refl s
theorem opd_dialed (s : PS) (c : Int) (made : Bool) (now : Nat) : OpD s (s.dialed c made now) := by
 unfold PS.dialed
 split
 ·exact OpD.refl s
 ·split
  ·exact (opd_at s now).trans (opd_set _ _ (by decide))
  ·exact (opd_at s now).trans (opd_lose _ _)
theorem opd_put (s : PS) (c : Int) (good : Bool) (now : Nat) : OpD s (s.put c good now) := by
 by_cases h : s.inE c 2 now = 0
 ·obtain ⟨k, x, rfl, _⟩ := inE_zero h
  cases good with
  | false => rw [put_bad h]; exact ((opd_at s now).trans (opd_tell5 _ _)).trans (opd_lose _ _)
  | true =>
   cases hQ : s.Q with
   | cons a r => rw [put_use h hQ]; exact (opd_at s now).trans (opd_popT (s.at_ now) hQ _)
   | nil =>
    by_cases hl : (allI 3 s.C).length < s.most
    ·rw [put_idle h hQ hl]; exact (opd_at s now).trans (opd_set _ _ (by show (3 : Int) ≠ 1; decide))
    ·rw [put_over h hQ hl]; exact ((opd_at s now).trans (opd_tell5 _ _)).trans (opd_lose _ _)
 ·rw [put_no h]; exact OpD.refl s
theorem pend_nx5 {s : PS} {e : Pv} {r : List Pv} (hE : s.E = e :: r) (h5 : e.k = 5) : s.nx.pend = s.pend := by
 unfold PS.pend PS.nx
 rw [hE, List.filter_cons_of_neg (by simp [h5])]; rfl
theorem pend_nx {s : PS} {e : Pv} {r : List Pv} (hE : s.E = e :: r) (h5 : e.k ≠ 5) : s.pend = e.who :: s.nx.pend := by
 unfold PS.pend PS.nx
 rw [hE, List.filter_cons_of_pos (by simpa using h5)]; rfl
structure PoIn (S : List Ss) (now i : Nat) (s : PS) : Prop where
 ph : PH s
 nw : s.now ≤ now
 nd : s.pend.Nodup
 ks : s.kok
 wt : ∀ w ∈ s.pend, ∃ y ∈ S, y.num = w ∧ y.st = 2 ∧ y.be = (i : Int)
 dl : ∀ (c : Nat) (x : Cn), s.C[c]? = some x → x.st = 1 → (∃ y ∈ S, y.num = x.who ∧ y.st = 3 ∧ y.be = (i : Int) ∧ y.cn = (c : Int)) ∨ (⟨2, x.who, (c : Int)⟩ : Pv) ∈ s.E
theorem PoIn.op {S : List Ss} {now i : Nat} {s s' : PS} (h : PoIn S now i s) (o : OpD s s') (hp : PH s') (hn : s'.now ≤ now) : PoIn S now i s' := by
 refine ⟨hp, hn, o.pend.nodup_iff.2 h.nd, o.kok h.ks, fun w hw => h.wt w (o.pend.mem_iff.1 hw), fun c x hx hs => ?_⟩
 rcases o.dl c x hx hs with h1 | h1
 ·rcases h.dl c x h1 hs with h2 | h2
  ·exact .inl h2
  ·exact .inr (o.sub _ h2)
 ·exact .inr h1
theorem uniq_num {S : List Ss} (hn : (S.map (·.num)).Nodup) {a b : Ss} (ha : a ∈ S) (hb : b ∈ S) (e : a.num = b.num) : a = b := by
 induction S with
 | nil => cases ha
 | cons x r ih =>
  rw [List.map_cons, List.nodup_cons] at hn
  rcases List.mem_cons.1 ha with ha1 | ha
  ·rcases List.mem_cons.1 hb with hb1 | hb
   ·rw [ha1, hb1]
   ·exact absurd (by rw [← ha1, e]; exact List.mem_map_of_mem hb) hn.1
  ·rcases List.mem_cons.1 hb with hb1 | hb
   ·exact absurd (by rw [← hb1, ← e]; exact List.mem_map_of_mem ha) hn.1
   ·exact ih hn.2 ha hb
def OnlyAt (n : Int) (S S' : List Ss) : Prop := ∀ y ∈ S, y.num ≠ n → y ∈ S'
theorem PoIn.chg {S S' : List Ss} {now i : Nat} {s : PS} (h : PoIn S now i s) {n : Int} (ho : OnlyAt n S S') (hp : n ∉ s.pend)
  (hd : ∀ (c : Nat) (x : Cn), s.C[c]? = some x → x.st = 1 → x.who = n → (∃ y ∈ S', y.num = x.who ∧ y.st = 3 ∧ y.be = (i : Int) ∧ y.cn = (c : Int)) ∨ (⟨2, x.who, (c : Int)⟩ : Pv) ∈ s.E) : PoIn S' now i s := by
 refine ⟨h.ph, h.nw, h.nd, h.ks, fun w hw => ?_, fun c x hx hs => ?_⟩
 ·obtain ⟨y, hy, e, r⟩ := h.wt w hw
  exact ⟨y, ho y hy (fun q => hp (by rw [← q, e]; exact hw)), e, r⟩
 ·by_cases e : x.who = n
  ·exact hd c x hx hs e
  ·rcases h.dl c x hx hs with ⟨y, hy, e2, r⟩ | h2
   ·exact .inl ⟨y, ho y hy (by rw [e2]; exact e), e2, r⟩
   ·exact .inr h2
theorem ev_pend {s : PS} {w c : Int} (h : (⟨2, w, c⟩ : Pv) ∈ s.E) : w ∈ s.pend :=
 List.mem_append_left _ (List.mem_map_of_mem (f := fun e : Pv => e.who) (List.mem_filter.2 ⟨h, decide_eq_true (by show (2 : Int) ≠ 5; decide)⟩))
structure PXG (x : PX) : Prop where
 bl : x.b.last ≤ x.now
 nd : (x.S.map (·.num)).Nodup
 ks : ∀ s ∈ x.S, s.key.size ≤ 64 ∧ s.tr ≤ 100
 bk : ∀ s ∈ x.S, s.st = 2 ∨ s.st = 3 ∨ s.st = 4 → ∃ j : Nat, s.be = (j : Int) ∧ j < x.P.length
 po : ∀ (i : Nat) (si : PS), x.P[i]? = some si → PoIn x.S x.now i si
theorem find_num {S : List Ss} (hn : (S.map (·.num)).Nodup) {s : Ss} (hs : s ∈ S) : S.find? (fun y => decide (y.num = s.num)) = some s := by
 cases h : S.find? (fun y => decide (y.num = s.num)) with
 | none => have := List.find?_eq_none.1 h s hs; simp at this
 | some y => have h1 := List.find?_some h; simp only [decide_eq_true_eq] at h1; rw [uniq_num hn (List.mem_of_find?_eq_some h) hs h1]
theorem filt_num {S A B : List Ss} {s : Ss} (hS : S = A ++ s :: B) (hn : (S.map (·.num)).Nodup) : S.filter (fun y => decide (y.num ≠ s.num)) = A ++ B := by
 subst hS
 have hx : ∀ y ∈ A ++ B, y.num ≠ s.num := fun y hy e => by
  have h1 := ((List.perm_middle (l₁ := A) (a := s) (l₂ := B)).map (fun y : Ss => y.num)).nodup_iff.1 hn
  rw [List.map_cons, List.nodup_cons] at h1
  exact h1.1 (by rw [← e]; exact List.mem_map_of_mem hy)
 rw [List.filter_append, List.filter_cons_of_neg (by simp), ← List.filter_append, List.filter_eq_self.2 (fun y hy => decide_eq_true (hx y hy))]
theorem num_split {S A B : List Ss} {s : Ss} (hS : S = A ++ s :: B) (hn : (S.map (·.num)).Nodup) : ∀ y ∈ A ++ B, y.num ≠ s.num := fun y hy e => by
 subst hS
 have h1 := ((List.perm_middle (l₁ := A) (a := s) (l₂ := B)).map (fun y : Ss => y.num)).nodup_iff.1 hn
 rw [List.map_cons, List.nodup_cons] at h1
 exact h1.1 (by rw [← e]; exact List.mem_map_of_mem hy)
theorem onlyAt_swap {A B : List Ss} {s : Ss} (s' : Ss) : OnlyAt s.num (A ++ s :: B) (A ++ s' :: B) := fun y hy hn => by
 rcases List.mem_append.1 hy with h | h
 ·exact List.mem_append_left _ h
 ·rcases List.mem_cons.1 h with rfl | h
  ·exact absurd rfl hn
  ·exact List.mem_append_right _ (List.mem_cons_of_mem _ h)
theorem onlyAt_drop {A B : List Ss} {s : Ss} : OnlyAt s.num (A ++ s :: B) (A ++ B) := fun y hy hn => by
 rcases List.mem_append.1 hy with h | h
 ·exact List.mem_append_left _ h
 ·rcases List.mem_cons.1 h with rfl | h
  ·exact absurd rfl hn
  ·exact List.mem_append_right _ h
theorem mem_swap {A B : List Ss} {s : Ss} {p : Ss → Prop} (h : ∀ y ∈ A ++ s :: B, p y) (s' : Ss) (hs : p s') : ∀ y ∈ A ++ s' :: B, p y := fun y hy => by
 rcases List.mem_append.1 hy with h1 | h1
 ·exact h y (List.mem_append_left _ h1)
 ·rcases List.mem_cons.1 h1 with rfl | h1
  ·exact hs
  ·exact h y (List.mem_append_right _ (List.mem_cons_of_mem _ h1))
theorem mem_drop {A B : List Ss} {s : Ss} {p : Ss → Prop} (h : ∀ y ∈ A ++ s :: B, p y) : ∀ y ∈ A ++ B, p y := fun y hy => by
 rcases List.mem_append.1 hy with h1 | h1
 ·exact h y (List.mem_append_left _ h1)
 ·exact h y (List.mem_append_right _ (List.mem_cons_of_mem _ h1))
theorem nums_swap {A B : List Ss} {s s' : Ss} (h : s'.num = s.num) : (A ++ s' :: B).map (·.num) = (A ++ s :: B).map (·.num) := by rw [List.map_append, List.map_cons, List.map_append, List.map_cons, h]
theorem nums_drop {A B : List Ss} {s : Ss} (hn : ((A ++ s :: B).map (·.num)).Nodup) : ((A ++ B).map (·.num)).Nodup := by
 have h1 := ((List.perm_middle (l₁ := A) (a := s) (l₂ := B)).map (fun y : Ss => y.num)).nodup_iff.1 hn
 rw [List.map_cons, List.nodup_cons] at h1
 exact h1.2
theorem PXG.swap {x x2 : PX} (h : PXG x) {A B : List Ss} {s s' : Ss} (hS : x.S = A ++ s :: B) (hS2 : x2.S = A ++ s' :: B) (hn : s'.num = s.num) (hk : s'.key.size ≤ 64 ∧ s'.tr ≤ 100)
  (hb : s'.st = 2 ∨ s'.st = 3 ∨ s'.st = 4 → ∃ j : Nat, s'.be = (j : Int) ∧ j < x.P.length) (hl : x2.b.last ≤ x2.now) (hP : x2.P.length = x.P.length) (hpo : ∀ (i : Nat) (si : PS), x2.P[i]? = some si → PoIn x2.S x2.now i si) : PXG x2 := by
 have h1 := h.nd; have h2 := h.ks; have h3 := h.bk
 rw [hS] at h1 h2 h3
 refine ⟨hl, by rw [hS2, nums_swap hn]; exact h1, by rw [hS2]; exact mem_swap h2 s' hk, ?_, hpo⟩
 rw [hS2, hP]; exact mem_swap h3 s' hb
theorem PXG.drop {x x2 : PX} (h : PXG x) {A B : List Ss} {s : Ss} (hS : x.S = A ++ s :: B) (hS2 : x2.S = A ++ B) (hl : x2.b.last ≤ x2.now) (hP : x2.P.length = x.P.length) (hpo : ∀ (i : Nat) (si : PS), x2.P[i]? = some si → PoIn x2.S x2.now i si) : PXG x2 := by
 have h1 := h.nd; have h2 := h.ks; have h3 := h.bk
 rw [hS] at h1 h2 h3
 refine ⟨hl, by rw [hS2]; exact nums_drop h1, by rw [hS2]; exact mem_drop h2, ?_, hpo⟩
 rw [hS2, hP]; exact mem_drop h3
theorem PoIn.other {S S' : List Ss} {now i j : Nat} {sj : PS} {s : Ss} (h : PoIn S now j sj) (hn : (S.map (·.num)).Nodup) (hs : s ∈ S) (hst : s.st = 2) (hbe : s.be = (i : Int)) (hij : j ≠ i) (ho : OnlyAt s.num S S') : PoIn S' now j sj := by
 have hp : s.num ∉ sj.pend := fun e => by
  obtain ⟨y, hy, e1, _, e2⟩ := h.wt _ e
  rw [uniq_num hn hy hs e1, hbe] at e2
  omega
 refine h.chg ho hp fun c x hx hs1 hw => ?_
 rcases h.dl c x hx hs1 with ⟨y, hy, e1, e2, _⟩ | e
 ·rw [uniq_num hn hy hs (e1.trans hw), hst] at e2
  exact absurd e2 (by decide)
 ·exact absurd (by rw [← hw]; exact ev_pend e) hp
theorem PoIn.told {S S' : List Ss} {now i : Nat} {si : PS} {s : Ss} {e : Pv} {r : List Pv} (h : PoIn S now i si) (hn : (S.map (·.num)).Nodup) (hs : s ∈ S) (hst : s.st = 2) (hE : si.E = e :: r) (h5 : e.k ≠ 5) (hw : e.who = s.num) (ho : OnlyAt s.num S S')
  (hd : e.k = 2 → ∃ y ∈ S', y.num = s.num ∧ y.st = 3 ∧ y.be = (i : Int) ∧ y.cn = e.c) : PoIn S' now i si.nx := by
 have hp := pend_nx hE h5
 have hnd := h.nd
 rw [hp, List.nodup_cons] at hnd
 have hEn : si.nx.E = r := by unfold PS.nx; rw [hE]; rfl
 refine ⟨h.ph.dry _, h.nw, hnd.2, fun q hq => h.ks q (by rw [hE]; rw [hEn] at hq; exact List.mem_cons_of_mem _ hq), fun w hw2 => ?_, fun c x hx hs1 => ?_⟩
 ·obtain ⟨y, hy, e1, e2⟩ := h.wt w (by rw [hp]; exact List.mem_cons_of_mem _ hw2)
  exact ⟨y, ho y hy (fun q => hnd.1 (by rw [hw, ← q, e1]; exact hw2)), e1, e2⟩
 ·rcases h.dl c x hx hs1 with ⟨y, hy, e1, e2, e3⟩ | q
  ·by_cases e9 : y.num = s.num
   ·rw [uniq_num hn hy hs e9, hst] at e2
    exact absurd e2 (by decide)
   ·exact .inl ⟨y, ho y hy e9, e1, e2, e3⟩
  ·rw [hE] at q
   rcases List.mem_cons.1 q with q | q
   ·left
    have q1 : e.k = 2 := by rw [← q]
    have q2 : e.who = x.who := by rw [← q]
    have q3 : e.c = (c : Int) := by rw [← q]
    obtain ⟨y, hy, e1, e2, e3, e4⟩ := hd q1
    exact ⟨y, hy, by rw [e1, ← hw, q2], e2, e3, by rw [e4, q3]⟩
   ·right; rw [hEn]; exact q
theorem PoIn.nx5 {S : List Ss} {now i : Nat} {si : PS} {e : Pv} {r : List Pv} (h : PoIn S now i si) (hE : si.E = e :: r) (h5 : e.k = 5) : PoIn S now i si.nx := by
 have hEn : si.nx.E = r := by unfold PS.nx; rw [hE]; rfl
 refine ⟨h.ph.dry _, h.nw, by rw [pend_nx5 hE h5]; exact h.nd, fun q hq => h.ks q (by rw [hE]; rw [hEn] at hq; exact List.mem_cons_of_mem _ hq), fun w hw2 => h.wt w (by rw [← pend_nx5 hE h5]; exact hw2), fun c x hx hs1 => ?_⟩
 rcases h.dl c x hx hs1 with q | q
 ·exact .inl q
 ·rw [hE] at q
  rcases List.mem_cons.1 q with q | q
  ·exact absurd h5 (by rw [← q]; show (2 : Int) ≠ 5; decide)
  ·right; rw [hEn]; exact q
theorem doneX_last (b : BS) (now : Nat) (n : Int) (good : Bool) (h : b.last ≤ now) : (b.doneX now n good).last ≤ now := by
 unfold BS.doneX; split
 ·exact Nat.le_refl _
 ·exact h
theorem doneX_len (b : BS) (now : Nat) (n : Int) (good : Bool) : (b.doneX now n good).V.length = b.V.length := by
 unfold BS.doneX; split
 ·show ((doneS _ _ _ _ _).map vw).length = _
  rw [List.length_map, doneS_len, un_len]
 ·rfl
theorem po_set {P : List PS} {i : Nat} {si s' : PS} (hi : P[i]? = some si) {Q : Nat → PS → Prop} (h1 : Q i s') (h2 : ∀ (j : Nat) (sj : PS), j ≠ i → P[j]? = some sj → Q j sj) : ∀ (j : Nat) (sj : PS), (P.set i s')[j]? = some sj → Q j sj := fun j sj hj => by
 by_cases e : i = j
 ·subst e
  rw [List.getElem?_set_self (List.getElem?_eq_some_iff.1 hi).1] at hj
  rw [← Option.some.inj hj]; exact h1
 ·rw [List.getElem?_set_ne e] at hj
  exact h2 j sj (fun q => e q.symm) hj
abbrev PX.nxP (x : PX) (i : Nat) (si : PS) : PX := { x with P := x.P.set i si.nx }
theorem drE_5 {x : PX} {i : Nat} {e : Pv} (h : e.k = 5) : x.drE i e = x.tell ⟨4, -1, (i : Int), e.c, 0⟩ := by unfold PX.drE; rw [if_pos h]
theorem drE_1 {x : PX} {i : Nat} {e : Pv} (hn : (x.S.map (·.num)).Nodup) {A B : List Ss} {s : Ss} (hS : x.S = A ++ s :: B) (hw : e.who = s.num) (h : e.k = 1) : x.drE i e = { x.tell ⟨1, s.num, s.be, e.c, 0⟩ with S := A ++ { s with st := 4, cn := e.c } :: B } := by
 unfold PX.drE
 rw [if_neg (by rw [h]; decide), hw, find_num hn (by rw [hS]; exact List.mem_append_right _ (List.mem_cons_self ..))]
 dsimp only
 rw [if_pos h, updS_at hS hn]
theorem drE_2 {x : PX} {i : Nat} {e : Pv} (hn : (x.S.map (·.num)).Nodup) {A B : List Ss} {s : Ss} (hS : x.S = A ++ s :: B) (hw : e.who = s.num) (h : e.k = 2) : x.drE i e = { x.tell ⟨2, s.num, s.be, e.c, 0⟩ with S := A ++ { s with st := 3, cn := e.c } :: B } := by
 unfold PX.drE
 rw [if_neg (by rw [h]; decide), hw, find_num hn (by rw [hS]; exact List.mem_append_right _ (List.mem_cons_self ..))]
 dsimp only
 rw [if_neg (by rw [h]; decide), if_pos h, updS_at hS hn]
theorem drE_4 {x : PX} {i : Nat} {e : Pv} (hn : (x.S.map (·.num)).Nodup) {A B : List Ss} {s : Ss} (hS : x.S = A ++ s :: B) (hw : e.who = s.num) (h : e.k = 4) : x.drE i e = { x.tell ⟨3, s.num, -1, -1, 12⟩ with b := x.b.doneX x.now s.cal true, S := A ++ B } := by
 unfold PX.drE
 rw [if_neg (by rw [h]; decide), hw, find_num hn (by rw [hS]; exact List.mem_append_right _ (List.mem_cons_self ..))]
 dsimp only
 rw [if_neg (by rw [h]; decide), if_neg (by rw [h]; decide), if_pos h, filt_num hS hn]
theorem drE_ok {x : PX} {i : Nat} {si : PS} {e : Pv} {r : List Pv} (h : PXG x) (hi : x.P[i]? = some si) (hE : si.E = e :: r) :
  (e.k = 5 ∨ ((e.k = 1 ∨ e.k = 2 ∨ e.k = 4) ∧ ∃ A s B, x.S = A ++ s :: B ∧ s.num = e.who ∧ s.st = 2 ∧ s.be = (i : Int))) ∧ PXG ((x.nxP i si).drE i e) := by
 have hp := h.po i si hi
 have hk := hp.ks e (by rw [hE]; exact List.mem_cons_self ..)
 have hil := (List.getElem?_eq_some_iff.1 hi).1
 have hlen : (x.P.set i si.nx).length = x.P.length := List.length_set ..
 by_cases h5 : e.k = 5
 ·refine ⟨.inl h5, ?_⟩
  rw [drE_5 h5]
  exact ⟨h.bl, h.nd, h.ks, by show ∀ s ∈ x.S, _ → ∃ j : Nat, _ ∧ j < (x.P.set i si.nx).length; rw [hlen]; exact h.bk, po_set hi (hp.nx5 hE h5) fun j sj _ hj => h.po j sj hj⟩
 ·have hk3 : e.k = 1 ∨ e.k = 2 ∨ e.k = 4 := by rcases hk with q | q | q | q; exact .inl q; exact .inr (.inl q); exact .inr (.inr q); exact absurd q h5
  obtain ⟨s, hs, e1, e2, e3⟩ := hp.wt e.who (by rw [pend_nx hE h5]; exact List.mem_cons_self ..)
  obtain ⟨A, B, hS⟩ := List.append_of_mem hs
  refine ⟨.inr ⟨hk3, A, s, B, hS, e1, e2, e3⟩, ?_⟩
  have hn := h.nd
  have hks := h.ks s hs
  have hoth : ∀ S', OnlyAt s.num x.S S' → ∀ (j : Nat) (sj : PS), j ≠ i → x.P[j]? = some sj → PoIn S' x.now j sj := fun S' ho j sj hj hpj => (h.po j sj hpj).other hn hs e2 e3 hj ho
  rcases hk3 with q | q | q
  ·rw [drE_1 (x := x.nxP i si) hn hS e1.symm q]
   refine h.swap hS rfl rfl hks (fun _ => ⟨i, e3, hil⟩) h.bl hlen (po_set hi (hp.told hn hs e2 hE h5 e1.symm (by rw [hS]; exact onlyAt_swap _) fun q2 => absurd q2 (by rw [q]; decide)) (hoth _ (by rw [hS]; exact onlyAt_swap _)))
  ·rw [drE_2 (x := x.nxP i si) hn hS e1.symm q]
   refine h.swap hS rfl rfl hks (fun _ => ⟨i, e3, hil⟩) h.bl hlen (po_set hi (hp.told hn hs e2 hE h5 e1.symm (by rw [hS]; exact onlyAt_swap _) fun _ => ⟨_, List.mem_append_right _ (List.mem_cons_self ..), rfl, rfl, e3, rfl⟩) (hoth _ (by rw [hS]; exact onlyAt_swap _)))
  ·rw [drE_4 (x := x.nxP i si) hn hS e1.symm q]
   refine h.drop hS rfl (doneX_last _ _ _ _ h.bl) hlen (po_set hi (hp.told hn hs e2 hE h5 e1.symm (by rw [hS]; exact onlyAt_drop) fun q2 => absurd q2 (by rw [q]; decide)) (hoth _ (by rw [hS]; exact onlyAt_drop)))
def PX.drainL (i : Nat) : Nat → PX → PX
 | 0, x => x
 | n + 1, x => match x.P[i]? with
  | none => x
  | some si => match si.E with
   | [] => x
   | e :: _ => PX.drainL i n ((x.nxP i si).drE i e)
def PX.drain (x : PX) (i : Nat) : PX := match x.P[i]? with
 | none => x
 | some si => PX.drainL i si.E.length x
theorem drE_P (i : Nat) (x : PX) (e : Pv) : (x.drE i e).P = x.P ∧ (x.drE i e).now = x.now ∧ (x.drE i e).pl = x.pl := by
 unfold PX.drE
 split
 ·exact ⟨rfl, rfl, rfl⟩
 ·split
  ·exact ⟨rfl, rfl, rfl⟩
  ·split
   ·exact ⟨rfl, rfl, rfl⟩
   ·split
    ·exact ⟨rfl, rfl, rfl⟩
    ·split
     ·exact ⟨rfl, rfl, rfl⟩
     ·exact ⟨rfl, rfl, rfl⟩
theorem drain_nil {x : PX} {i : Nat} {si : PS} (hi : x.P[i]? = some si) (hE : si.E = []) : x.drain i = x := by unfold PX.drain; rw [hi]; dsimp only; rw [hE]; rfl
theorem drain_cons {x : PX} {i : Nat} {si : PS} {e : Pv} {r : List Pv} (hi : x.P[i]? = some si) (hE : si.E = e :: r) : x.drain i = ((x.nxP i si).drE i e).drain i := by
 have hil := (List.getElem?_eq_some_iff.1 hi).1
 have h1 : ((x.nxP i si).drE i e).P[i]? = some si.nx := by rw [(drE_P i _ e).1]; exact List.getElem?_set_self hil
 have hEn : si.nx.E = r := by unfold PS.nx; rw [hE]; rfl
 unfold PX.drain
 rw [hi, h1]
 dsimp only
 rw [hE, hEn, List.length_cons, PX.drainL, hi]
 dsimp only
 rw [hE]
theorem hp_P (T S B P : Heap) : (T ++ (S ++ (B ++ P))).Perm (P ++ (T ++ (S ++ B))) := by
 rw [← List.append_assoc S B P, ← List.append_assoc T (S ++ B) P]
 exact List.perm_append_comm
theorem hp_B (T S B P : Heap) : (T ++ (S ++ (B ++ P))).Perm (B ++ (T ++ (S ++ P))) := by
 have h1 : (T ++ (S ++ (B ++ P))).Perm (T ++ (B ++ (S ++ P))) := List.Perm.append_left T (by
  rw [← List.append_assoc S B P, ← List.append_assoc B S P]
  exact List.Perm.append_right P List.perm_append_comm)
 refine h1.trans ?_
 rw [← List.append_assoc T B, ← List.append_assoc B T]
 exact List.Perm.append_right _ List.perm_append_comm
structure XKeep (m m' : XM) : Prop where
 p : m'.p = m.p
 ob : m'.ob = m.ob
 oc : m'.oc = m.oc
 otl : m'.otl = m.otl
 pm : m'.pm.flatMap (fun q => [ptrP q.p]) = m.pm.flatMap (fun q => [ptrP q.p])
 bp : m'.bm.p = m.bm.p
theorem XKeep.refl (m : XM) : XKeep m m := ⟨rfl, rfl, rfl, rfl, rfl, rfl⟩
theorem XKeep.trans {a b c : XM} (h1 : XKeep a b) (h2 : XKeep b c) : XKeep a c := ⟨h2.p.trans h1.p, h2.ob.trans h1.ob, h2.oc.trans h1.oc, h2.otl.trans h1.otl, h2.pm.trans h1.pm, h2.bp.trans h1.bp⟩
theorem PXIs.pool {N : Nat} {m : XM} {x : PX} (h : PXIs N m x) {i : Nat} {mi m' : PM} {s' : PS} (hmi : m.pm[i]? = some mi) (hp : m'.p = mi.p) (hi : PIs m' s') : PXIs N { m with pm := m.pm.set i m' } { x with P := x.P.set i s' } where
 bal := h.bal
 len := by show (m.pm.set _ _).length = (x.P.set _ _).length; rw [List.length_set, List.length_set]; exact h.len
 po := fun j a b h1 h2 => by
  have h1 : (m.pm.set i m')[j]? = some a := h1
  have h2 : (x.P.set i s')[j]? = some b := h2
  by_cases e : i = j
  ·subst e
   have hl := (List.getElem?_eq_some_iff.1 hmi).1
   rw [List.getElem?_set_self hl] at h1
   rw [List.getElem?_set_self (by rw [← h.len]; exact hl)] at h2
   rw [← Option.some.inj h1, ← Option.some.inj h2]; exact hi
  ·rw [List.getElem?_set_ne e] at h1 h2
   exact h.po j a b h1 h2
 oq := by
  show Own m.ob (x.P.set _ _).length m.oc 1 ((m.pm.set i m').flatMap (fun q => [ptrP q.p])) m.otl
  rw [List.length_set, pms_set hmi hp]; exact h.oq
 mp := h.mp
 eO := h.eO
 ok := h.ok
 seed := h.seed
 num := h.num
 vl := by show x.b.V.length = (x.P.set _ _).length; rw [List.length_set]; exact h.vl
 now := h.now
theorem XL.pool {N : Nat} {m : XM} {x : PX} (h : PXIs N m x) {i : Nat} {mi : PM} {s' : PS} (hmi : m.pm[i]? = some mi) {f : FuncId} {args : List Value} {Q : Value → Prop}
  (hs : Spec Tryz.prog f args (poolsH m.pm x.P) (fun r H' => ∃ m', Q r ∧ H' = poolsH (m.pm.set i m') (x.P.set i s') ∧ m'.p = mi.p ∧ PIs m' s')) :
  Spec Tryz.prog f args (pxH m x) (fun r H' => ∃ m', Q r ∧ H' = pxH m' { x with P := x.P.set i s' } ∧ PXIs N m' { x with P := x.P.set i s' } ∧ XKeep m m') := by
 refine Spec.re (((hs.fr _).perm (hp_P _ _ _ _)).mono ?_)
 rintro r H' ⟨H1, ⟨m', hq, rfl, hp, hi⟩, rfl⟩
 refine ⟨_, ?_, { m with pm := m.pm.set i m' }, hq, rfl, h.pool hmi hp hi, ⟨rfl, rfl, rfl, rfl, pms_set hmi hp, rfl⟩⟩
 have e : pxH { m with pm := m.pm.set i m' } { x with P := x.P.set i s' } = [pxE m x, pxM m, pxV m x, pxQ m] ++ (ssH x.S ++ (balH m.bm ++ poolsH (m.pm.set i m') (x.P.set i s'))) := by
  simp only [pxE, pxC, pxQ, pxH, List.length_set, pms_set hmi hp]
 rw [e]
 exact (hp_P _ _ _ _).symm
theorem pxE_bm {m : XM} {x : PX} {bm1 : Bm} (hbp : bm1.p = m.bm.p) (b : BS) : pxE m x = pxE { m with bm := bm1 } { x with b := b } := by simp only [pxE, pxC, hbp]
theorem PXIs.done {N : Nat} {m : XM} {x : PX} (h : PXIs N m x) {bm1 : Bm} {n : Int} {good : Bool} {now : Nat} (hI : BIs (N + 1) bm1 (x.b.doneX now n good)) : PXIs (N + 1) { m with bm := bm1 } { x with b := x.b.doneX now n good } :=
 ⟨hI, h.len, h.po, h.oq, h.mp, h.eO, h.ok, h.seed, h.num, by show (x.b.doneX _ _ _).V.length = _; rw [doneX_len]; exact h.vl, h.now⟩
theorem nxP_nil {z : PX} {i : Nat} {zi : PS} (hz : z.P[i]? = some zi) (hE : zi.E = []) : z.nxP i zi = z := by
 have h1 : zi.nx = zi := by unfold PS.nx; rw [hE]; show { zi with E := [] } = zi; rw [← hE]
 have h2 : z.P.set i zi.nx = z.P := by
  rw [h1]
  obtain ⟨h3, h4⟩ := List.getElem?_eq_some_iff.1 hz
  rw [← h4]; exact List.set_getElem_self h3
 unfold PX.nxP
 rw [h2]
theorem xd_all {N : Nat} {m : XM} {x : PX} (h : PXIs N m x) (hN : N ≤ 9000) (hg : x.b.last ≤ x.now) (n : Int) (good : Bool) : Spec Tryz.prog 38 [ptrB m.bm.p, .int .u64 (x.now : Int), .int .i64 n, .bool good] (pxH m x) (fun r H' => ∃ m' e, r = .int .i64 e ∧ H' = pxH m' { x with b := x.b.doneX x.now n good } ∧ PXIs (N + 1) m' { x with b := x.b.doneX x.now n good } ∧ XKeep m m' ∧ m'.sb = m.sb) := by
 refine Spec.re ((((bdt_ok h.bal hN x.now n good hg h.now).fr _).perm (hp_B _ _ _ _)).mono ?_)
 rintro r H' ⟨H1, ⟨m', e, hr, rfl, hp, hI⟩, rfl⟩
 refine ⟨_, ?_, { m with bm := m' }, e, hr, rfl, ⟨hI, h.len, h.po, h.oq, h.mp, h.eO, h.ok, h.seed, h.num, by show (x.b.doneX _ _ _).V.length = _; rw [doneX_len]; exact h.vl, h.now⟩, ⟨rfl, rfl, rfl, rfl, rfl, hp⟩, rfl⟩
 have e2 : pxH { m with bm := m' } { x with b := x.b.doneX x.now n good } = [pxE m x, pxM m, pxV m x, pxQ m] ++ (ssH x.S ++ (balH m' ++ poolsH m.pm x.P)) := by
  simp only [pxE, pxC, pxQ, pxH, hp]
 rw [e2]
 exact (hp_B _ _ _ _).symm
theorem PXIs.at_ {N : Nat} {m : XM} {x : PX} (h : PXIs N m x) {now : Nat} (hn : now ≤ 18446744073709551614) : PXIs N m { x with now := now } := ⟨h.bal, h.len, h.po, h.oq, h.mp, h.eO, h.ok, h.seed, h.num, h.vl, hn⟩
theorem pool_at {N : Nat} {m : XM} {x : PX} (h : PXIs N m x) {i : Nat} {si : PS} (hi : x.P[i]? = some si) : ∃ mi, m.pm[i]? = some mi := getE (by rw [h.len]; exact (List.getElem?_eq_some_iff.1 hi).1)
def hdP : List Pv → Pv
 | [] => ⟨0, 0, 0⟩
 | e :: _ => e
theorem xnx_all {N : Nat} {m : XM} {x : PX} (h : PXIs N m x) {i : Nat} {mi : PM} {si : PS} (hmi : m.pm[i]? = some mi) (hsi : x.P[i]? = some si) : Spec Tryz.prog 66 [ptrP mi.p] (pxH m x) (fun r H' => ∃ m', r = .tuple #[pvV (hdP si.E), .bool (!si.E.isEmpty)] ∧ H' = pxH m' (x.nxP i si) ∧ PXIs N m' (x.nxP i si) ∧ XKeep m m') := by
 refine XL.pool (Q := fun r => r = .tuple #[pvV (hdP si.E), .bool (!si.E.isEmpty)]) h hmi ((xp_next hmi hsi (h.po i mi si hmi hsi)).mono ?_)
 rintro v H' ⟨m', hv, h2, h3, h4⟩
 refine ⟨m', ?_, h2, h3, h4⟩
 rcases hv with ⟨e, rfl⟩ | ⟨q, r, e, rfl⟩
 ·rw [e]; rfl
 ·rw [e]; rfl
theorem xk_act {N : Nat} {m : XM} {x : PX} (h : PXIs N m x) (hE : x.E.length ≤ 1000000) (hn : (x.S.map (·.num)).Nodup) {A B : List Ss} {s : Ss} (hS : x.S = A ++ s :: B) (i : Nat) {e : Pv} (hw : e.who = s.num) (hk : e.k = 1) :
  Spec Tryz.prog 36 [ptrP m.p, ptrS s.p, .int .i64 e.c] (pxH m x) (fun r H' => ∃ m', r = .tuple #[] ∧ H' = pxH m' (x.drE i e) ∧ PXIs N m' (x.drE i e) ∧ XKeep m m') := by
 rw [drE_1 hn hS hw hk]
 refine (xact_all h hE hS e.c).mono ?_
 rintro r H' ⟨m', h1, h2, h3, h4, h5, h6, h7, h8, h9⟩
 exact ⟨m', h1, h2, h3, ⟨h4, h7, h8, h9, by rw [h5], by rw [h6]⟩⟩
theorem xk_dial {N : Nat} {m : XM} {x : PX} (h : PXIs N m x) (hE : x.E.length ≤ 1000000) (hn : (x.S.map (·.num)).Nodup) {A B : List Ss} {s : Ss} (hS : x.S = A ++ s :: B) (i : Nat) {e : Pv} (hw : e.who = s.num) (hk : e.k = 2) :
  Spec Tryz.prog 62 [ptrP m.p, ptrS s.p, .int .i64 e.c] (pxH m x) (fun r H' => ∃ m', r = .tuple #[] ∧ H' = pxH m' (x.drE i e) ∧ PXIs N m' (x.drE i e) ∧ XKeep m m') := by
 rw [drE_2 hn hS hw hk]
 refine (xdial_all h hE hS e.c).mono ?_
 rintro r H' ⟨m', h1, h2, h3, h4, h5, h6, h7, h8, h9⟩
 exact ⟨m', h1, h2, h3, ⟨h4, h7, h8, h9, by rw [h5], by rw [h6]⟩⟩
theorem xk_fail {N : Nat} {m : XM} {x : PX} {b : BS} (h : PXIs N m { x with b := b }) (hE : x.E.length ≤ 1000000) (hn : (x.S.map (·.num)).Nodup) {A B : List Ss} {s : Ss} (hS : x.S = A ++ s :: B) (i : Nat) {e : Pv} (hw : e.who = s.num) (hk : e.k = 4) (hb : b = x.b.doneX x.now s.cal true) :
  Spec Tryz.prog 51 [ptrP m.p, ptrS s.p, .int .i64 12] (pxH m { x with b := b }) (fun r H' => ∃ m', r = .tuple #[] ∧ H' = pxH m' (x.drE i e) ∧ PXIs N m' (x.drE i e) ∧ XKeep m m') := by
 rw [drE_4 hn hS hw hk, ← hb]
 refine (xfail_all h hE (A := A) (B := B) (s := s) hS (ses_del hS hn) 12).mono ?_
 rintro r H' ⟨m', h1, h2, h3, h4, h5, h6, h7, h8, h9⟩
 exact ⟨m', h1, h2, h3, ⟨h4, h7, h8, h9, by rw [h5], by rw [h6]⟩⟩
theorem xk_tell {N : Nat} {m : XM} {x : PX} (h : PXIs N m x) (hE : x.E.length ≤ 1000000) (i : Nat) {e : Pv} (hk : e.k = 5) :
  Spec Tryz.prog 65 [ptrP m.p, xvV ⟨4, -1, (i : Int), e.c, 0⟩] (pxH m x) (fun r H' => ∃ m', r = .tuple #[] ∧ H' = pxH m' (x.drE i e) ∧ PXIs N m' (x.drE i e) ∧ XKeep m m') := by
 rw [drE_5 hk]
 refine Spec.re ((((xtell_ok m x h.eO hE ⟨4, -1, (i : Int), e.c, 0⟩).fr ([pxM m, pxQ m] ++ (ssH x.S ++ (balH m.bm ++ poolsH m.pm x.P)))).perm ?_).mono ?_)
 ·exact List.Perm.cons _ (List.Perm.swap _ _ _)
 ·rintro r H' ⟨H1, ⟨eb, ek, ec, epre, etl, hr, rfl, hO⟩, rfl⟩
  exact ⟨pxH { m with eb := eb, ek := ek, ec := ec, epre := epre, etl := etl } (x.tell ⟨4, -1, (i : Int), e.c, 0⟩), List.Perm.cons _ (List.Perm.swap _ _ _), _, hr, rfl, h.tell _ hO, ⟨rfl, rfl, rfl, rfl, rfl, rfl⟩⟩
theorem plD {x : Ent} {H F : Heap} (h : Pull x H F := by repeat (first | with_reducible exact Pull.head | with_reducible apply Pull.consA | with_reducible apply Pull.nilA | with_reducible apply Pull.assoc | exact Pull.head | with_reducible apply Pull.tail | with_reducible apply Pull.app)) : Pull x H F := h
theorem pqD {A H F : Heap} (h : Pulls A H F := by repeat (first | with_reducible exact Pulls.nil | with_reducible exact Pulls.all | with_reducible apply Pulls.consX | with_reducible apply Pulls.nilX | with_reducible apply Pulls.assocX | ((with_reducible apply Pulls.cons); (repeat (first | with_reducible exact Pull.head | with_reducible apply Pull.consA | with_reducible apply Pull.nilA | with_reducible apply Pull.assoc | exact Pull.head | with_reducible apply Pull.tail | with_reducible apply Pull.app))) | ((with_reducible apply Pulls.chunk); (repeat (first | with_reducible exact PullA.here | with_reducible exact PullA.all | with_reducible apply PullA.consA | with_reducible apply PullA.nilA | with_reducible apply PullA.assoc | exact PullA.here | with_reducible apply PullA.tail | with_reducible apply PullA.app))) | ((with_reducible apply Pulls.chunk1); (repeat (first | with_reducible exact PullA.here | with_reducible exact PullA.all | with_reducible apply PullA.consA | with_reducible apply PullA.nilA | with_reducible apply PullA.assoc | exact PullA.here | with_reducible apply PullA.tail | with_reducible apply PullA.app)); done) | exact Pulls.all | with_reducible apply Pulls.consA | with_reducible apply Pulls.nilA | with_reducible apply Pulls.skip | with_reducible apply Pulls.assoc | with_reducible apply Pulls.skipA)) : Pulls A H F := h
theorem mmD {x : Ent} {H : Heap} (h : x ∈ H := by repeat (first | with_reducible exact memheadC | with_reducible apply memconsA | with_reducible apply memnilA | with_reducible apply mem_assoc | exact memheadC | with_reducible apply memtailC | with_reducible apply memappC)) : x ∈ H := h
theorem WL_shape {X : Ctx} {ops : Array Oper} {p : Post} {l : List Oper} {E : Env} {H A A' F : Heap} (q : Pulls A H F) (hp : A.Perm A') (h : WL X ops p l E (A' ++ F)) : WL X ops p l E H := WL_perm (q.perm.trans (hp.append_right F)) h
structure DrX where
 m : XM
 x : PX
 E : List Pv
 b : Nat
 N : Nat
 z : Option (PX × PS)
theorem key_or (L : List (Int × Nat)) (k : Int) : (∃ a, (k, a) ∈ L) ∨ k ∉ L.map (·.1) := by
 by_cases h : k ∈ L.map (·.1)
 ·obtain ⟨q, hq, rfl⟩ := List.mem_map.1 h
  exact .inl ⟨q.2, hq⟩
 ·exact .inr h
theorem dr_tri {i : Nat} {x : PX} {e : Pv} {L : List (Int × Nat)} (h : e.k = 5 ∨ ((e.k = 1 ∨ e.k = 2 ∨ e.k = 4) ∧ ∃ A s B, x.S = A ++ s :: B ∧ s.num = e.who ∧ s.st = 2 ∧ s.be = (i : Int))) :
  (e.k = 1 ∧ ∃ A s B, x.S = A ++ s :: B ∧ s.num = e.who ∧ s.st = 2 ∧ s.be = (i : Int)) ∨ (e.k = 2 ∧ ∃ A s B, x.S = A ++ s :: B ∧ s.num = e.who ∧ s.st = 2 ∧ s.be = (i : Int)) ∨ (e.k = 4 ∧ ∃ A s B, x.S = A ++ s :: B ∧ s.num = e.who ∧ s.st = 2 ∧ s.be = (i : Int)) ∨ (e.k = 5 ∧ ∃ a, (e.who, a) ∈ L) ∨ (e.k = 5 ∧ e.who ∉ L.map (·.1)) := by
 rcases h with h | ⟨h | h | h, q⟩
 ·rcases key_or L e.who with k | k
  ·exact .inr (.inr (.inr (.inl ⟨h, k⟩)))
  ·exact .inr (.inr (.inr (.inr ⟨h, k⟩)))
 ·exact .inl ⟨h, q⟩
 ·exact .inr (.inl ⟨h, q⟩)
 ·exact .inr (.inr (.inl ⟨h, q⟩))
theorem drE_E (i : Nat) (x : PX) (e : Pv) : (x.drE i e).E.length ≤ x.E.length + 1 := by
 unfold PX.drE
 split
 ·simp [PX.tell]
 ·split
  ·omega
  ·split
   ·simp [PX.tell]
   ·split
    ·simp [PX.tell]
    ·split
     ·simp [PX.tell]
     ·omega
theorem xdrain_ok {N : Nat} {m : XM} {x0 : PX} (h : PXIs N m x0) (hg : PXG x0) {i : Nat} {si0 : PS} (hi : x0.P[i]? = some si0) (hN : N + si0.E.length ≤ 9000) (hE : x0.E.length + si0.E.length ≤ 1000000) :
  Spec Tryz.prog 37 [ptrP m.p, .int .i64 (i : Int)] (pxH m x0) (fun r H' => ∃ m' N', r = .tuple #[] ∧ H' = pxH m' (x0.drain i) ∧ N' ≤ N + si0.E.length ∧ PXIs N' m' (x0.drain i) ∧ XKeep m m' ∧ PXG (x0.drain i)) := by
 have hil := (List.getElem?_eq_some_iff.1 hi).1
 have hpl := h.oq.len
 obtain ⟨wq, hwq⟩ := h.oq.some_of (by omega)
 obtain ⟨mi, hmi⟩ := pool_at h hi
 refine Spec.of (E := [(0, ptrP m.p), (1, .int .i64 (i : Int))]) Tryz.func37 rfl (by kernel_rfl) Tryz.ntmps37 rfl rfl (fun w => ?_)
 refine WCr (WLa Z (WLa Z (WLf Z fa68_1 (WLl Z sc56 mmD Z (WLa Z (WLv Z (R_idxO hwq Z Tryz.underlying56 Tryz.sizeOf79 Z Z (by omega)) ?_))))))
 refine WLv Z (R_loadO (v := ptrP mi.p) hwq Z sc79 Z mmD (fm_get0 encPq1 hmi (j := 0) (by omega))) ?_
 refine WLc Z (xnx_all h hmi hi) Z pqD ?_
 rintro _ _ ⟨_, ⟨m1, rfl, rfl, h1, kp1⟩, rfl⟩
 refine WLa Z (WLa Z (WLa Z (WLd Z (D_alloc Z zv143) ?_)))
 rintro _ _ ⟨b1, rfl, rfl⟩
 refine WLs (vs := [_, _, _]) Z Tryz.sizeOf143 Z Z plD (nb Z) ?_
 refine WLa Z (WL_nil (WQ_code (WC_block (WC_loopF (G := DrX) [4, 5, 6, 18, 19, 20, 21, 22, 23, 24, 25, 26, 27, 28, 29, 30, 31, 32, 33, 34, 35, 36, 37, 38, 39, 40, 41, 42, 43, 44, 45, 46, 47, 48, 49, 50, 51, 52, 53, 54, 55, 56, 57, 58, 59, 60, 61, 62, 63, 64, 65, 66, 67, 68, 69, 70, 71, 72, 73, 74, 75, 76, 77, 78, 79] (fun y => PXIs y.N y.m y.x ∧ XKeep m y.m ∧ y.N + y.E.length ≤ N + si0.E.length ∧ y.x.E.length + y.E.length ≤ 1000000 ∧ ∃ z zi, y.z = some (z, zi) ∧ z.P[i]? = some zi ∧ zi.E = y.E ∧ y.x = z.nxP i zi ∧ PXG z ∧ z.drain i = x0.drain i) (fun y => [(4, .pointer (some ⟨y.b, 0, none⟩)), (5, .bool (!y.E.isEmpty))]) (fun y => [⟨some y.b, cl (encV (hdP y.E)) 143⟩] ++ pxH y.m y.x) (fun y => y.E.length) (⟨m1, x0.nxP i si0, si0.E, b1, N, some (x0, si0)⟩) (⟨h1, kp1, Nat.le_refl _, hE, x0, si0, Z, hi, Z, Z, hg, Z⟩) leZ pqD ?_))))
 rintro y ⟨gx, kp, hNy, hEy, z, zi, hz, hzi, hzE, hxz, gz, hdr⟩
 refine WC_seq (WCr (WLa Z (WL_nil (WQ_code ?_))))
 refine WC_if Z (fun c1 => ?_) (fun c1 => ?_)
 ·have hE9 : y.E = hdP y.E :: y.E.drop 1 := by
   cases hq : y.E with
   | nil => rw [hq] at c1; exact absurd c1 (by decide)
   | cons a r => rfl
  have hzE9 : zi.E = hdP y.E :: y.E.drop 1 := by rw [hzE]; exact hE9
  obtain ⟨hev9, gz2⟩ := drE_ok gz hzi hzE9
  have hnd9 : (y.x.S.map (·.num)).Nodup := by rw [hxz]; exact gz.nd
  rcases dr_tri (L := sesM y.x.S) hev9 with ⟨hk9, hs9⟩ | ⟨hk9, hs9⟩ | ⟨hk9, hs9⟩ | ⟨hk9, a9, hin9⟩ | ⟨hk9, hno9⟩
  ·obtain ⟨A9, s9, B9, hS9, hw9, hst9, hbe9⟩ := hs9
   have hw9 := hw9.symm
   have hS9 : y.x.S = A9 ++ s9 :: B9 := by rw [hxz]; exact hS9
   have hin9 : (s9.num, s9.p) ∈ sesM y.x.S := by rw [hS9]; exact List.mem_map_of_mem (f := fun s : Ss => (s.num, s.p)) (List.mem_append_right _ (List.mem_cons_self ..))
   refine WC_skip (WQ_code (WC_seq (WC_block (WC_seq (WC_draw _ [(0, true), (1, true), (2, true), (3, true), (4, true), (5, true), (6, true), (7, true)] followsMixed Z Z (by kernel_rfl) .all ?_)))))
   refine WMa Z (WM_set (s := 30) (v := ptrP y.m.p) Z (by rw [kp.p]) ?_)
   refine WMa Z (WMf Z fa68_4 (WMl Z sc66 mmD Z (WMf Z fa143_1 (WMl Z sc3 mmD Z (WM_set (s := 35) (v := .int .i64 s9.num) Z (by rw [hw9]) ?_)))))
   refine WMv Z (R_lookK (k := s9.num) (a := s9.p) Z Tryz.underlying66 int_key Z Z mmD gx.mp hin9) ?_
   refine WMa Z (WM_nil (WQ_code (WCr (WLf Z fa143_0 (WLl Z sc141 mmD Z (WL_set (s := 38) (v := .int .i64 1) Z (by rw [hk9]) ?_))))))
   refine WL_nil (WQ_code (WC_block (WCr (WLa Z (WLa Z (WL_nil (WQ_code (WC_dT Z (by rfl) ?_))))))))
   refine WC_region (WLa Z (WL_set (s := 41) (v := ptrP y.m.p) Z (by rw [kp.p]) ?_))
   refine WLa Z (WLf Z fa143_2 (WLl Z sc3 mmD Z (WLc Z (xk_act gx (by omega) hnd9 hS9 i hw9 hk9) Z pqD ?_)))
   rintro _ _ ⟨_, ⟨m1, rfl, rfl, gx1, kp1⟩, rfl⟩
   refine WL_nil (WQ_code (WC_seq (WCr (WLv Z (R_loadA (vs := [_, _, _]) Z ag143 Z mmD Z atZ) ?_))))
   have kq : XKeep y.m m1 := kp1
   obtain ⟨N2, hN2, gx1⟩ : ∃ N2, N2 ≤ y.N + 1 ∧ PXIs N2 m1 (y.x.drE i (hdP y.E)) := ⟨_, by omega, gx1⟩
   have hsy : (y.x.drE i (hdP y.E)).P[i]? = some zi.nx := by rw [(drE_P i _ _).1, hxz]; exact List.getElem?_set_self (List.getElem?_eq_some_iff.1 hzi).1
   obtain ⟨my, hmy⟩ := pool_at gx1 hsy
   have hply := gx1.oq.len
   have hily := (List.getElem?_eq_some_iff.1 hsy).1
   have hwy : m1.ob = some wq := kq.ob.trans (kp.ob.trans hwq)
   have hsyE : zi.nx.E = y.E.drop 1 := by show zi.E.drop 1 = _; rw [hzE]
   have hl9 : zi.nx.E.length + 1 = y.E.length := by
    have := congrArg List.length hE9
    rw [List.length_cons] at this
    rw [hsyE]; exact this.symm
   have hdE := drE_E i y.x (hdP y.E)
   have hdr2 : (y.x.drE i (hdP y.E)).drain i = x0.drain i := by rw [hxz, ← drain_cons hzi hzE9]; exact hdr
   have gz3 : PXG (y.x.drE i (hdP y.E)) := by rw [hxz]; exact gz2
   refine WL_nil (WQ_code (WC_region (WLd Z (D_alloc Z zv143) ?_)))
   rintro _ _ ⟨b2, rfl, rfl⟩
   refine WLs (vs := [_, _, _]) Z Tryz.sizeOf143 Z Z plD (nb Z) ?_
   refine WL_nil (WQ_code (WC_region (WLa Z (WL_set (s := 20) (v := ptrP m1.p) Z (by rw [kq.p, kp.p]) ?_))))
   refine WLa Z (WLf Z fa68_1 (WLl Z sc56 mmD Z (WLa Z (WLv Z (R_idxO hwy Z Tryz.underlying56 Tryz.sizeOf79 Z Z (by omega)) ?_))))
   refine WLv Z (R_loadO (v := ptrP my.p) hwy Z sc79 Z mmD (fm_get0 encPq1 hmy (j := 0) (by omega))) ?_
   refine WLc Z (xnx_all gx1 hmy hsy) Z pqD ?_
   rintro _ _ ⟨_, ⟨m2, rfl, rfl, gx2, kp2⟩, rfl⟩
   refine WLa Z (WLa Z (WLa Z (WLs (vs := [_, _, _]) Z Tryz.sizeOf143 Z Z plD (nb Z) ?_)))
   refine WLa Z (WL_nil ?_)
   refine WQ_nextF (⟨m2, (y.x.drE i (hdP y.E)).nxP i zi.nx, zi.nx.E, b2, N2, some (y.x.drE i (hdP y.E), zi.nx)⟩) (⟨gx2, (kp.trans kq).trans kp2, by dsimp only; omega, by show (y.x.drE i (hdP y.E)).E.length + zi.nx.E.length ≤ _; omega, _, _, rfl, hsy, rfl, rfl, gz3, hdr2⟩) (by dsimp only; omega) leZ (psZ) Z pqD
  ·obtain ⟨A9, s9, B9, hS9, hw9, hst9, hbe9⟩ := hs9
   have hw9 := hw9.symm
   have hS9 : y.x.S = A9 ++ s9 :: B9 := by rw [hxz]; exact hS9
   have hin9 : (s9.num, s9.p) ∈ sesM y.x.S := by rw [hS9]; exact List.mem_map_of_mem (f := fun s : Ss => (s.num, s.p)) (List.mem_append_right _ (List.mem_cons_self ..))
   refine WC_skip (WQ_code (WC_seq (WC_block (WC_seq (WC_draw _ [(0, true), (1, true), (2, true), (3, true), (4, true), (5, true), (6, true), (7, true)] followsMixed Z Z (by kernel_rfl) .all ?_)))))
   refine WMa Z (WM_set (s := 30) (v := ptrP y.m.p) Z (by rw [kp.p]) ?_)
   refine WMa Z (WMf Z fa68_4 (WMl Z sc66 mmD Z (WMf Z fa143_1 (WMl Z sc3 mmD Z (WM_set (s := 35) (v := .int .i64 s9.num) Z (by rw [hw9]) ?_)))))
   refine WMv Z (R_lookK (k := s9.num) (a := s9.p) Z Tryz.underlying66 int_key Z Z mmD gx.mp hin9) ?_
   refine WMa Z (WM_nil (WQ_code (WCr (WLf Z fa143_0 (WLl Z sc141 mmD Z (WL_set (s := 38) (v := .int .i64 2) Z (by rw [hk9]) ?_))))))
   refine WL_nil (WQ_code (WC_block (WCr (WLa Z (WLa Z (WL_nil (WQ_code (WC_dF Z (by decide) ?_))))))))
   refine WCr (WLa Z (WLa Z (WL_nil (WQ_code (WC_dT Z (by rfl) ?_)))))
   refine WC_region (WLa Z (WL_set (s := 48) (v := ptrP y.m.p) Z (by rw [kp.p]) ?_))
   refine WLa Z (WLf Z fa143_2 (WLl Z sc3 mmD Z (WLc Z (xk_dial gx (by omega) hnd9 hS9 i hw9 hk9) Z pqD ?_)))
   rintro _ _ ⟨_, ⟨m1, rfl, rfl, gx1, kp1⟩, rfl⟩
   refine WL_nil (WQ_code (WC_seq (WCr (WLv Z (R_loadA (vs := [_, _, _]) Z ag143 Z mmD Z atZ) ?_))))
   have kq : XKeep y.m m1 := kp1
   obtain ⟨N2, hN2, gx1⟩ : ∃ N2, N2 ≤ y.N + 1 ∧ PXIs N2 m1 (y.x.drE i (hdP y.E)) := ⟨_, by omega, gx1⟩
   have hsy : (y.x.drE i (hdP y.E)).P[i]? = some zi.nx := by rw [(drE_P i _ _).1, hxz]; exact List.getElem?_set_self (List.getElem?_eq_some_iff.1 hzi).1
   obtain ⟨my, hmy⟩ := pool_at gx1 hsy
   have hply := gx1.oq.len
   have hily := (List.getElem?_eq_some_iff.1 hsy).1
   have hwy : m1.ob = some wq := kq.ob.trans (kp.ob.trans hwq)
   have hsyE : zi.nx.E = y.E.drop 1 := by show zi.E.drop 1 = _; rw [hzE]
   have hl9 : zi.nx.E.length + 1 = y.E.length := by
    have := congrArg List.length hE9
    rw [List.length_cons] at this
    rw [hsyE]; exact this.symm
   have hdE := drE_E i y.x (hdP y.E)
   have hdr2 : (y.x.drE i (hdP y.E)).drain i = x0.drain i := by rw [hxz, ← drain_cons hzi hzE9]; exact hdr
   have gz3 : PXG (y.x.drE i (hdP y.E)) := by rw [hxz]; exact gz2
   refine WL_nil (WQ_code (WC_region (WLd Z (D_alloc Z zv143) ?_)))
   rintro _ _ ⟨b3, rfl, rfl⟩
   refine WLs (vs := [_, _, _]) Z Tryz.sizeOf143 Z Z plD (nb Z) ?_
   refine WL_nil (WQ_code (WC_region (WLa Z (WL_set (s := 20) (v := ptrP m1.p) Z (by rw [kq.p, kp.p]) ?_))))
   refine WLa Z (WLf Z fa68_1 (WLl Z sc56 mmD Z (WLa Z (WLv Z (R_idxO hwy Z Tryz.underlying56 Tryz.sizeOf79 Z Z (by omega)) ?_))))
   refine WLv Z (R_loadO (v := ptrP my.p) hwy Z sc79 Z mmD (fm_get0 encPq1 hmy (j := 0) (by omega))) ?_
   refine WLc Z (xnx_all gx1 hmy hsy) Z pqD ?_
   rintro _ _ ⟨_, ⟨m2, rfl, rfl, gx2, kp2⟩, rfl⟩
   refine WLa Z (WLa Z (WLa Z (WLs (vs := [_, _, _]) Z Tryz.sizeOf143 Z Z plD (nb Z) ?_)))
   refine WLa Z (WL_nil ?_)
   refine WQ_nextF (⟨m2, (y.x.drE i (hdP y.E)).nxP i zi.nx, zi.nx.E, b3, N2, some (y.x.drE i (hdP y.E), zi.nx)⟩) (⟨gx2, (kp.trans kq).trans kp2, by dsimp only; omega, by show (y.x.drE i (hdP y.E)).E.length + zi.nx.E.length ≤ _; omega, _, _, rfl, hsy, rfl, rfl, gz3, hdr2⟩) (by dsimp only; omega) leZ (psZ) Z pqD
  ·obtain ⟨A9, s9, B9, hS9, hw9, hst9, hbe9⟩ := hs9
   have hw9 := hw9.symm
   have hS9 : y.x.S = A9 ++ s9 :: B9 := by rw [hxz]; exact hS9
   have hin9 : (s9.num, s9.p) ∈ sesM y.x.S := by rw [hS9]; exact List.mem_map_of_mem (f := fun s : Ss => (s.num, s.p)) (List.mem_append_right _ (List.mem_cons_self ..))
   refine WC_skip (WQ_code (WC_seq (WC_block (WC_seq (WC_draw _ [(0, true), (1, true), (2, true), (3, true), (4, true), (5, true), (6, true), (7, true)] followsMixed Z Z (by kernel_rfl) .all ?_)))))
   refine WMa Z (WM_set (s := 30) (v := ptrP y.m.p) Z (by rw [kp.p]) ?_)
   refine WMa Z (WMf Z fa68_4 (WMl Z sc66 mmD Z (WMf Z fa143_1 (WMl Z sc3 mmD Z (WM_set (s := 35) (v := .int .i64 s9.num) Z (by rw [hw9]) ?_)))))
   refine WMv Z (R_lookK (k := s9.num) (a := s9.p) Z Tryz.underlying66 int_key Z Z mmD gx.mp hin9) ?_
   refine WMa Z (WM_nil (WQ_code (WCr (WLf Z fa143_0 (WLl Z sc141 mmD Z (WL_set (s := 38) (v := .int .i64 4) Z (by rw [hk9]) ?_))))))
   refine WL_nil (WQ_code (WC_block (WCr (WLa Z (WLa Z (WL_nil (WQ_code (WC_dF Z (by decide) ?_))))))))
   refine WCr (WLa Z (WLa Z (WL_nil (WQ_code (WC_dF Z (by decide) ?_)))))
   refine WCr (WLa Z (WLa Z ?_))
   have hpm9 : (ssH y.x.S).Perm (seE s9 :: ssH (A9 ++ B9)) := by rw [hS9]; exact ssH_split A9 B9 s9
   refine WL_shape (A := ssH y.x.S) pqD hpm9 ?_
   refine WL_nil (WQ_code (WC_dT Z (by rfl) ?_))
   refine WC_seq (WC_drawR (balH y.m.bm) [(0, true), (1, true), (2, true), (3, true), (4, true), (5, true), (6, true), (7, true), (8, true), (9, true), (10, true), (11, true), (12, false)] followsMixed Z Z (by kernel_rfl) pqD ?_)
   refine WMa Z (WM_set (s := 55) (v := ptrP y.m.p) Z (by rw [kp.p]) ?_)
   refine WMa Z (WMf Z fa68_0 (WMl Z sc55 mmD Z (WMa Z (WM_set (s := 59) (v := ptrP y.m.p) Z (by rw [kp.p]) ?_))))
   refine WMa Z (WMf Z fa68_3 (WMl Z sc25 mmD Z (WMa Z (WMa Z (WMf Z fa90_6 (WMl Z sc3 mmD Z (WMd Z (D_call (bdt_ok gx.bal (by omega) y.x.now s9.cal true (by rw [hxz]; exact gz.bl) gx.now) Z Z Z Z pqD) ?_)))))))
   rintro _ _ ⟨_, ⟨bm1, e0, rfl, rfl, hbp1, hb1⟩, rfl⟩
   refine ⟨⟨_, pqD⟩, ?_⟩
   refine WM_nil (WQ_code (WC_region (WLa Z (WL_set (s := 68) (v := ptrP y.m.p) Z (by rw [kp.p]) ?_))))
   refine WL_shape (A := seE s9 :: ssH (A9 ++ B9)) pqD hpm9.symm ?_
   rw [pxE_bm hbp1 (y.x.b.doneX y.x.now s9.cal true)]
   refine WLa Z (WLc Z (xk_fail (gx.done hb1) (by omega) hnd9 hS9 i hw9 hk9 Z) Z pqD ?_)
   rintro _ _ ⟨_, ⟨m1, rfl, rfl, gx1, kp1⟩, rfl⟩
   refine WL_nil (WQ_code (WC_seq (WCr (WLv Z (R_loadA (vs := [_, _, _]) Z ag143 Z mmD Z atZ) ?_))))
   have kq : XKeep y.m m1 := XKeep.trans (b := { y.m with bm := bm1 }) ⟨rfl, rfl, rfl, rfl, rfl, hbp1⟩ kp1
   obtain ⟨N2, hN2, gx1⟩ : ∃ N2, N2 ≤ y.N + 1 ∧ PXIs N2 m1 (y.x.drE i (hdP y.E)) := ⟨_, by omega, gx1⟩
   have hsy : (y.x.drE i (hdP y.E)).P[i]? = some zi.nx := by rw [(drE_P i _ _).1, hxz]; exact List.getElem?_set_self (List.getElem?_eq_some_iff.1 hzi).1
   obtain ⟨my, hmy⟩ := pool_at gx1 hsy
   have hply := gx1.oq.len
   have hily := (List.getElem?_eq_some_iff.1 hsy).1
   have hwy : m1.ob = some wq := kq.ob.trans (kp.ob.trans hwq)
   have hsyE : zi.nx.E = y.E.drop 1 := by show zi.E.drop 1 = _; rw [hzE]
   have hl9 : zi.nx.E.length + 1 = y.E.length := by
    have := congrArg List.length hE9
    rw [List.length_cons] at this
    rw [hsyE]; exact this.symm
   have hdE := drE_E i y.x (hdP y.E)
   have hdr2 : (y.x.drE i (hdP y.E)).drain i = x0.drain i := by rw [hxz, ← drain_cons hzi hzE9]; exact hdr
   have gz3 : PXG (y.x.drE i (hdP y.E)) := by rw [hxz]; exact gz2
   refine WL_nil (WQ_code (WC_region (WLd Z (D_alloc Z zv143) ?_)))
   rintro _ _ ⟨b4, rfl, rfl⟩
   refine WLs (vs := [_, _, _]) Z Tryz.sizeOf143 Z Z plD (nb Z) ?_
   refine WL_nil (WQ_code (WC_region (WLa Z (WL_set (s := 20) (v := ptrP m1.p) Z (by rw [kq.p, kp.p]) ?_))))
   refine WLa Z (WLf Z fa68_1 (WLl Z sc56 mmD Z (WLa Z (WLv Z (R_idxO hwy Z Tryz.underlying56 Tryz.sizeOf79 Z Z (by omega)) ?_))))
   refine WLv Z (R_loadO (v := ptrP my.p) hwy Z sc79 Z mmD (fm_get0 encPq1 hmy (j := 0) (by omega))) ?_
   refine WLc Z (xnx_all gx1 hmy hsy) Z pqD ?_
   rintro _ _ ⟨_, ⟨m2, rfl, rfl, gx2, kp2⟩, rfl⟩
   refine WLa Z (WLa Z (WLa Z (WLs (vs := [_, _, _]) Z Tryz.sizeOf143 Z Z plD (nb Z) ?_)))
   refine WLa Z (WL_nil ?_)
   refine WQ_nextF (⟨m2, (y.x.drE i (hdP y.E)).nxP i zi.nx, zi.nx.E, b4, N2, some (y.x.drE i (hdP y.E), zi.nx)⟩) (⟨gx2, (kp.trans kq).trans kp2, by dsimp only; omega, by show (y.x.drE i (hdP y.E)).E.length + zi.nx.E.length ≤ _; omega, _, _, rfl, hsy, rfl, rfl, gz3, hdr2⟩) (by dsimp only; omega) leZ (psZ) Z pqD
  ·refine WC_skip (WQ_code (WC_seq (WC_block (WC_seq (WC_draw _ [(0, true), (1, true), (2, true), (3, true), (4, true), (5, true), (6, true), (7, true)] followsMixed Z Z (by kernel_rfl) .all ?_)))))
   refine WMa Z (WM_set (s := 30) (v := ptrP y.m.p) Z (by rw [kp.p]) ?_)
   refine WMa Z (WMf Z fa68_4 (WMl Z sc66 mmD Z (WMf Z fa143_1 (WMl Z sc3 mmD Z (WMv Z (R_lookK (k := (hdP y.E).who) (a := a9) Z Tryz.underlying66 int_key Z Z mmD gx.mp hin9) ?_)))))
   refine WMa Z (WM_nil (WQ_code (WCr (WLf Z fa143_0 (WLl Z sc141 mmD Z (WL_set (s := 38) (v := .int .i64 5) Z (by rw [hk9]) ?_))))))
   refine WL_nil (WQ_code (WC_block (WCr (WLa Z (WLa Z (WL_nil (WQ_code (WC_dF Z (by decide) ?_))))))))
   refine WCr (WLa Z (WLa Z (WL_nil (WQ_code (WC_dF Z (by decide) ?_)))))
   refine WCr (WLa Z (WLa Z (WL_nil (WQ_code (WC_dF Z (by decide) ?_)))))
   refine WCr (WLa Z (WLa Z (WL_nil (WQ_code (WC_dT Z (by rfl) ?_)))))
   refine WC_region (WLa Z (WL_set (s := 73) (v := ptrP y.m.p) Z (by rw [kp.p]) ?_))
   refine WLa Z (WLf Z fa143_2 (WLl Z sc3 mmD Z (WLv Z (R_build Z zv63 pl63 Z Z) ?_)))
   refine WLc Z (xk_tell gx (by omega) i hk9) Z pqD ?_
   rintro _ _ ⟨_, ⟨m1, rfl, rfl, gx1, kp1⟩, rfl⟩
   refine WL_nil (WQ_code (WC_seq (WCr (WLv Z (R_loadA (vs := [_, _, _]) Z ag143 Z mmD Z atZ) ?_))))
   have kq : XKeep y.m m1 := kp1
   obtain ⟨N2, hN2, gx1⟩ : ∃ N2, N2 ≤ y.N + 1 ∧ PXIs N2 m1 (y.x.drE i (hdP y.E)) := ⟨_, by omega, gx1⟩
   have hsy : (y.x.drE i (hdP y.E)).P[i]? = some zi.nx := by rw [(drE_P i _ _).1, hxz]; exact List.getElem?_set_self (List.getElem?_eq_some_iff.1 hzi).1
   obtain ⟨my, hmy⟩ := pool_at gx1 hsy
   have hply := gx1.oq.len
   have hily := (List.getElem?_eq_some_iff.1 hsy).1
   have hwy : m1.ob = some wq := kq.ob.trans (kp.ob.trans hwq)
   have hsyE : zi.nx.E = y.E.drop 1 := by show zi.E.drop 1 = _; rw [hzE]
   have hl9 : zi.nx.E.length + 1 = y.E.length := by
    have := congrArg List.length hE9
    rw [List.length_cons] at this
    rw [hsyE]; exact this.symm
   have hdE := drE_E i y.x (hdP y.E)
   have hdr2 : (y.x.drE i (hdP y.E)).drain i = x0.drain i := by rw [hxz, ← drain_cons hzi hzE9]; exact hdr
   have gz3 : PXG (y.x.drE i (hdP y.E)) := by rw [hxz]; exact gz2
   refine WL_nil (WQ_code (WC_region (WLd Z (D_alloc Z zv143) ?_)))
   rintro _ _ ⟨b5, rfl, rfl⟩
   refine WLs (vs := [_, _, _]) Z Tryz.sizeOf143 Z Z plD (nb Z) ?_
   refine WL_nil (WQ_code (WC_region (WLa Z (WL_set (s := 20) (v := ptrP m1.p) Z (by rw [kq.p, kp.p]) ?_))))
   refine WLa Z (WLf Z fa68_1 (WLl Z sc56 mmD Z (WLa Z (WLv Z (R_idxO hwy Z Tryz.underlying56 Tryz.sizeOf79 Z Z (by omega)) ?_))))
   refine WLv Z (R_loadO (v := ptrP my.p) hwy Z sc79 Z mmD (fm_get0 encPq1 hmy (j := 0) (by omega))) ?_
   refine WLc Z (xnx_all gx1 hmy hsy) Z pqD ?_
   rintro _ _ ⟨_, ⟨m2, rfl, rfl, gx2, kp2⟩, rfl⟩
   refine WLa Z (WLa Z (WLa Z (WLs (vs := [_, _, _]) Z Tryz.sizeOf143 Z Z plD (nb Z) ?_)))
   refine WLa Z (WL_nil ?_)
   refine WQ_nextF (⟨m2, (y.x.drE i (hdP y.E)).nxP i zi.nx, zi.nx.E, b5, N2, some (y.x.drE i (hdP y.E), zi.nx)⟩) (⟨gx2, (kp.trans kq).trans kp2, by dsimp only; omega, by show (y.x.drE i (hdP y.E)).E.length + zi.nx.E.length ≤ _; omega, _, _, rfl, hsy, rfl, rfl, gz3, hdr2⟩) (by dsimp only; omega) leZ (psZ) Z pqD
  ·refine WC_skip (WQ_code (WC_seq (WC_block (WC_seq (WC_draw _ [(0, true), (1, true), (2, true), (3, true), (4, true), (5, true), (6, true), (7, true)] followsMixed Z Z (by kernel_rfl) .all ?_)))))
   refine WMa Z (WM_set (s := 30) (v := ptrP y.m.p) Z (by rw [kp.p]) ?_)
   refine WMa Z (WMf Z fa68_4 (WMl Z sc66 mmD Z (WMf Z fa143_1 (WMl Z sc3 mmD Z (WMv Z (R_lookK0 (k := (hdP y.E).who) (zv := .pointer none) Z Tryz.underlying66 int_key Z Z mmD gx.mp hno9 (fun w => Tryz.zeroValue87 w)) ?_)))))
   refine WMa Z (WM_nil (WQ_code (WCr (WLf Z fa143_0 (WLl Z sc141 mmD Z (WL_set (s := 38) (v := .int .i64 5) Z (by rw [hk9]) ?_))))))
   refine WL_nil (WQ_code (WC_block (WCr (WLa Z (WLa Z (WL_nil (WQ_code (WC_dF Z (by decide) ?_))))))))
   refine WCr (WLa Z (WLa Z (WL_nil (WQ_code (WC_dF Z (by decide) ?_)))))
   refine WCr (WLa Z (WLa Z (WL_nil (WQ_code (WC_dF Z (by decide) ?_)))))
   refine WCr (WLa Z (WLa Z (WL_nil (WQ_code (WC_dT Z (by rfl) ?_)))))
   refine WC_region (WLa Z (WL_set (s := 73) (v := ptrP y.m.p) Z (by rw [kp.p]) ?_))
   refine WLa Z (WLf Z fa143_2 (WLl Z sc3 mmD Z (WLv Z (R_build Z zv63 pl63 Z Z) ?_)))
   refine WLc Z (xk_tell gx (by omega) i hk9) Z pqD ?_
   rintro _ _ ⟨_, ⟨m1, rfl, rfl, gx1, kp1⟩, rfl⟩
   refine WL_nil (WQ_code (WC_seq (WCr (WLv Z (R_loadA (vs := [_, _, _]) Z ag143 Z mmD Z atZ) ?_))))
   have kq : XKeep y.m m1 := kp1
   obtain ⟨N2, hN2, gx1⟩ : ∃ N2, N2 ≤ y.N + 1 ∧ PXIs N2 m1 (y.x.drE i (hdP y.E)) := ⟨_, by omega, gx1⟩
   have hsy : (y.x.drE i (hdP y.E)).P[i]? = some zi.nx := by rw [(drE_P i _ _).1, hxz]; exact List.getElem?_set_self (List.getElem?_eq_some_iff.1 hzi).1
   obtain ⟨my, hmy⟩ := pool_at gx1 hsy
   have hply := gx1.oq.len
   have hily := (List.getElem?_eq_some_iff.1 hsy).1
   have hwy : m1.ob = some wq := kq.ob.trans (kp.ob.trans hwq)
   have hsyE : zi.nx.E = y.E.drop 1 := by show zi.E.drop 1 = _; rw [hzE]
   have hl9 : zi.nx.E.length + 1 = y.E.length := by
    have := congrArg List.length hE9
    rw [List.length_cons] at this
    rw [hsyE]; exact this.symm
   have hdE := drE_E i y.x (hdP y.E)
   have hdr2 : (y.x.drE i (hdP y.E)).drain i = x0.drain i := by rw [hxz, ← drain_cons hzi hzE9]; exact hdr
   have gz3 : PXG (y.x.drE i (hdP y.E)) := by rw [hxz]; exact gz2
   refine WL_nil (WQ_code (WC_region (WLd Z (D_alloc Z zv143) ?_)))
   rintro _ _ ⟨b6, rfl, rfl⟩
   refine WLs (vs := [_, _, _]) Z Tryz.sizeOf143 Z Z plD (nb Z) ?_
   refine WL_nil (WQ_code (WC_region (WLa Z (WL_set (s := 20) (v := ptrP m1.p) Z (by rw [kq.p, kp.p]) ?_))))
   refine WLa Z (WLf Z fa68_1 (WLl Z sc56 mmD Z (WLa Z (WLv Z (R_idxO hwy Z Tryz.underlying56 Tryz.sizeOf79 Z Z (by omega)) ?_))))
   refine WLv Z (R_loadO (v := ptrP my.p) hwy Z sc79 Z mmD (fm_get0 encPq1 hmy (j := 0) (by omega))) ?_
   refine WLc Z (xnx_all gx1 hmy hsy) Z pqD ?_
   rintro _ _ ⟨_, ⟨m2, rfl, rfl, gx2, kp2⟩, rfl⟩
   refine WLa Z (WLa Z (WLa Z (WLs (vs := [_, _, _]) Z Tryz.sizeOf143 Z Z plD (nb Z) ?_)))
   refine WLa Z (WL_nil ?_)
   refine WQ_nextF (⟨m2, (y.x.drE i (hdP y.E)).nxP i zi.nx, zi.nx.E, b6, N2, some (y.x.drE i (hdP y.E), zi.nx)⟩) (⟨gx2, (kp.trans kq).trans kp2, by dsimp only; omega, by show (y.x.drE i (hdP y.E)).E.length + zi.nx.E.length ≤ _; omega, _, _, rfl, hsy, rfl, rfl, gz3, hdr2⟩) (by dsimp only; omega) leZ (psZ) Z pqD
 ·have hE9 : y.E = [] := by
   cases hq : y.E with
   | nil => rfl
   | cons a r => rw [hq] at c1; simp at c1
  have hzx : y.x = z := by rw [hxz]; exact nxP_nil hzi (by rw [hzE]; exact hE9)
  have hX9 : x0.drain i = y.x := by rw [← hdr, drain_nil hzi (by rw [hzE]; exact hE9), hzx]
  refine WC_exit ?_
  refine WQ2 Z (by
    rw [hX9]
    exact ⟨y.m, y.N, rfl, rfl, by omega, gx, kp, by rw [hzx]; exact gz⟩) pqD
def PX.fldF (x : PX) (s : Ss) : PX := if x.failE s = 0 then { x with S := updS x.S s.num fun _ => x.later s } else { x.tell ⟨3, s.num, -1, -1, x.failE s⟩ with S := x.S.filter fun y => decide (y.num ≠ s.num) }
def PX.attF (x : PX) (s : Ss) : PX :=
 if x.b.cand x.now = [] then x.fldF s
 else match x.P[x.pk s]? with
  | some si => { x.attX s si with S := updS x.S s.num fun _ => x.attS s si }
  | none => x
theorem fldF_eq {x : PX} {A B : List Ss} {s : Ss} (hS : x.S = A ++ s :: B) (hn : (x.S.map (·.num)).Nodup) : x.fldF s = if x.failE s = 0 then { x with S := A ++ x.later s :: B } else { x.tell ⟨3, s.num, -1, -1, x.failE s⟩ with S := A ++ B } := by
 unfold PX.fldF
 rw [updS_at hS hn, filt_num hS hn]
theorem attF_eq {x : PX} {A B : List Ss} {s : Ss} (hS : x.S = A ++ s :: B) (hn : (x.S.map (·.num)).Nodup) : x.att A s B = x.attF s := by
 unfold PX.att PX.attF
 split
 ·rw [fldF_eq hS hn]
 ·cases hp : x.P[x.pk s]? with
  | none => rfl
  | some si => dsimp only; rw [updS_at hS hn]
theorem xfailed_all {N : Nat} {m : XM} {x : PX} (h : PXIs N m x) (hE : x.E.length ≤ 1000000) (hn : (x.S.map (·.num)).Nodup) {A B : List Ss} {s : Ss} (hS : x.S = A ++ s :: B) (ht : s.tr ≤ 1000) :
  Spec Tryz.prog 39 [ptrP m.p, ptrS s.p] (pxH m x) (fun r H' => ∃ m', r = .tuple #[] ∧ H' = pxH m' (x.fldF s) ∧ PXIs N m' (x.fldF s) ∧ m'.p = m.p) := by
 have hin : (s.num, s.p) ∈ sesM x.S := by rw [hS]; exact List.mem_map_of_mem (f := fun s : Ss => (s.num, s.p)) (List.mem_append_right _ (List.mem_cons_self ..))
 have hperm : (ssH x.S).Perm (seE s :: ssH (A ++ B)) := by rw [hS]; exact ssH_split A B s
 have hd := ses_del hS hn
 by_cases hf : x.failE s = 0
 ·have hX : x.fldF s = { x with S := A ++ x.later s :: B } := by rw [fldF_eq hS hn, if_pos hf]
  refine Spec.re ((((xfailed_l m x h.ok h.seed h.now s ht hf).fr ([pxM m, pxV m x, pxQ m] ++ (ssH (A ++ B) ++ (balH m.bm ++ poolsH m.pm x.P)))).perm (px_perm2 (L := []) hperm)).mono ?_)
  rintro r H' ⟨H1, ⟨hr, rfl⟩, rfl⟩
  refine ⟨pxH m (x.fldF s), ?_, m, hr, rfl, ?_, rfl⟩
  ·rw [hX]
   exact (px_perm2 (L := []) (ssH_split A B (x.later s))).symm
  ·rw [hX]
   exact h.setS (s' := x.later s) hS rfl rfl
 ·have hX : x.fldF s = { x.tell ⟨3, s.num, -1, -1, x.failE s⟩ with S := A ++ B } := by rw [fldF_eq hS hn, if_neg hf]
  refine Spec.shed ((((xfailed_g m x h.eO hE h.ok h.seed h.now h.mp s hin ht hf).fr ([pxQ m] ++ (ssH (A ++ B) ++ (balH m.bm ++ poolsH m.pm x.P)))).perm (px_perm3 (L := []) hperm)).mono ?_)
  rintro r H' ⟨H1, ⟨ses, eb, ek, ec, epre, etl, hr, rfl, hO, hM⟩, rfl⟩
  refine ⟨pxH { m with ses := ses, eb := eb, ek := ek, ec := ec, epre := epre, etl := etl } (x.fldF s), [seE s], ?_, { m with ses := ses, eb := eb, ek := ek, ec := ec, epre := epre, etl := etl }, hr, rfl, ?_, rfl⟩
  ·rw [hX]
   exact px_back3 (L := [])
  ·rw [hX]
   rw [hd] at hM
   exact ⟨h.bal, h.len, h.po, h.oq, hM, hO, h.ok, h.seed, fun y hy => h.num y (by
    rw [hS]
    rcases List.mem_append.1 hy with hy | hy
    ·exact List.mem_append_left _ hy
    ·exact List.mem_append_right _ (List.mem_cons_of_mem _ hy)), h.vl, h.now⟩
def PX.begE (x : PX) (n : Int) (now dl : Nat) (key : ByteArray) : Int :=
 if x.may (decide ((0 ≤ n ∧ n ≤ 100) ∧ key.size ≤ 64)) now ≠ 0 then x.may (decide ((0 ≤ n ∧ n ≤ 100) ∧ key.size ≤ 64)) now
 else if dl ≤ now then 3 else if n ∈ x.S.map (·.num) then 11 else 0
abbrev newS (n : Int) (dl : Nat) (key : ByteArray) (p : Nat) : Ss := ⟨n, key, dl, 0, 0, 0, 0, 0, 0, p⟩
def PX.beg0 (x : PX) (n : Int) (now dl : Nat) (key : ByteArray) (p : Nat) : PX := { x with now := now, S := x.S ++ [newS n dl key p] }
def PX.begin (x : PX) (n : Int) (now dl : Nat) (key : ByteArray) (p : Nat) : PX := (x.beg0 n now dl key p).attF (newS n dl key p)
theorem xmay_zero_of {x : PX} {right : Bool} {now : Nat} (h : x.may right now = 0) : right = true ∧ x.now ≤ now ∧ now ≠ 18446744073709551615 := by
 unfold PX.may at h
 split at h
 ·cases h
 ·rename_i h1
  split at h
  ·cases h
  ·rename_i h2
   exact ⟨by simpa using h1, by omega, by omega⟩
theorem begE_zero {x : PX} {n : Int} {now dl : Nat} {key : ByteArray} (h : x.begE n now dl key = 0) : (0 ≤ n ∧ n ≤ 100) ∧ key.size ≤ 64 ∧ x.now ≤ now ∧ now ≠ 18446744073709551615 ∧ ¬ dl ≤ now ∧ n ∉ x.S.map (·.num) ∧ x.may true now = 0 := by
 unfold PX.begE at h
 split at h
 ·rename_i h1; exact absurd h h1
 ·rename_i h1
  have h1 := Decidable.byContradiction h1
  split at h
  ·cases h
  ·rename_i h2
   split at h
   ·cases h
   ·rename_i h3
    obtain ⟨e1, e2, e3⟩ := xmay_zero_of h1
    obtain ⟨e4, e5⟩ := of_decide_eq_true e1
    exact ⟨e4, e5, e2, e3, h2, h3, by rw [← e1]; exact h1⟩
theorem sesM_keys (S : List Ss) : (sesM S).map (·.1) = S.map (·.num) := by simp [sesM]
theorem sesM_at {S : List Ss} {n : Int} (h : n ∈ S.map (·.num)) : ∃ a, (n, a) ∈ sesM S := by
 obtain ⟨s, hs, rfl⟩ := List.mem_map.1 h
 exact ⟨s.p, List.mem_map_of_mem (f := fun s : Ss => (s.num, s.p)) hs⟩
theorem ssH_snoc (S : List Ss) (s : Ss) : ([seE s] ++ ssH S).Perm (ssH (S ++ [s])) := by
 unfold ssH
 rw [List.map_append]
 exact List.perm_append_comm
theorem PXIs.beg0 {N : Nat} {m : XM} {x : PX} (h : PXIs N m x) {n : Int} {now dl : Nat} {key : ByteArray} {p : Nat} (hn : 0 ≤ n ∧ n ≤ 100) (hb : now ≤ 18446744073709551614) {es : Array MapEntry} (hM : Mk ekW ptrS es (m.smc + 1) ((n, p) :: sesM x.S)) : PXIs N { m with ses := es, smc := m.smc + 1 } (x.beg0 n now dl key p) :=
 ⟨h.bal, h.len, h.po, h.oq, hM.to (by show List.Perm _ (sesM (x.S ++ [_])); unfold sesM; rw [List.map_append]; exact List.perm_append_comm (l₁ := [_])), h.eO, h.ok, h.seed, fun s hs => by
  rcases List.mem_append.1 hs with hs | hs
  ·exact h.num s hs
  ·rw [List.mem_singleton.1 hs]; exact hn, h.vl, hb⟩
theorem xbegin_bad {N : Nat} {m : XM} {x : PX} (h : PXIs N m x) (n : Int) (now dl : Nat) (key : ByteArray) (he : x.begE n now dl key ≠ 0) : Spec Tryz.prog 12 [ptrP m.p, .int .i64 n, .int .u64 (now : Int), .int .u64 (dl : Int), .string key] [pxE m x, pxM m] (fun r H' => r = .int .i64 (x.begE n now dl key) ∧ H' = [pxE m x, pxM m]) := by
 refine Spec.of (E := [(0, ptrP m.p), (1, .int .i64 n), (2, .int .u64 (now : Int)), (3, .int .u64 (dl : Int)), (4, .string key)]) Tryz.func12 rfl (by kernel_rfl) Tryz.ntmps12 rfl rfl (fun w => ?_)
 refine WCr (WLa Z (WL_nil (WQ_code (WCr (WLa Z (WLa Z (WLq Z (xright_ok n) Z pqD ?_)))))))
 refine WLa Z ?_
 refine WL_splitD (s := 16) Z (fun c1 => ?_) (fun c1 => ?_)
 ·have hg := c1
  refine WLa Z (WLv Z (R_lenStr Z Tryz.underlying9 Z) ?_)
  refine WLa Z (WLa Z (WLa Z ?_))
  first | refine WL_set (s := 20) (v := .bool (decide ((0 ≤ n ∧ n ≤ 100) ∧ key.size ≤ 64))) rfl (by exact congrArg Value.bool (decide_eq_decide.2 (by omega))) ?_ | refine WL_set (s := 20) (v := .bool (decide ((0 ≤ n ∧ n ≤ 100) ∧ key.size ≤ 64))) rfl (by exact congrArg Value.bool (decide_eq_false (by omega)).symm) ?_
  refine WLq Z (xmay_ok m x (decide ((0 ≤ n ∧ n ≤ 100) ∧ key.size ≤ 64)) now) Z pqD ?_
  refine WLa Z (WL_nil (WQ_code (WC_seq (WC_block (WCr (WLa Z (WLa Z (WLa Z (WL_nil (WQ_code ?_))))))))))
  refine WC_dec Z (fun c2 => ?_) (fun c2 => ?_)
  ·have hE9 : x.begE n now dl key = (x.may (decide ((0 ≤ n ∧ n ≤ 100) ∧ key.size ≤ 64)) now) := by unfold PX.begE; rw [if_pos c2]
   refine WCr (WLa Z (WLa Z (WL_nil (WQ_code (WC_ret ?_)))))
   refine WQ1 Z (by
     rw [hE9]
     exact ⟨rfl, rfl⟩) pqD
  ·have hm : (x.may (decide ((0 ≤ n ∧ n ≤ 100) ∧ key.size ≤ 64)) now) = 0 := Decidable.byContradiction c2
   refine WCr (WLa Z (WLa Z (WLa Z (WLa Z (WL_nil (WQ_code ?_))))))
   refine WC_dec Z (fun c3 => ?_) (fun c3 => ?_)
   ·have hE9 : x.begE n now dl key = 3 := by unfold PX.begE; rw [if_neg (by rw [hm]; decide), if_pos (by omega)]
    refine WCr (WLa Z (WL_nil (WQ_code (WC_ret ?_))))
    refine WQ1 Z (by
      rw [hE9]
      exact ⟨rfl, rfl⟩) pqD
   ·have hd : ¬ dl ≤ now := by omega
    have hin : n ∈ x.S.map (·.num) := Classical.byContradiction fun hno => he (by unfold PX.begE; rw [if_neg (by rw [hm]; decide), if_neg hd, if_neg hno])
    obtain ⟨a9, hin9⟩ := sesM_at hin
    have hE9 : x.begE n now dl key = 11 := by unfold PX.begE; rw [if_neg (by rw [hm]; decide), if_neg hd, if_pos hin]
    refine WCr (WLa Z (WLa Z (WLf Z fa68_4 (WLl Z sc66 mmD Z (WLa Z (WLv Z (R_lookK (k := n) (a := a9) Z Tryz.underlying66 int_key Z Z mmD h.mp hin9) ?_))))))
    refine WLv Z (R_ptrNeNil Z Tryz.underlying87 Z) ?_
    refine WLa Z (WL_nil (WQ_code (WC_T Z (WCr (WLa Z (WL_nil (WQ_code (WC_ret ?_))))))))
    refine WQ1 Z (by
      rw [hE9]
      exact ⟨rfl, rfl⟩) pqD
 ·have hg := c1
  refine WLa Z (WLa Z (WLa Z (WLa Z (WLa Z ?_))))
  first | refine WL_set (s := 20) (v := .bool (decide ((0 ≤ n ∧ n ≤ 100) ∧ key.size ≤ 64))) rfl (by exact congrArg Value.bool (decide_eq_decide.2 (by omega))) ?_ | refine WL_set (s := 20) (v := .bool (decide ((0 ≤ n ∧ n ≤ 100) ∧ key.size ≤ 64))) rfl (by exact congrArg Value.bool (decide_eq_false (by omega)).symm) ?_
  refine WLq Z (xmay_ok m x (decide ((0 ≤ n ∧ n ≤ 100) ∧ key.size ≤ 64)) now) Z pqD ?_
  refine WLa Z (WL_nil (WQ_code (WC_seq (WC_block (WCr (WLa Z (WLa Z (WLa Z (WL_nil (WQ_code ?_))))))))))
  refine WC_dec Z (fun c4 => ?_) (fun c4 => ?_)
  ·have hE9 : x.begE n now dl key = (x.may (decide ((0 ≤ n ∧ n ≤ 100) ∧ key.size ≤ 64)) now) := by unfold PX.begE; rw [if_pos c4]
   refine WCr (WLa Z (WLa Z (WL_nil (WQ_code (WC_ret ?_)))))
   refine WQ1 Z (by
     rw [hE9]
     exact ⟨rfl, rfl⟩) pqD
  ·have hm : (x.may (decide ((0 ≤ n ∧ n ≤ 100) ∧ key.size ≤ 64)) now) = 0 := Decidable.byContradiction c4
   refine WCr (WLa Z (WLa Z (WLa Z (WLa Z (WL_nil (WQ_code ?_))))))
   refine WC_dec Z (fun c5 => ?_) (fun c5 => ?_)
   ·have hE9 : x.begE n now dl key = 3 := by unfold PX.begE; rw [if_neg (by rw [hm]; decide), if_pos (by omega)]
    refine WCr (WLa Z (WL_nil (WQ_code (WC_ret ?_))))
    refine WQ1 Z (by
      rw [hE9]
      exact ⟨rfl, rfl⟩) pqD
   ·have hd : ¬ dl ≤ now := by omega
    have hin : n ∈ x.S.map (·.num) := Classical.byContradiction fun hno => he (by unfold PX.begE; rw [if_neg (by rw [hm]; decide), if_neg hd, if_neg hno])
    obtain ⟨a9, hin9⟩ := sesM_at hin
    have hE9 : x.begE n now dl key = 11 := by unfold PX.begE; rw [if_neg (by rw [hm]; decide), if_neg hd, if_pos hin]
    refine WCr (WLa Z (WLa Z (WLf Z fa68_4 (WLl Z sc66 mmD Z (WLa Z (WLv Z (R_lookK (k := n) (a := a9) Z Tryz.underlying66 int_key Z Z mmD h.mp hin9) ?_))))))
    refine WLv Z (R_ptrNeNil Z Tryz.underlying87 Z) ?_
    refine WLa Z (WL_nil (WQ_code (WC_T Z (WCr (WLa Z (WL_nil (WQ_code (WC_ret ?_))))))))
    refine WQ1 Z (by
      rw [hE9]
      exact ⟨rfl, rfl⟩) pqD
theorem xbegin_ok {N : Nat} {m : XM} {x : PX} (h : PXIs N m x) (hg : PXG x) (hN : N ≤ 9000) (hE : x.E.length ≤ 10000) (hpo : ∀ si ∈ x.P, si.E.length ≤ 10000 ∧ si.n < 1000000000000) (n : Int) (now dl : Nat) (hb : now ≤ 18446744073709551615) (key : ByteArray) (he : x.begE n now dl key = 0) :
  Spec Tryz.prog 12 [ptrP m.p, .int .i64 n, .int .u64 (now : Int), .int .u64 (dl : Int), .string key] (pxH m x) (fun r H' => ∃ m' p, r = .int .i64 0 ∧ H' = pxH m' (x.begin n now dl key p) ∧ PXIs (N + 1) m' (x.begin n now dl key p) ∧ m'.p = m.p) := by
 obtain ⟨hr, hk, hn1, hn2, hd, hno, hm⟩ := begE_zero he
 have hno : n ∉ (sesM x.S).map (·.1) := by rw [sesM_keys]; exact hno
 have hbl := hg.bl
 refine Spec.of (E := [(0, ptrP m.p), (1, .int .i64 n), (2, .int .u64 (now : Int)), (3, .int .u64 (dl : Int)), (4, .string key)]) Tryz.func12 rfl (by kernel_rfl) Tryz.ntmps12 rfl rfl (fun w => ?_)
 refine WCr (WLa Z (WL_nil (WQ_code (WCr (WLa Z (WLa Z (WLq Z (xright_ok n) Z pqD ?_)))))))
 refine WLa Z (WL_set (s := 16) (v := .bool true) Z (by exact congrArg Value.bool (decide_eq_true hr)) ?_)
 refine WLa Z (WLv Z (R_lenStr Z Tryz.underlying9 Z) ?_)
 refine WLa Z (WLa Z (WLa Z (WL_set (s := 20) (v := .bool true) Z (by exact congrArg Value.bool (decide_eq_true (by omega))) ?_)))
 refine WLq Z (xmay_ok m x true now) Z pqD ?_
 refine WLa Z (WL_nil (WQ_code (WC_seq (WC_block (WCr (WLa Z (WLa Z (WLa Z (WL_nil (WQ_code (WC_dF Z (by exact fun e => e hm) ?_)))))))))))
 refine WCr (WLa Z (WLa Z (WLa Z (WLa Z (WL_nil (WQ_code (WC_dF Z (by omega) ?_)))))))
 refine WCr (WLa Z (WLa Z (WLf Z fa68_4 (WLl Z sc66 mmD Z (WLa Z (WLv Z (R_lookK0 (k := n) (zv := .pointer none) Z Tryz.underlying66 int_key Z Z mmD h.mp hno (fun w => Tryz.zeroValue87 w)) ?_))))))
 refine WLv Z (R_ptrNeNil Z Tryz.underlying87 Z) ?_
 refine WLa Z (WL_nil (WQ_code (WC_F Z (WCr (WLa Z (WLq Z (xfull_ok m x hE) Z pqD ?_))))))
 refine WLa Z (WLa Z (WL_nil (WQ_code (WC_dF Z (by exact fun e => e rfl) ?_))))
 refine WC_skip (WQ_code (WCr (WLa Z (WLa Z (WLa Z (WLf Z fa68_3 (WLs (vs := [_]) Z Tryz.sizeOf25 Z Z plD (nb Z) ?_)))))))
 refine WL_nil (WQ_code (WCr (WLa Z (WLa Z (WLa Z (WLv Z (R_build Z zv90 pl90 Z Z) ?_))))))
 refine WLd Z (D_box (cs := [_, _, _, _, _, _, _, _, _]) Z Z Z) ?_
 rintro _ _ ⟨b1, rfl, rfl⟩
 refine WLa Z (WL_nil (WQ_code (WCr (WLa Z (WLa Z (WLf Z fa68_4 (WLl Z sc66 mmD Z (WLa Z (WLa Z (WL_do0 Z Z (D_mapAddK (k := n) (v := b1) Z Tryz.underlying66 int_key Z Z Z plD h.mp hno) ?_))))))))))
 rintro _ _ ⟨es9, hM9, rfl⟩
 refine WL_nil (WQ_code (WCr (WLa Z (WL_shape (A := [seE (newS n dl key b1)] ++ ssH x.S) pqD (ssH_snoc x.S _) ?_))))
 have hnd9 : ((x.beg0 n now dl key b1).S.map (·.num)).Nodup := by
  have := hM9.nodup
  show ((x.S ++ [newS n dl key b1]).map (·.num)).Nodup
  rw [List.map_append]
  rw [List.map_cons, sesM_keys] at this
  exact (List.perm_append_comm (l₁ := [n])).nodup_iff.1 this
 have hdl9 : delL (sesM (x.beg0 n now dl key b1).S) (newS n dl key b1).num = sesM (x.S ++ []) := ses_del rfl hnd9
 refine WLa Z (WLc Z (xattempt_ok (h.beg0 (dl := dl) (key := key) hr (by omega) hM9) hN (by show x.E.length ≤ _; omega) (A := x.S) (B := []) (s := newS n dl key b1) Z hk (by show 0 ≤ 1000; omega) (by show x.b.last ≤ now; omega) hpo hdl9) Z pqD ?_)
 rintro _ _ ⟨_, ⟨m1, rfl, rfl, h1, hp1⟩, rfl⟩
 refine WL_nil (WQ_code (WCr (WLa Z (WL_nil (WQ_code (WC_ret ?_))))))
 rw [attF_eq (x := x.beg0 n now dl key b1) (A := x.S) (B := []) (s := newS n dl key b1) rfl hnd9] at h1 ⊢
 refine WQ1 Z (by
   exact ⟨m1, b1, rfl, rfl, h1, hp1⟩) pqD
def PX.inX (x : PX) (n st : Int) (now : Nat) : Int :=
 if x.may (decide (0 ≤ n ∧ n ≤ 100)) now ≠ 0 then x.may (decide (0 ≤ n ∧ n ≤ 100)) now
 else match x.S.find? (fun s => decide (s.num = n)) with
  | none => 9
  | some s => if s.st = st then 0 else 9
def PX.dial1 (x : PX) (s : Ss) (good : Bool) (now i : Nat) (si : PS) : PX := { x with now := now, P := x.P.set i (si.dialed s.cn good now) }
def PX.dialN (x : PX) (s : Ss) (good : Bool) (now : Nat) : PX := match x.P[s.be.toNat]? with
 | none => x
 | some si =>
  if good = true then { (x.dial1 s good now s.be.toNat si).tell ⟨1, s.num, s.be, s.cn, 0⟩ with S := updS x.S s.num fun _ => { s with st := 4 } }
  else PX.fldF { (x.dial1 s good now s.be.toNat si).drain s.be.toNat with b := ((x.dial1 s good now s.be.toNat si).drain s.be.toNat).b.doneX now s.cal false } s
def PX.end1 (x : PX) (s : Ss) (good : Bool) (now i : Nat) (si : PS) : PX := { x with now := now, P := x.P.set i (si.put s.cn good now), b := x.b.doneX now s.cal good, S := x.S.filter fun y => decide (y.num ≠ s.num) }
def PX.endN (x : PX) (s : Ss) (good : Bool) (now : Nat) : PX := match x.P[s.be.toNat]? with
 | none => x
 | some si => (x.end1 s good now s.be.toNat si).drain s.be.toNat
theorem dialN_eq {x : PX} {s : Ss} {good : Bool} {now i : Nat} {si : PS} (hb : s.be = (i : Int)) (hi : x.P[i]? = some si) : x.dialN s good now = if good = true then { (x.dial1 s good now i si).tell ⟨1, s.num, s.be, s.cn, 0⟩ with S := updS x.S s.num fun _ => { s with st := 4 } }
  else PX.fldF { (x.dial1 s good now i si).drain i with b := ((x.dial1 s good now i si).drain i).b.doneX now s.cal false } s := by
 have e : s.be.toNat = i := by rw [hb]; exact Int.toNat_natCast i
 unfold PX.dialN
 rw [e, hi]
theorem endN_eq {x : PX} {s : Ss} {good : Bool} {now i : Nat} {si : PS} (hb : s.be = (i : Int)) (hi : x.P[i]? = some si) : x.endN s good now = (x.end1 s good now i si).drain i := by
 have e : s.be.toNat = i := by rw [hb]; exact Int.toNat_natCast i
 unfold PX.endN
 rw [e, hi]
theorem inX_zero {x : PX} {n st : Int} {now : Nat} (h : x.inX n st now = 0) : ∃ A s B, x.S = A ++ s :: B ∧ s.num = n ∧ s.st = st ∧ x.may (decide (0 ≤ n ∧ n ≤ 100)) now = 0 ∧ (0 ≤ n ∧ n ≤ 100) ∧ x.now ≤ now ∧ now ≠ 18446744073709551615 := by
 unfold PX.inX at h
 split at h
 ·rename_i h1; exact absurd h h1
 ·rename_i h1
  have h1 := Decidable.byContradiction h1
  split at h
  ·cases h
  ·rename_i s hf
   split at h
   ·rename_i h3
    obtain ⟨e1, e2, e3⟩ := xmay_zero_of h1
    obtain ⟨A, B, hS⟩ := List.append_of_mem (List.mem_of_find?_eq_some hf)
    exact ⟨A, s, B, hS, by simpa using List.find?_some hf, h3, h1, of_decide_eq_true e1, e2, e3⟩
   ·cases h
theorem PoIn.later {S : List Ss} {now now' i : Nat} {s : PS} (h : PoIn S now i s) (hn : now ≤ now') : PoIn S now' i s := ⟨h.ph, Nat.le_trans h.nw hn, h.nd, h.ks, h.wt, h.dl⟩
theorem PXG.at_ {x : PX} (h : PXG x) {now : Nat} (hn : x.now ≤ now) : PXG { x with now := now } := ⟨Nat.le_trans h.bl hn, h.nd, h.ks, h.bk, fun i si hi => (h.po i si hi).later hn⟩
theorem PXG.tell {x : PX} (h : PXG x) (v : Xv) : PXG (x.tell v) := ⟨h.bl, h.nd, h.ks, h.bk, h.po⟩
theorem PXG.pool {x : PX} (h : PXG x) {i : Nat} {si s' : PS} (hi : x.P[i]? = some si) (hp : PoIn x.S x.now i s') : PXG { x with P := x.P.set i s' } :=
 ⟨h.bl, h.nd, h.ks, by show ∀ s ∈ x.S, _ → ∃ j : Nat, _ ∧ j < (x.P.set i s').length; rw [List.length_set]; exact h.bk, po_set hi hp fun j sj _ hj => h.po j sj hj⟩
def NoDial (n : Int) (x : PX) : Prop := ∀ (i : Nat) (si : PS), x.P[i]? = some si → ∀ c ∈ si.C, c.st = 1 → c.who ≠ n
theorem PXG.noPend {x : PX} (h : PXG x) {s : Ss} (hs : s ∈ x.S) (hst : s.st ≠ 2) {i : Nat} {si : PS} (hi : x.P[i]? = some si) : s.num ∉ si.pend := fun e => by
 obtain ⟨y, hy, e1, e2, _⟩ := (h.po i si hi).wt _ e
 rw [uniq_num h.nd hy hs e1] at e2
 exact hst e2
theorem PXG.noDial {x : PX} (h : PXG x) {s : Ss} (hs : s ∈ x.S) (hst : s.st ≠ 2) (hst3 : s.st ≠ 3) : NoDial s.num x := fun i si hi c hc h1 hw => by
 obtain ⟨k, hk⟩ := List.mem_iff_getElem?.1 hc
 rcases (h.po i si hi).dl k c hk h1 with ⟨y, hy, e1, e2, _⟩ | e
 ·rw [uniq_num h.nd hy hs (e1.trans hw)] at e2
  exact hst3 e2
 ·exact h.noPend hs hst hi (by rw [← hw]; exact ev_pend e)
theorem PoIn.away {x : PX} (h : PXG x) {s : Ss} (hs : s ∈ x.S) (hst : s.st ≠ 2) (hd : NoDial s.num x) {S' : List Ss} (ho : OnlyAt s.num x.S S') {i : Nat} {si : PS} (hi : x.P[i]? = some si) : PoIn S' x.now i si :=
 (h.po i si hi).chg ho (h.noPend hs hst hi) fun c y hy h1 hw => absurd hw (hd i si hi y (List.mem_of_getElem? hy) h1)
theorem PXG.fldF {x : PX} (h : PXG x) {A B : List Ss} {s : Ss} (hS : x.S = A ++ s :: B) (hst : s.st ≠ 2) (hd : NoDial s.num x) (hpl : x.pl.tries ≤ 100) : PXG (x.fldF s) := by
 have hs : s ∈ x.S := by rw [hS]; exact List.mem_append_right _ (List.mem_cons_self ..)
 rw [fldF_eq hS h.nd]
 split
 ·rename_i hf
  refine h.swap hS rfl rfl ⟨(h.ks s hs).1, ?_⟩ (fun e => ?_) h.bl rfl fun i si hi => PoIn.away h hs hst hd (by rw [hS]; exact onlyAt_swap _) hi
  ·show s.tr + 1 ≤ 100
   unfold PX.failE at hf
   split at hf
   ·cases hf
   ·omega
  ·have e : (1 : Int) = 2 ∨ (1 : Int) = 3 ∨ (1 : Int) = 4 := e
   omega
 ·exact h.drop hS rfl h.bl rfl fun i si hi => PoIn.away h hs hst hd (by rw [hS]; exact onlyAt_drop) hi
theorem drain_P (i : Nat) : ∀ (n : Nat) (x : PX), (PX.drainL i n x).now = x.now ∧ (PX.drainL i n x).pl = x.pl ∧ (PX.drainL i n x).P.length = x.P.length ∧ (∀ (j : Nat) (sj : PS), (PX.drainL i n x).P[j]? = some sj → ∃ sj', x.P[j]? = some sj' ∧ sj = { sj' with E := sj.E })
 | 0, x => ⟨rfl, rfl, rfl, fun j sj h => ⟨sj, h, rfl⟩⟩
 | n + 1, x => by
  unfold PX.drainL
  split
  ·exact ⟨rfl, rfl, rfl, fun j sj h => ⟨sj, h, rfl⟩⟩
  ·rename_i si hi
   split
   ·exact ⟨rfl, rfl, rfl, fun j sj h => ⟨sj, h, rfl⟩⟩
   ·rename_i e r hE
    obtain ⟨a, b, c, d⟩ := drain_P i n ((x.nxP i si).drE i e)
    obtain ⟨p1, p2, p3⟩ := drE_P i (x.nxP i si) e
    refine ⟨a.trans p2, b.trans p3, by rw [c, p1]; exact List.length_set .., fun j sj hj => ?_⟩
    obtain ⟨sj', h1, h2⟩ := d j sj hj
    rw [p1] at h1
    have h1 : (x.P.set i si.nx)[j]? = some sj' := h1
    by_cases e : i = j
    ·subst e
     rw [List.getElem?_set_self (List.getElem?_eq_some_iff.1 hi).1] at h1
     refine ⟨si, hi, ?_⟩
     rw [h2, ← Option.some.inj h1]; rfl
    ·rw [List.getElem?_set_ne e] at h1
     exact ⟨sj', h1, h2⟩
theorem drain_eqL (x : PX) (i : Nat) : ∃ n, x.drain i = PX.drainL i n x := by
 unfold PX.drain
 split
 ·exact ⟨0, rfl⟩
 ·exact ⟨_, rfl⟩
theorem drain_now (x : PX) (i : Nat) : (x.drain i).now = x.now := by obtain ⟨n, e⟩ := drain_eqL x i; rw [e]; exact (drain_P i n x).1
theorem drain_pl (x : PX) (i : Nat) : (x.drain i).pl = x.pl := by obtain ⟨n, e⟩ := drain_eqL x i; rw [e]; exact (drain_P i n x).2.1
theorem drain_len (x : PX) (i : Nat) : (x.drain i).P.length = x.P.length := by obtain ⟨n, e⟩ := drain_eqL x i; rw [e]; exact (drain_P i n x).2.2.1
theorem drain_at {x : PX} {i j : Nat} {sj : PS} (h : (x.drain i).P[j]? = some sj) : ∃ sj', x.P[j]? = some sj' ∧ sj = { sj' with E := sj.E } := by obtain ⟨n, e⟩ := drain_eqL x i; rw [e] at h; exact (drain_P i n x).2.2.2 j sj h
theorem NoDial.drain {n : Int} {x : PX} (h : NoDial n x) (i : Nat) : NoDial n (x.drain i) := fun j sj hj c hc => by
 obtain ⟨sj', h1, h2⟩ := drain_at hj
 exact h j sj' h1 c (by rw [h2] at hc; exact hc)
theorem drainL_ok (i : Nat) : ∀ (n : Nat) (x : PX), PXG x → PXG (PX.drainL i n x) ∧ (∀ s ∈ x.S, s.st ≠ 2 → s ∈ (PX.drainL i n x).S)
 | 0, x, h => ⟨h, fun s hs _ => hs⟩
 | n + 1, x, h => by
  unfold PX.drainL
  split
  ·exact ⟨h, fun s hs _ => hs⟩
  ·rename_i si hi
   split
   ·exact ⟨h, fun s hs _ => hs⟩
   ·rename_i e r hE
    obtain ⟨hk, g2⟩ := drE_ok h hi hE
    obtain ⟨a, b⟩ := drainL_ok i n _ g2
    refine ⟨a, fun s hs hst => b s ?_ hst⟩
    rcases hk with hk | ⟨hk, A, s9, B, hS, hw, hst9, _⟩
    ·rw [drE_5 hk]; exact hs
    ·have hne : s.num ≠ s9.num := fun e9 => hst (by rw [uniq_num h.nd hs (by rw [hS]; exact List.mem_append_right _ (List.mem_cons_self ..)) e9]; exact hst9)
     have hs' := hs
     rw [hS] at hs'
     rcases hk with hk | hk | hk
     ·rw [drE_1 (x := x.nxP i si) h.nd hS hw.symm hk]
      exact onlyAt_swap _ s hs' hne
     ·rw [drE_2 (x := x.nxP i si) h.nd hS hw.symm hk]
      exact onlyAt_swap _ s hs' hne
     ·rw [drE_4 (x := x.nxP i si) h.nd hS hw.symm hk]
      exact onlyAt_drop s hs' hne
theorem PXG.drain {x : PX} (h : PXG x) (i : Nat) : PXG (x.drain i) := by obtain ⟨n, e⟩ := drain_eqL x i; rw [e]; exact (drainL_ok i n x h).1
theorem drain_keep {x : PX} (h : PXG x) (i : Nat) {s : Ss} (hs : s ∈ x.S) (hst : s.st ≠ 2) : s ∈ (x.drain i).S := by obtain ⟨n, e⟩ := drain_eqL x i; rw [e]; exact (drainL_ok i n x h).2 s hs hst
theorem ph_dialed {s : PS} (h : PH s) (c : Int) (made : Bool) {now : Nat} (hn : s.now ≤ now) : PH (s.dialed c made now) ∧ (s.dialed c made now).now ≤ now := by
 by_cases he : s.inE c 1 now = 0
 ·obtain ⟨k, _, _, _, r⟩ := dialed_R h he made
  exact ⟨r.ph, by rw [r.now]; exact Nat.le_refl _⟩
 ·rw [dialed_no he]; exact ⟨h, hn⟩
theorem ph_put {s : PS} (h : PH s) (c : Int) (good : Bool) {now : Nat} (hn : s.now ≤ now) : PH (s.put c good now) ∧ (s.put c good now).now ≤ now := by
 by_cases he : s.inE c 2 now = 0
 ·obtain ⟨k, _, _, _, r⟩ := put_R h he good
  exact ⟨r.ph, by rw [r.now]; exact Nat.le_refl _⟩
 ·rw [put_no he]; exact ⟨h, hn⟩
theorem ph_adv {s : PS} (h : PH s) {now : Nat} (hn : s.now ≤ now) : PH (s.advance now) ∧ (s.advance now).now ≤ now := by
 by_cases he : s.may true now = 0
 ·have r := adv_R h he
  exact ⟨r.ph, by rw [r.now]; exact Nat.le_refl _⟩
 ·rw [adv_no he]; exact ⟨h, hn⟩
theorem pend_who {S : List Ss} {now i : Nat} {s : PS} (h : PoIn S now i s) : (s.Q.map (·.who)).Nodup := by
 have := h.nd
 unfold PS.pend at this
 exact (List.nodup_append.1 this).2.1
theorem PXG.dial1 {x : PX} (h : PXG x) (s : Ss) (good : Bool) {now i : Nat} {si : PS} (hi : x.P[i]? = some si) (hn : x.now ≤ now) : PXG (x.dial1 s good now i si) := by
 have hp := (h.po i si hi).later hn
 obtain ⟨a, b⟩ := ph_dialed hp.ph s.cn good hp.nw
 exact (h.at_ hn).pool (x := { x with now := now }) hi (hp.op (opd_dialed si s.cn good now) a b)
theorem px_perm5 {a b c d e : Ent} {SS S2 R : Heap} (h : SS.Perm (e :: S2)) : ([a, b, c, d] ++ (SS ++ R)).Perm ([a, b, e] ++ ([c, d] ++ (S2 ++ R))) := by
 refine List.Perm.cons a (List.Perm.cons b ?_)
 exact ((h.append_right R).append_left [c, d]).trans (List.perm_middle (l₁ := [c, d]) (a := e) (l₂ := S2 ++ R))
theorem xin_err {N : Nat} {m : XM} {x : PX} (h : PXIs N m x) (n st : Int) (now : Nat) (he : x.inX n st now ≠ 0) : Spec Tryz.prog 34 [ptrP m.p, .int .i64 n, .int .i64 st, .int .u64 (now : Int)] (pxH m x) (fun r H' => r = .tuple #[.pointer none, .int .i64 (x.inX n st now)] ∧ H' = pxH m x) := by
 by_cases hm : x.may (decide (0 ≤ n ∧ n ≤ 100)) now = 0
 ·by_cases hin : n ∈ x.S.map (·.num)
  ·obtain ⟨s, hs, rfl⟩ := List.mem_map.1 hin
   have hnd : (x.S.map (·.num)).Nodup := by rw [← sesM_keys]; exact h.mp.nodup
   have hX : x.inX s.num st now = if s.st = st then 0 else 9 := by unfold PX.inX; rw [if_neg (by rw [hm]; decide), find_num hnd hs]
   have hst : s.st ≠ st := fun e => he (by rw [hX, if_pos e])
   obtain ⟨A, B, hS⟩ := List.append_of_mem hs
   have hperm : (ssH x.S).Perm (seE s :: ssH (A ++ B)) := by rw [hS]; exact ssH_split A B s
   rw [hX, if_neg hst]
   refine Spec.re ((((xin_not m x h.mp s (List.mem_map_of_mem (f := fun s : Ss => (s.num, s.p)) hs) st now hm hst).fr _).perm (px_perm5 hperm)).mono ?_)
   rintro r H' ⟨H1, ⟨hr, rfl⟩, rfl⟩
   exact ⟨pxH m x, (px_perm5 hperm).symm, hr, rfl⟩
  ·have hX : x.inX n st now = 9 := by
    have : x.S.find? (fun s => decide (s.num = n)) = none := List.find?_eq_none.2 fun s hs => by
     simp only [decide_eq_true_eq]
     exact fun e => hin (by rw [← e]; exact List.mem_map_of_mem hs)
    unfold PX.inX; rw [if_neg (by rw [hm]; decide), this]
   rw [hX]
   refine ((xin_out m x h.mp n st now hm (by rw [sesM_keys]; exact hin)).fr ([pxV m x, pxQ m] ++ (ssH x.S ++ (balH m.bm ++ poolsH m.pm x.P)))).mono ?_
   rintro r H' ⟨H1, ⟨hr, rfl⟩, rfl⟩
   exact ⟨hr, rfl⟩
 ·have hX : x.inX n st now = x.may (decide (0 ≤ n ∧ n ≤ 100)) now := by unfold PX.inX; rw [if_pos hm]
  rw [hX]
  refine ((xin_bad m x n st now hm).fr ([pxM m, pxV m x, pxQ m] ++ (ssH x.S ++ (balH m.bm ++ poolsH m.pm x.P)))).mono ?_
  rintro r H' ⟨H1, ⟨hr, rfl⟩, rfl⟩
  exact ⟨hr, rfl⟩
theorem xin_all {N : Nat} {m : XM} {x : PX} (h : PXIs N m x) (hE : x.E.length ≤ 10000) {A B : List Ss} {s : Ss} (hS : x.S = A ++ s :: B) {st : Int} (hst : s.st = st) {now : Nat} (hm : x.may (decide (0 ≤ s.num ∧ s.num ≤ 100)) now = 0) : Spec Tryz.prog 34 [ptrP m.p, .int .i64 s.num, .int .i64 st, .int .u64 (now : Int)] (pxH m x) (fun r H' => r = .tuple #[ptrS s.p, .int .i64 0] ∧ H' = pxH m x) := by
 have hperm : (ssH x.S).Perm (seE s :: ssH (A ++ B)) := by rw [hS]; exact ssH_split A B s
 have hin : (s.num, s.p) ∈ sesM x.S := by rw [hS]; exact List.mem_map_of_mem (f := fun s : Ss => (s.num, s.p)) (List.mem_append_right _ (List.mem_cons_self ..))
 refine Spec.re ((((xin_ok m x hE h.mp s hin st now hm hst).fr _).perm (px_perm5 hperm)).mono ?_)
 rintro r H' ⟨H1, ⟨hr, rfl⟩, rfl⟩
 exact ⟨pxH m x, (px_perm5 hperm).symm, hr, rfl⟩
theorem pm_ent {m : XM} {x : PX} {i : Nat} {mi m1 : PM} {s' : PS} (hmi : m.pm[i]? = some mi) (hp : m1.p = mi.p) (now : Nat) : ([pxE m { x with now := now }, pxQ m] : Heap).Perm [pxE { m with pm := m.pm.set i m1 } { x with now := now, P := x.P.set i s' }, pxQ { m with pm := m.pm.set i m1 }] := by
 simp only [pxE, pxC, pxQ, List.length_set, pms_set hmi hp]
 exact List.Perm.refl _
theorem pm_entB {m : XM} {x : PX} {i : Nat} {mi m1 : PM} {s' : PS} {b1 : Bm} (hmi : m.pm[i]? = some mi) (hp : m1.p = mi.p) (hb : b1.p = m.bm.p) (now : Nat) (b : BS) (S : List Ss) : ([pxE m { x with now := now }, pxQ m] : Heap).Perm [pxE { m with pm := m.pm.set i m1, bm := b1 } { x with now := now, P := x.P.set i s', b := b, S := S }, pxQ { m with pm := m.pm.set i m1, bm := b1 }] := by
 simp only [pxE, pxC, pxQ, List.length_set, pms_set hmi hp, hb]
 exact List.Perm.refl _
theorem drE_Elen (i : Nat) : ∀ (n : Nat) (x : PX), (PX.drainL i n x).E.length ≤ x.E.length + n
 | 0, x => Nat.le_refl _
 | n + 1, x => by
  unfold PX.drainL
  split
  ·omega
  ·rename_i si hi
   split
   ·omega
   ·rename_i e r hE
    have a := drE_Elen i n ((x.nxP i si).drE i e)
    have b : ((x.nxP i si).drE i e).E.length ≤ x.E.length + 1 := drE_E i (x.nxP i si) e
    omega
theorem drain_E {x : PX} {i : Nat} {si : PS} (hi : x.P[i]? = some si) : (x.drain i).E.length ≤ x.E.length + si.E.length := by
 unfold PX.drain; rw [hi]; exact drE_Elen i _ x
theorem PXG.end1 {x : PX} (h : PXG x) {A B : List Ss} {s : Ss} (hS : x.S = A ++ s :: B) (hst : s.st = 4) (good : Bool) {now i : Nat} {si : PS} (hi : x.P[i]? = some si) (hn : x.now ≤ now) : PXG { x with now := now, P := x.P.set i (si.put s.cn good now), b := x.b.doneX now s.cal good, S := A ++ B } := by
 have hp := (h.po i si hi).later hn
 obtain ⟨a, b⟩ := ph_put hp.ph s.cn good hp.nw
 have g2 := (h.at_ hn).pool (x := { x with now := now }) hi (hp.op (opd_put si s.cn good now) a b)
 have hs : s ∈ x.S := by rw [hS]; exact List.mem_append_right _ (List.mem_cons_self ..)
 exact g2.drop hS rfl (doneX_last _ _ _ _ g2.bl) rfl fun j sj hj => PoIn.away g2 hs (by rw [hst]; decide) (g2.noDial hs (by rw [hst]; decide) (by rw [hst]; decide)) (by rw [show PX.S _ = x.S from rfl, hS]; exact onlyAt_drop) hj
theorem PXIs.end1 {N : Nat} {m : XM} {x : PX} (h : PXIs N m x) {A B : List Ss} {s : Ss} (hS : x.S = A ++ s :: B) (hnd : (x.S.map (·.num)).Nodup) {i : Nat} {mi m1 : PM} {s' : PS} (hmi : m.pm[i]? = some mi) (hp : m1.p = mi.p) (hi : PIs m1 s') {now : Nat} (hb : now ≤ 18446744073709551614) {bm1 : Bm} {n : Int} {good : Bool} (hI : BIs (N + 1) bm1 (x.b.doneX now n good)) {es : Array MapEntry} (hM : Mk ekW ptrS es m.smc (delL (sesM x.S) s.num)) :
  PXIs (N + 1) { m with pm := m.pm.set i m1, bm := bm1, ses := es } { x with now := now, P := x.P.set i s', b := x.b.doneX now n good, S := A ++ B } := by
 have q := ((h.at_ hb).pool (x := { x with now := now }) hmi hp hi).done hI
 rw [ses_del hS hnd] at hM
 exact ⟨q.bal, q.len, q.po, q.oq, hM, q.eO, q.ok, q.seed, fun y hy => h.num y (by
  rw [hS]
  rcases List.mem_append.1 hy with hy | hy
  ·exact List.mem_append_left _ hy
  ·exact List.mem_append_right _ (List.mem_cons_of_mem _ hy)), q.vl, q.now⟩
theorem xdialed_err {N : Nat} {m : XM} {x : PX} (h : PXIs N m x) (n : Int) (made : Bool) (now : Nat) (he : x.inX n 3 now ≠ 0) : Spec Tryz.prog 13 [ptrP m.p, .int .i64 n, .bool made, .int .u64 (now : Int)] (pxH m x) (fun r H' => r = .int .i64 (x.inX n 3 now) ∧ H' = pxH m x) := by
 refine Spec.of (E := [(0, ptrP m.p), (1, .int .i64 n), (2, .bool made), (3, .int .u64 (now : Int))]) Tryz.func13 rfl (by kernel_rfl) Tryz.ntmps13 rfl rfl (fun w => ?_)
 refine WCr (WLa Z (WL_nil (WQ_code (WCr (WLa Z (WLa Z (WLa Z (WLc Z (xin_err h n 3 now he) Z pqD ?_))))))))
 rintro _ _ ⟨_, ⟨rfl, rfl⟩, rfl⟩
 refine WLa Z (WLa Z (WLa Z (WLa Z (WLa Z (WL_nil (WQ_code (WC_seq (WCr (WLa Z (WLa Z (WL_nil (WQ_code (WC_dT Z (by exact he) ?_)))))))))))))
 refine WCr (WLa Z (WLa Z (WL_nil (WQ_code (WC_ret ?_)))))
 refine WQ1 Z (by
   exact ⟨rfl, rfl⟩) pqD
theorem xend_err {N : Nat} {m : XM} {x : PX} (h : PXIs N m x) (n : Int) (made : Bool) (now : Nat) (he : x.inX n 4 now ≠ 0) : Spec Tryz.prog 14 [ptrP m.p, .int .i64 n, .bool made, .int .u64 (now : Int)] (pxH m x) (fun r H' => r = .int .i64 (x.inX n 4 now) ∧ H' = pxH m x) := by
 refine Spec.of (E := [(0, ptrP m.p), (1, .int .i64 n), (2, .bool made), (3, .int .u64 (now : Int))]) Tryz.func14 rfl (by kernel_rfl) Tryz.ntmps14 rfl rfl (fun w => ?_)
 refine WCr (WLa Z (WL_nil (WQ_code (WCr (WLa Z (WLa Z (WLa Z (WLc Z (xin_err h n 4 now he) Z pqD ?_))))))))
 rintro _ _ ⟨_, ⟨rfl, rfl⟩, rfl⟩
 refine WLa Z (WLa Z (WLa Z (WLa Z (WLa Z (WL_nil (WQ_code (WC_seq (WCr (WLa Z (WLa Z (WL_nil (WQ_code (WC_dT Z (by exact he) ?_)))))))))))))
 refine WCr (WLa Z (WLa Z (WL_nil (WQ_code (WC_ret ?_)))))
 refine WQ1 Z (by
   exact ⟨rfl, rfl⟩) pqD
theorem xdialed_made {N : Nat} {m : XM} {x : PX} (h : PXIs N m x) (hg : PXG x) (hN : N ≤ 8000) (hE : x.E.length ≤ 10000) {A B : List Ss} {s : Ss} (hS : x.S = A ++ s :: B) (hst : s.st = 3) {now : Nat} (hb : now ≤ 18446744073709551615) (hm : x.may (decide (0 ≤ s.num ∧ s.num ≤ 100)) now = 0) {i : Nat} {si : PS} (hbe : s.be = (i : Int)) (hi : x.P[i]? = some si) (hiE : si.E.length ≤ 10000) :
  Spec Tryz.prog 13 [ptrP m.p, .int .i64 s.num, .bool true, .int .u64 (now : Int)] (pxH m x) (fun r H' => ∃ m', r = .int .i64 0 ∧ H' = pxH m' (x.dialN s true now) ∧ PXIs N m' (x.dialN s true now) ∧ m'.p = m.p) := by
 have hs : s ∈ x.S := by rw [hS]; exact List.mem_append_right _ (List.mem_cons_self ..)
 have hnd := hg.nd
 obtain ⟨mi, hmi⟩ := pool_at h hi
 have hil := (List.getElem?_eq_some_iff.1 hi).1
 have hpl := h.oq.len
 obtain ⟨wq, hwq⟩ := h.oq.some_of (by omega)
 obtain ⟨hr9, hn1, hn2⟩ := xmay_zero_of hm
 have ht := (hg.ks s hs).2
 have hbl := hg.bl
 have hX : x.dialN s true now = { (x.dial1 s true now i si).tell ⟨1, s.num, s.be, s.cn, 0⟩ with S := A ++ { s with st := 4, cn := s.cn } :: B } := by
  rw [dialN_eq hbe hi, if_pos rfl, updS_at hS hnd]
 refine Spec.of (E := [(0, ptrP m.p), (1, .int .i64 s.num), (2, .bool true), (3, .int .u64 (now : Int))]) Tryz.func13 rfl (by kernel_rfl) Tryz.ntmps13 rfl rfl (fun w => ?_)
 refine WCr (WLa Z (WL_nil (WQ_code (WCr (WLa Z (WLa Z (WLa Z (WLc Z (xin_all h hE hS hst hm) Z pqD ?_))))))))
 rintro _ _ ⟨_, ⟨rfl, rfl⟩, rfl⟩
 refine WLa Z (WLa Z (WLa Z (WLa Z (WLa Z (WL_nil (WQ_code (WC_seq (WCr (WLa Z (WLa Z (WL_nil (WQ_code (WC_dF Z (by exact fun e => e rfl) ?_)))))))))))))
 refine WC_skip (WQ_code (WCr (WLa Z ?_)))
 have hpm9 : (ssH x.S).Perm (seE s :: ssH (A ++ B)) := by rw [hS]; exact ssH_split A B s
 refine WL_shape (A := ssH x.S) pqD hpm9 ?_
 refine WLa Z (WLa Z (WLf Z fa68_3 (WLs (vs := [_]) Z Tryz.sizeOf25 Z Z plD (nb Z) ?_)))
 refine WL_nil (WQ_code (WC_seq (WC_draw _ [(0, true), (1, true), (2, true), (3, true), (4, true), (5, true), (6, true), (7, true), (8, true), (9, true)] followsMixed Z Z (by kernel_rfl) .all ?_)))
 refine WMa Z (WMa Z (WMf Z fa90_7 (WMl Z sc3 mmD Z (WMa Z (WMa Z (WMf Z fa90_6 (WMl Z sc3 mmD Z (WMa Z (WMa Z (WM_nil (WQ_code (WC_seq (WC_drawR (poolsH m.pm x.P) [(0, true), (1, true), (2, true), (3, true), (4, true), (5, true), (6, true), (7, true), (8, true), (9, true), (10, true), (11, true), (12, true), (13, false)] followsMixed Z Z (by kernel_rfl) pqD ?_)))))))))))))
 refine WMa Z (WMa Z (WMf Z fa68_1 (WMl Z sc56 mmD Z (WMa Z (WM_set (s := 39) (v := .int .i64 (i : Int)) Z (by rw [hbe]) ?_)))))
 refine WMv Z (R_idxO hwq Z Tryz.underlying56 Tryz.sizeOf79 Z Z (by omega)) ?_
 refine WMv Z (R_loadO (v := ptrP mi.p) hwq Z sc79 Z mmD (fm_get0 encPq1 hmi (j := 0) (by omega))) ?_
 refine WMa Z (WMa Z (WMf Z fa90_8 (WMl Z sc3 mmD Z (WMa Z (WMa Z (WMd Z (D_call (xp_dialed hmi hi (h.po i mi si hmi hi) hiE s.cn true now (by omega)) Z Z Z Z pqD) ?_))))))
 rintro _ _ ⟨_, ⟨m1, rfl, rfl, hp1, h1⟩, rfl⟩
 refine ⟨⟨_, pqD⟩, ?_⟩
 refine WM_nil (WQ_code (WC_seq (WCr (WLa Z (WL_shape (A := [pxE m { x with now := now }, pxQ m]) pqD (pm_ent (s' := si.dialed s.cn true now) hmi hp1 now) ?_)))))
 have h1x : PXIs N { m with pm := m.pm.set i m1 } (x.dial1 s true now i si) := (h.at_ (by omega)).pool (x := { x with now := now }) hmi hp1 h1
 refine WL_nil (WQ_code (WC_T Z (WCr (WLa Z (WLa Z (WLa Z (WLa Z (WLf Z fa90_8 (WLl Z sc3 mmD Z (WL_shape (A := seE s :: ssH (A ++ B)) pqD hpm9.symm ?_))))))))))
 refine WLc Z (xact_all h1x (by show x.E.length ≤ _; omega) hS s.cn) Z pqD ?_
 rintro _ _ ⟨_, ⟨m2, rfl, rfl, h2, hp2, _, _, _, _, _⟩, rfl⟩
 refine WL_nil (WQ_code (WCr (WLa Z (WL_nil (WQ_code (WC_ret ?_))))))
 refine WQ1 Z (by
   rw [hX]
   exact ⟨m2, rfl, rfl, h2, hp2⟩) pqD
theorem xdialed_lost {N : Nat} {m : XM} {x : PX} (h : PXIs N m x) (hg : PXG x) (hN : N ≤ 8000) (hE : x.E.length ≤ 10000) {A B : List Ss} {s : Ss} (hS : x.S = A ++ s :: B) (hst : s.st = 3) {now : Nat} (hb : now ≤ 18446744073709551615) (hm : x.may (decide (0 ≤ s.num ∧ s.num ≤ 100)) now = 0) {i : Nat} {si : PS} (hbe : s.be = (i : Int)) (hi : x.P[i]? = some si) (hiE : si.E.length ≤ 10000) (hdE : (si.dialed s.cn false now).E.length ≤ 2) :
  Spec Tryz.prog 13 [ptrP m.p, .int .i64 s.num, .bool false, .int .u64 (now : Int)] (pxH m x) (fun r H' => ∃ m', r = .int .i64 0 ∧ H' = pxH m' (x.dialN s false now) ∧ PXIs (N + 3) m' (x.dialN s false now) ∧ m'.p = m.p) := by
 have hs : s ∈ x.S := by rw [hS]; exact List.mem_append_right _ (List.mem_cons_self ..)
 have hnd := hg.nd
 obtain ⟨mi, hmi⟩ := pool_at h hi
 have hil := (List.getElem?_eq_some_iff.1 hi).1
 have hpl := h.oq.len
 obtain ⟨wq, hwq⟩ := h.oq.some_of (by omega)
 obtain ⟨hr9, hn1, hn2⟩ := xmay_zero_of hm
 have ht := (hg.ks s hs).2
 have hbl := hg.bl
 have g1 := hg.dial1 s false hi hn1
 have hi1 : (x.dial1 s false now i si).P[i]? = some (si.dialed s.cn false now) := List.getElem?_set_self hil
 have hX : x.dialN s false now = PX.fldF { (x.dial1 s false now i si).drain i with b := ((x.dial1 s false now i si).drain i).b.doneX ((x.dial1 s false now i si).drain i).now s.cal false } s := by
  rw [dialN_eq hbe hi, if_neg (by decide), drain_now]; rfl
 have hs3 : s ∈ ((x.dial1 s false now i si).drain i).S := drain_keep g1 i hs (by rw [hst]; decide)
 obtain ⟨A3, B3, hS3⟩ := List.append_of_mem hs3
 have hE3 : ((x.dial1 s false now i si).drain i).E.length ≤ x.E.length + (si.dialed s.cn false now).E.length := drain_E hi1
 refine Spec.of (E := [(0, ptrP m.p), (1, .int .i64 s.num), (2, .bool false), (3, .int .u64 (now : Int))]) Tryz.func13 rfl (by kernel_rfl) Tryz.ntmps13 rfl rfl (fun w => ?_)
 refine WCr (WLa Z (WL_nil (WQ_code (WCr (WLa Z (WLa Z (WLa Z (WLc Z (xin_all h hE hS hst hm) Z pqD ?_))))))))
 rintro _ _ ⟨_, ⟨rfl, rfl⟩, rfl⟩
 refine WLa Z (WLa Z (WLa Z (WLa Z (WLa Z (WL_nil (WQ_code (WC_seq (WCr (WLa Z (WLa Z (WL_nil (WQ_code (WC_dF Z (by exact fun e => e rfl) ?_)))))))))))))
 refine WC_skip (WQ_code (WCr (WLa Z ?_)))
 have hpm9 : (ssH x.S).Perm (seE s :: ssH (A ++ B)) := by rw [hS]; exact ssH_split A B s
 refine WL_shape (A := ssH x.S) pqD hpm9 ?_
 refine WLa Z (WLa Z (WLf Z fa68_3 (WLs (vs := [_]) Z Tryz.sizeOf25 Z Z plD (nb Z) ?_)))
 refine WL_nil (WQ_code (WC_seq (WC_draw _ [(0, true), (1, true), (2, true), (3, true), (4, true), (5, true), (6, true), (7, true), (8, true), (9, true)] followsMixed Z Z (by kernel_rfl) .all ?_)))
 refine WMa Z (WMa Z (WMf Z fa90_7 (WMl Z sc3 mmD Z (WMa Z (WMa Z (WMf Z fa90_6 (WMl Z sc3 mmD Z (WMa Z (WMa Z (WM_nil (WQ_code (WC_seq (WC_drawR (poolsH m.pm x.P) [(0, true), (1, true), (2, true), (3, true), (4, true), (5, true), (6, true), (7, true), (8, true), (9, true), (10, true), (11, true), (12, true), (13, false)] followsMixed Z Z (by kernel_rfl) pqD ?_)))))))))))))
 refine WMa Z (WMa Z (WMf Z fa68_1 (WMl Z sc56 mmD Z (WMa Z (WM_set (s := 39) (v := .int .i64 (i : Int)) Z (by rw [hbe]) ?_)))))
 refine WMv Z (R_idxO hwq Z Tryz.underlying56 Tryz.sizeOf79 Z Z (by omega)) ?_
 refine WMv Z (R_loadO (v := ptrP mi.p) hwq Z sc79 Z mmD (fm_get0 encPq1 hmi (j := 0) (by omega))) ?_
 refine WMa Z (WMa Z (WMf Z fa90_8 (WMl Z sc3 mmD Z (WMa Z (WMa Z (WMd Z (D_call (xp_dialed hmi hi (h.po i mi si hmi hi) hiE s.cn false now (by omega)) Z Z Z Z pqD) ?_))))))
 rintro _ _ ⟨_, ⟨m1, rfl, rfl, hp1, h1⟩, rfl⟩
 refine ⟨⟨_, pqD⟩, ?_⟩
 refine WM_nil (WQ_code (WC_seq (WCr (WLa Z (WL_shape (A := [pxE m { x with now := now }, pxQ m]) pqD (pm_ent (s' := si.dialed s.cn false now) hmi hp1 now) ?_)))))
 have h1x : PXIs N { m with pm := m.pm.set i m1 } (x.dial1 s false now i si) := (h.at_ (by omega)).pool (x := { x with now := now }) hmi hp1 h1
 refine WL_nil (WQ_code (WC_F Z (WC_skip (WQ_code (WCr (WLa Z (WLa Z (WL_set (s := 58) (v := .int .i64 (i : Int)) Z (by rw [hbe]) ?_))))))))
 refine WL_shape (A := seE s :: ssH (A ++ B)) pqD hpm9.symm ?_
 refine WLc Z (xdrain_ok h1x g1 hi1 (by omega) (by show x.E.length + _ ≤ _; omega)) Z pqD ?_
 rintro _ _ ⟨_, ⟨m2, N2, rfl, rfl, hN2, h2, kp2, g2⟩, rfl⟩
 refine WL_nil (WQ_code (WCr (WLa Z (WL_set (s := 60) (v := ptrP m2.p) Z (by rw [kp2.p]) ?_))))
 refine WLa Z (WLf Z fa68_0 (WLl Z sc55 mmD Z (WLa Z (WL_set (s := 64) (v := .int .u64 (((x.dial1 s false now i si).drain i).now : Int)) Z (by rw [drain_now]; rfl) ?_))))
 refine WLa Z (WLc Z (xd_all h2 (by omega) g2.bl s.cal false) Z pqD ?_)
 rintro _ _ ⟨_, ⟨m3, e3, rfl, rfl, h3, kp3, _⟩, rfl⟩
 refine WL_nil (WQ_code (WCr (WLa Z (WL_set (s := 67) (v := ptrP m3.p) Z (by rw [kp3.p, kp2.p]) ?_))))
 refine WLa Z (WLc Z (xfailed_all h3 (by show ((x.dial1 s false now i si).drain i).E.length ≤ _; omega) g2.nd hS3 (by omega)) Z pqD ?_)
 rintro _ _ ⟨_, ⟨m4, rfl, rfl, h4, hp4⟩, rfl⟩
 refine WL_nil (WQ_code (WCr (WLa Z (WL_nil (WQ_code (WC_ret ?_))))))
 refine WQ1 Z (by
   rw [hX]
   exact ⟨m4, rfl, rfl, h4.le (by omega), by rw [hp4, kp3.p, kp2.p]⟩) pqD
theorem xend_ok {N : Nat} {m : XM} {x : PX} (h : PXIs N m x) (hg : PXG x) (hN : N ≤ 8000) (hE : x.E.length ≤ 10000) {A B : List Ss} {s : Ss} (hS : x.S = A ++ s :: B) (hst : s.st = 4) (good : Bool) {now : Nat} (hb : now ≤ 18446744073709551615) (hm : x.may (decide (0 ≤ s.num ∧ s.num ≤ 100)) now = 0) {i : Nat} {si : PS} (hbe : s.be = (i : Int)) (hi : x.P[i]? = some si) (hiE : si.E.length ≤ 10000) (hdE : (si.put s.cn good now).E.length ≤ 2) :
  Spec Tryz.prog 14 [ptrP m.p, .int .i64 s.num, .bool good, .int .u64 (now : Int)] (pxH m x) (fun r H' => ∃ m', r = .int .i64 0 ∧ H' = pxH m' (x.endN s good now) ∧ PXIs (N + 3) m' (x.endN s good now) ∧ m'.p = m.p) := by
 have hs : s ∈ x.S := by rw [hS]; exact List.mem_append_right _ (List.mem_cons_self ..)
 have hnd := hg.nd
 obtain ⟨mi, hmi⟩ := pool_at h hi
 have hil := (List.getElem?_eq_some_iff.1 hi).1
 have hpl := h.oq.len
 obtain ⟨wq, hwq⟩ := h.oq.some_of (by omega)
 obtain ⟨hr9, hn1, hn2⟩ := xmay_zero_of hm
 have ht := (hg.ks s hs).2
 have hbl := hg.bl
 have hin : (s.num, s.p) ∈ sesM x.S := List.mem_map_of_mem (f := fun s : Ss => (s.num, s.p)) hs
 have g1 := hg.end1 hS hst good hi hn1
 have hi1 : (x.P.set i (si.put s.cn good now))[i]? = some (si.put s.cn good now) := List.getElem?_set_self hil
 have hX : x.endN s good now = PX.drain { x with now := now, P := x.P.set i (si.put s.cn good now), b := x.b.doneX now s.cal good, S := A ++ B } i := by
  rw [endN_eq hbe hi]; unfold PX.end1; rw [filt_num hS hnd]
 refine Spec.of (E := [(0, ptrP m.p), (1, .int .i64 s.num), (2, .bool good), (3, .int .u64 (now : Int))]) Tryz.func14 rfl (by kernel_rfl) Tryz.ntmps14 rfl rfl (fun w => ?_)
 refine WCr (WLa Z (WL_nil (WQ_code (WCr (WLa Z (WLa Z (WLa Z (WLc Z (xin_all h hE hS hst hm) Z pqD ?_))))))))
 rintro _ _ ⟨_, ⟨rfl, rfl⟩, rfl⟩
 refine WLa Z (WLa Z (WLa Z (WLa Z (WLa Z (WL_nil (WQ_code (WC_seq (WCr (WLa Z (WLa Z (WL_nil (WQ_code (WC_dF Z (by exact fun e => e rfl) ?_)))))))))))))
 refine WC_skip (WQ_code (WCr (WLa Z ?_)))
 have hpm9 : (ssH x.S).Perm (seE s :: ssH (A ++ B)) := by rw [hS]; exact ssH_split A B s
 refine WL_shape (A := ssH x.S) pqD hpm9 ?_
 refine WLa Z (WLa Z (WLf Z fa68_3 (WLs (vs := [_]) Z Tryz.sizeOf25 Z Z plD (nb Z) ?_)))
 refine WL_nil (WQ_code (WC_seq (WC_drawR (poolsH m.pm x.P) [(0, true), (1, true), (2, true), (3, true), (4, true), (5, true), (6, true), (7, true), (8, true), (9, true), (10, true), (11, true), (12, true), (13, true), (14, true), (15, true), (16, false)] followsMixed Z Z (by kernel_rfl) pqD ?_)))
 refine WMa Z (WMa Z (WMf Z fa68_1 (WMl Z sc56 mmD Z (WMa Z (WMa Z (WMf Z fa90_7 (WMl Z sc3 mmD Z (WM_set (s := 32) (v := .int .i64 (i : Int)) Z (by rw [hbe]) ?_))))))))
 refine WMv Z (R_idxO hwq Z Tryz.underlying56 Tryz.sizeOf79 Z Z (by omega)) ?_
 refine WMv Z (R_loadO (v := ptrP mi.p) hwq Z sc79 Z mmD (fm_get0 encPq1 hmi (j := 0) (by omega))) ?_
 refine WMa Z (WMa Z (WMf Z fa90_8 (WMl Z sc3 mmD Z (WMa Z (WMa Z (WMd Z (D_call (xp_put hmi hi (h.po i mi si hmi hi) hiE s.cn good now (by omega)) Z Z Z Z pqD) ?_))))))
 rintro _ _ ⟨_, ⟨m1, rfl, rfl, hp1, h1⟩, rfl⟩
 refine ⟨⟨_, pqD⟩, ?_⟩
 refine WM_nil (WQ_code (WC_seq (WC_drawR (balH m.bm) [(0, true), (1, true), (2, true), (3, true), (4, true), (5, true), (6, true), (7, true), (8, true), (9, true), (10, false)] followsMixed Z Z (by kernel_rfl) pqD ?_)))
 refine WMa Z (WMa Z (WMf Z fa68_0 (WMl Z sc55 mmD Z (WMa Z (WMa Z (WMa Z (WMf Z fa90_6 (WMl Z sc3 mmD Z (WMa Z (WMd Z (D_call (bdt_ok h.bal (by omega) now s.cal good (by omega) (by omega)) Z Z Z Z pqD) ?_))))))))))
 rintro _ _ ⟨_, ⟨bm1, e1, rfl, rfl, hbp1, hb1⟩, rfl⟩
 refine ⟨⟨_, pqD⟩, ?_⟩
 refine WM_nil (WQ_code (WCr (WLa Z (WL_shape (A := [pxE m { x with now := now }, pxQ m]) pqD (pm_entB (s' := si.put s.cn good now) hmi hp1 hbp1 now (x.b.doneX now s.cal good) (A ++ B)) ?_))))
 refine WLa Z (WLf Z fa68_4 (WLl Z sc66 mmD Z (WLa Z (WL_do0 Z Z (D_deleteK (k := s.num) (a := s.p) Z Tryz.underlying66 int_key Z Z plD h.mp hin) ?_))))
 rintro _ _ ⟨es9, hM9, rfl⟩
 refine WL_nil (WQ_code (WCr (WLa Z (WLa Z (WLa Z (WLf Z fa90_7 (WLl Z sc3 mmD Z (WL_set (s := 62) (v := .int .i64 (i : Int)) Z (by rw [hbe]) ?_))))))))
 refine WLc Z (xdrain_ok (h.end1 hS hnd hmi hp1 h1 (by omega) hb1 hM9) g1 hi1 (by omega) (by show x.E.length + _ ≤ _; omega)) Z pqD ?_
 rintro _ _ ⟨_, ⟨m2, N2, rfl, rfl, hN2, h2, kp2, g2⟩, rfl⟩
 refine WL_nil (WQ_code (WCr (WLa Z (WL_nil (WQ_code (WC_ret ?_))))))
 refine WQ1 Z (by
   rw [hX]
   exact ⟨m2, rfl, rfl, h2.le (by omega), kp2.p⟩) pqD
end Go.Proofs.YtelmlkdibcdebaaGreat
