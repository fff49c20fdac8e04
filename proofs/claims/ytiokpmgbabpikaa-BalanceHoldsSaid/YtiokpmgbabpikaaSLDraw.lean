/-
  A region that draws its order: one walk, in an order of ours, serves every order. Quiet operations (they read what is held, and call what turns nothing that lay) are taken as they stand; one that turns something is taken where no other may come up.
-/
import Derived.Test.YtiokpmgbabpikaaSLFun
namespace Go.Proofs.Ytiokpmgbabpikaa
open Go.RowKit (Below)

/-- 'w'' is w with new blocks. -/
structure Bel (w w' : World) : Prop extends Below w.heap.size w w' where
  dr : w.drawn ≤ w'.drawn
theorem Bel.refl (w : World) : Bel w w := ⟨Below.refl _ _, Nat.le_refl _⟩
theorem Bel.drew' (w : World) : Bel w { w with drawn := w.drawn + 1 } := ⟨(Below.refl _ w).drew, Nat.le_succ _⟩
theorem Bel.alloc' (w : World) (O : Obj) : Bel w (w.alloc O) := ⟨(Below.refl _ _).alloc (Nat.le_refl _) O, Nat.le_refl _⟩
theorem Bel.trans' {a b c : World} (h : Bel a b) (k : Bel b c) : Bel a c := ⟨h.toBelow.trans (k.toBelow.mono h.size), Nat.le_trans h.dr k.dr⟩
theorem HW.bel {H0 H : Heap} {w0 w w' : World} (h : HW H0 w0 H w) (b : Bel w w') : HW H0 w0 H w' :=
  ⟨⟨h.hok.nodup, fun x hx => by
      have := h.hok.ok x hx
      cases hb : x.b with
      | none => simp only [Ent.ok, hb] at this ⊢; exact this
      | some k =>
        simp only [Ent.ok, hb] at this ⊢
        rw [b.block k (h.hok.lt (mem_keys.2 ⟨x, hx, hb⟩))]; exact this⟩,
    b.os.trans h.os, b.tape.trans h.tape, b.output.trans h.output, Nat.le_trans h.size b.size,
    fun k hk hn => (b.block k (Nat.lt_of_lt_of_le hk h.size)).trans (h.kept k hk hn), h.own, Nat.le_trans h.dr b.dr⟩

def noSD (ops : Array Oper) : Bool := ops.toList.all fun o => match o.op with | .select .. => false | .defer .. => false | _ => true
theorem noSD_sel {ops : Array Oper} (h : noSD ops = true) {j : Nat} {o : Oper} (ho : ops[j]? = some o) : (∀ cs b, o.op ≠ .select cs b) ∧ (∀ c, o.op ≠ .defer c) := by
  have hm : o ∈ ops.toList := by
    have : ops.toList[j]? = some o := by simpa using ho
    exact List.mem_of_getElem? this
  have := List.all_eq_true.1 h o hm
  constructor
  · intro cs b e; simp [e] at this
  · intro c e; simp [e] at this

section
variable (X : Ctx) (ops : Array Oper) (p : Post) (C : World → Prop)
def QRun (o : Oper) (v : Value) (a : Act) (w : World) : Prop :=
  (execOp a.eval o).run X.P w = .ok (.value v) w ∨
  ∃ f args, (execOp a.eval o).run X.P w = .ok (.enter f args) w ∧ CallsIn (fen X.ro) (0 - 1) X.P f args w (fun e w' => e = .returned v ∧ Bel w w')
def YieldsC (o : Oper) (v : Value) (a : Act) : Prop :=
  (Region.wanted o (yielded ops a.tmps) = true ∧ ∀ w, C w → QRun X o v a w) ∨ (Region.wanted o (yielded ops a.tmps) = false ∧ v = undef)
def AnyC : Nat → Array Bool → Act → World → Prop
  | 0, listed, a, w => Region.ready .any ops listed = [] ∧ p.nrm a w
  | fuel + 1, listed, a, w => (Region.ready .any ops listed = [] → p.nrm a w) ∧
    ∀ i ∈ Region.ready .any ops listed, wpOpIn (fen X.ro) 0 X.P ops p.toQ i (fun a' w' => C w' ∧ ∀ w'', Bel w' w'' → AnyC fuel (listed.setIfInBounds i true) a' w'') a w
end

section
variable {X : Ctx} {ops : Array Oper} {p : Post} {C : World → Prop}
theorem AnyC.sound : ∀ (fuel : Nat) (listed : Array Bool) (a : Act) (w : World), AnyC X ops p C fuel listed a w → wpAnyIn (fen X.ro) 0 X.P .any ops p.toQ fuel listed a w
  | 0, _, _, _, h => h
  | fuel + 1, _, _, _, h => ⟨h.1, fun i hi => wpOpIn_mono (fun a' w' k => AnyC.sound fuel _ a' w' (k.2 w' (Bel.refl _))) (h.2 i hi)⟩

theorem wpOpIn_putC {j : Nat} {oi oj : Oper} {v : Value} {K : Act → World → Prop} {a : Act} {w : World} (hj : ops[j]? = some oj) (hap : oi.apart ops oj = true)
    (hsi : ∀ cs b, oi.op ≠ .select cs b) (hsj : ∀ cs b, oj.op ≠ .select cs b) (hdj : ∀ c, oj.op ≠ .defer c)
    (hy : YieldsC X ops C oi v a) (h : wpOpIn (fen X.ro) 0 X.P ops p.toQ j K (a.put oi.dst v) w) :
    wpOpIn (fen X.ro) 0 X.P ops p.toQ j (fun a' w' => YieldsC X ops C oi v a' ∧ K (a'.put oi.dst v) w') a w := by
  obtain ⟨h1, h2, h3⟩ := Oper.apart_spec hap
  have keep : ∀ u, YieldsC X ops C oi v (a.put oj.dst u) := fun u => by
    have e1 := execOp_put oi hsi a oj.dst u h3
    have e2 := wanted_put oi a oj.dst u h3
    unfold YieldsC QRun at *
    rw [e1, e2]; exact hy
  unfold wpOpIn at *
  simp only [hj] at *
  rw [wanted_put oj a oi.dst v h1] at h
  split
  · rename_i hw
    simp only [hw, if_true] at h
    unfold Oper.wpIn at *
    refine ⟨about_true, ?_⟩
    have h := h.2
    rw [semAt_of hdj, execOp_put oj hsj a oi.dst v h1] at h
    rw [semAt_of hdj]
    generalize (execOp a.eval oj).run X.P w = r at *
    cases r with
    | ok x w' =>
      cases x <;> simp only [Oper.uponIn] at h ⊢
      case value u => exact ⟨keep u, by rw [← Act.put_comm a v u h2]; exact h⟩
      case skip => exact ⟨keep _, by rw [← Act.put_comm a v undef h2]; exact h⟩
      case defer d => 
        have e1 : YieldsC X ops C oi v ({ a with defers := d :: a.defers }.put oj.dst undef) := by
          have := keep undef
          cases hd : oj.dst <;> simp only [Act.put, hd] at this ⊢ <;> exact this
        refine ⟨e1, ?_⟩
        rw [← Act.put_comm _ v undef h2, ← Act.put_defers]
        exact h
      case enter f args =>
        refine ⟨h.1, CallsIn.mono h.2 fun e w'' he => ?_⟩
        cases e with
        | returned u => exact ⟨keep u, by rw [← Act.put_comm a v u h2]; exact he⟩
        | panicked c => exact he
        | outgrown => exact he
      case row row args => exact ⟨h.1, RowsIn.mono h.2 fun u w'' he => ⟨keep u, by rw [← Act.put_comm a v u h2]; exact he⟩⟩
      case round l f tmps assign body =>
        refine ⟨h.1, RoundIn.mono h.2 fun e w'' he => ?_⟩
        cases e with
        | returned u => exact ⟨keep u, by rw [← Act.put_comm a v u h2]; exact he⟩
        | panicked c => exact he
        | outgrown => exact he
    | halt x w' =>
      cases x <;> simp only [Oper.uponIn] at h ⊢
      case panic u => exact h
  · rename_i hw
    simp only [hw] at h
    exact ⟨about_true, keep _, by rw [← Act.put_comm a v undef h2]; exact h.2⟩

/-- Carrying out a quiet operation. -/
theorem YieldsC.wpOp {i : Nat} {o : Oper} {v : Value} {a : Act} {w : World} (hi : ops[i]? = some o) (hd : ∀ c, o.op ≠ .defer c) (hy : YieldsC X ops C o v a) (hC : C w)
    {K : Act → World → Prop} (h : ∀ w', Bel w w' → K (a.put o.dst v) w') : wpOpIn (fen X.ro) 0 X.P ops p.toQ i K a w := by
  unfold wpOpIn
  simp only [hi]
  rcases hy with ⟨hw, hv⟩ | ⟨hw, rfl⟩
  · simp only [hw, if_true]
    refine ⟨about_true, ?_⟩
    rw [semAt_of hd]
    rcases hv w hC with e | ⟨f, args, e, hc⟩
    · rw [e]; exact h w (Bel.refl _)
    · rw [e]
      refine ⟨fun h => by simp [fen, Fence.wide] at h, hc.mono ?_⟩
      rintro e w' ⟨rfl, hb⟩
      exact h w' hb
  · simp only [hw, Bool.false_eq_true, if_false]
    exact ⟨about_true, h w (Bel.refl _)⟩

theorem AnyC.take {i : Nat} {oi : Oper} {v : Value} (hCb : ∀ w w', C w → Bel w w' → C w') (hi : ops[i]? = some oi) (hsd : noSD ops = true) :
    ∀ (fuel : Nat) (listed : Array Bool) (a : Act) (w : World),
      (∀ j oj, ops[j]? = some oj → j ≠ i → listed.getD j true = false → (∀ e ∈ oj.after, Region.binds .any e = true → e.on ≠ i) → oi.apart ops oj = true) →
      i ∈ Region.ready .any ops listed → YieldsC X ops C oi v a → C w →
      (∀ w', Bel w w' → AnyC X ops p C fuel (listed.setIfInBounds i true) (a.put oi.dst v) w') → AnyC X ops p C (fuel + 1) listed a w := by
  intro fuel
  induction fuel with
  | zero =>
    intro listed a w _ hr hy hC H
    refine ⟨fun h => (by rw [h] at hr; cases hr), fun j hj => ?_⟩
    by_cases hji : j = i
    · subst hji
      exact hy.wpOp hi (noSD_sel hsd hi).2 hC fun w' hb => ⟨hCb w w' hC hb, fun w'' hb' => H w'' (hb.trans' hb')⟩
    · have := ready_mono hj hji
      rw [(H w (Bel.refl _)).1] at this
      cases this
  | succ fuel ih =>
    intro listed a w hfree hr hy hC H
    refine ⟨fun h => (by rw [h] at hr; cases hr), fun j hj => ?_⟩
    by_cases hji : j = i
    · subst hji
      exact hy.wpOp hi (noSD_sel hsd hi).2 hC fun w' hb => ⟨hCb w w' hC hb, fun w'' hb' => H w'' (hb.trans' hb')⟩
    · have h1 := (H w (Bel.refl _)).2 j (ready_mono hj hji)
      obtain ⟨hjun, oj, hoj, hall⟩ := mem_ready.1 hj
      have hnot : ∀ e ∈ oj.after, Region.binds .any e = true → e.on ≠ i := fun e he hb heq => by
        have h1 := hall e he hb
        have h0 := (mem_ready.1 hr).1
        rw [heq] at h1
        rcases Nat.lt_or_ge i listed.size with h' | h'
        · simp [h'] at h0 h1; rw [h0] at h1; cases h1
        · simp [Array.getElem?_eq_none h'] at h1
      have h2 := wpOpIn_putC hoj (hfree j oj hoj hji hjun hnot) (noSD_sel hsd hi).1 (noSD_sel hsd hoj).1 (noSD_sel hsd hoj).2 hy h1
      have hfree' : ∀ k ok, ops[k]? = some ok → k ≠ i → (listed.setIfInBounds j true).getD k true = false →
          (∀ e ∈ ok.after, Region.binds .any e = true → e.on ≠ i) → oi.apart ops ok = true := fun k ok hk hki hun hno => by
        refine hfree k ok hk hki ?_ hno
        by_cases hjk : j = k
        · subst hjk; exact hjun
        · rw [getD_set_ne true hjk] at hun; exact hun
      refine wpOpIn_mono (fun a' w' h3 => ⟨h3.2.1, fun w'' hb => ?_⟩) h2
      refine ih (listed.setIfInBounds j true) a' w'' hfree' (ready_mono hr (Ne.symm hji)) h3.1 (hCb _ _ h3.2.1 hb) fun w3 hb3 => ?_
      rw [Array.setIfInBounds_comm _ _ hji]
      exact h3.2.2 w3 (hb.trans' hb3)

/-- The walk in an order of ours: '(i, true)': quiet. -/
def MW (X : Ctx) (ops : Array Oper) (p : Post) (C : World → Prop) : List (Nat × Bool) → Act → World → Prop
  | [], a, w => p.nrm a w
  | (i, true) :: r, a, w => ∃ o v, ops[i]? = some o ∧ YieldsC X ops C o v a ∧ ∀ w', Bel w w' → MW X ops p C r (a.put o.dst v) w'
  | (i, false) :: r, a, w => wpOpIn (fen X.ro) 0 X.P ops p.toQ i (fun a' w' => C w' ∧ ∀ w'', Bel w' w'' → MW X ops p C r a' w'') a w
def orderB (ops : Array Oper) : List (Nat × Bool) → Array Bool → Bool
  | [], listed => (Region.ready .any ops listed).isEmpty
  | (i, q) :: r, listed => (bif q then (Region.ready .any ops listed).contains i && Region.free .any ops listed i else Region.ready .any ops listed == [i]) && orderB ops r (listed.setIfInBounds i true)
theorem MW.any (hCb : ∀ w w', C w → Bel w w' → C w') (hsd : noSD ops = true) : ∀ (l : List (Nat × Bool)) (listed : Array Bool) (a : Act) (w : World), orderB ops l listed = true → C w → MW X ops p C l a w →
    AnyC X ops p C l.length listed a w
  | [], listed, a, w, hB, _, h => ⟨by simpa [orderB] using hB, h⟩
  | (i, true) :: r, listed, a, w, hB, hC, h => by
    simp only [orderB, cond_true, Bool.and_eq_true, List.contains_iff_mem] at hB
    obtain ⟨⟨h1, h2⟩, h3⟩ := hB
    obtain ⟨o, v, ho, hy, hk⟩ := h
    exact AnyC.take hCb ho hsd r.length listed a w (Region.free_spec ho h2) h1 hy hC fun w' hb => MW.any hCb hsd r _ _ w' h3 (hCb w w' hC hb) (hk w' hb)
  | (i, false) :: r, listed, a, w, hB, hC, h => by
    simp only [orderB, cond_false, Bool.and_eq_true, beq_iff_eq] at hB
    obtain ⟨h1, h3⟩ := hB
    refine ⟨fun e => (by rw [h1] at e; cases e), fun j hj => ?_⟩
    rw [h1, List.mem_singleton] at hj
    subst hj
    exact wpOpIn_mono (fun a' w' hk => ⟨hk.1, fun w'' hb => MW.any hCb hsd r _ _ w'' h3 (hCb _ _ hk.1 hb) (hk.2 w'' hb)⟩) h
end

/-- The walk over states. 'Hq': what no operation of the region turns. -/
def WM (X : Ctx) (ops : Array Oper) (p : Post) (Hq : Heap) (l : List (Nat × Bool)) (E : Env) (H : Heap) : Prop := ∀ a w, AE X E a → HW X.H0 X.w0 H w → MW X ops p (fun w => HW X.H0 X.w0 Hq w) l a w

section
variable {X : Ctx} {ops : Array Oper} {p : Post} {Hq : Heap} {E : Env} {H F : Heap} {r : List (Nat × Bool)} {i : Nat} {o : Oper}
theorem WC_draw {id : Nat} {l : List Oper} (Hq : Heap) (ord : List (Nat × Bool)) (hm : X.P.follows .mixedOrders = true) (hsd : noSD l.toArray = true) (hlen : ord.length = l.length)
    (hB : orderB l.toArray ord (Array.replicate l.length false) = true) (hq : Pulls Hq H F) (h : WM X l.toArray p Hq ord E H) : WC X (.region id l.toArray true) p E H := by
  intro a w ha hw
  refine wpIn_region_any hm ?_
  have hb : Bel w { w with drawn := w.drawn + 1 } := Bel.drew' w
  have hw1 := hw.bel hb
  have h1 := MW.any (X := X) (p := p) (C := fun w => HW X.H0 X.w0 Hq w) (fun _ _ h b => h.bel b) hsd ord _ a _ hB (hw1.perm hq.perm).left (h a _ ha hw1)
  rw [hlen] at h1
  have := AnyC.sound _ _ _ _ h1
  simpa using this
theorem WM_nil (h : WQ X p.nrm E H) : WM X ops p Hq [] E H := h
theorem WM_val {d : Nat} {v : Value} (ho : ops[i]? = some o) (hg : wantedE ops E o = some true) (hd : o.dst = some d) (hN : Nat.blt d X.N = true) (h : Runs X o E Hq v)
    (k : WM X ops p Hq r ((d, v) :: E) H) : WM X ops p Hq ((i, true) :: r) E H := fun a w ha hw =>
  ⟨o, v, ho, .inl ⟨wantedE_spec ha hg, fun w' hw' => .inl (h.2 a w' ha hw')⟩, fun w' hb => k _ _ (by rw [hd]; exact ha.put d v hN) (hw.bel hb)⟩
theorem WM_skip {d : Nat} (ho : ops[i]? = some o) (hg : wantedE ops E o = some false) (hd : o.dst = some d) (hN : Nat.blt d X.N = true)
    (k : WM X ops p Hq r ((d, undef) :: E) H) : WM X ops p Hq ((i, true) :: r) E H := fun a w ha hw =>
  ⟨o, undef, ho, .inr ⟨wantedE_spec ha hg, rfl⟩, fun w' hb => k _ _ (by rw [hd]; exact ha.put d undef hN) (hw.bel hb)⟩
theorem WM_split {s : Nat} {b : Bool} {l : List (Nat × Bool)} (h : gtE E s = some (.bool b)) (h1 : b = true → WM X ops p Hq l ((s, .bool true) :: E) H) (h2 : b = false → WM X ops p Hq l ((s, .bool false) :: E) H) : WM X ops p Hq l E H := by
  have key : ∀ (c : Bool), b = c → ∀ a, AE X E a → AE X ((s, .bool c) :: E) a := fun c hc a ha => ⟨ha.size, ha.defers, fun t v ht => by
    rw [get_cons] at ht
    split at ht
    · rename_i e; subst e; cases ht; rw [← hc]; exact ha.env _ _ h
    · exact ha.env _ _ ht⟩
  intro a w ha hw
  cases hb : b with
  | true => exact h1 hb a w (key true hb a ha) hw
  | false => exact h2 hb a w (key false hb a ha) hw
theorem WM_splitD {s : Nat} {q : Prop} [Decidable q] {l : List (Nat × Bool)} (h : gtE E s = some (.bool (decide q))) (h1 : q → WM X ops p Hq l ((s, .bool true) :: E) H) (h2 : ¬ q → WM X ops p Hq l ((s, .bool false) :: E) H) : WM X ops p Hq l E H :=
  WM_split h (fun e => h1 (of_decide_eq_true e)) (fun e => h2 (of_decide_eq_false e))
theorem WM_set {s : Nat} {v v' : Value} {l : List (Nat × Bool)} (h : gtE E s = some v') (he : v' = v) (k : WM X ops p Hq l ((s, v) :: E) H) : WM X ops p Hq l E H := by
  subst he
  intro a w ha hw
  refine k a w ⟨ha.size, ha.defers, fun t v ht => ?_⟩ hw
  rw [get_cons] at ht
  split at ht
  · rename_i e; subst e; cases ht; exact ha.env _ _ h
  · exact ha.env _ _ ht
/-- An operation that turns something, where no other may come up. -/
theorem WM_do {d : Nat} {R : Value → Heap → Prop} (ho : ops[i]? = some o) (hg : wantedE ops E o = some true) (hd : o.dst = some d) (hN : Nat.blt d X.N = true) (h : Does X o E H R)
    (k : ∀ v H', R v H' → (∃ F, Pulls Hq H' F) ∧ WM X ops p Hq r ((d, v) :: E) H') : WM X ops p Hq ((i, false) :: r) E H := by
  intro a w ha hw
  simp only [MW, wpOpIn, ho, wantedE_spec ha hg, if_true]
  refine h a w ha hw _ _ fun v H' w' hr hw' => ?_
  obtain ⟨⟨F, hq⟩, k2⟩ := k v H' hr
  refine ⟨(hw'.perm hq.perm).left, fun w'' hb => k2 _ _ (by rw [hd]; exact ha.put d v hN) (hw'.bel hb)⟩
theorem WM_do0 {R : Value → Heap → Prop} (ho : ops[i]? = some o) (hg : wantedE ops E o = some true) (hd : o.dst = none) (h : Does X o E H R)
    (k : ∀ v H', R v H' → (∃ F, Pulls Hq H' F) ∧ WM X ops p Hq r E H') : WM X ops p Hq ((i, false) :: r) E H := by
  intro a w ha hw
  simp only [MW, wpOpIn, ho, wantedE_spec ha hg, if_true]
  refine h a w ha hw _ _ fun v H' w' hr hw' => ?_
  obtain ⟨⟨F, hq⟩, k2⟩ := k v H' hr
  refine ⟨(hw'.perm hq.perm).left, fun w'' hb => k2 _ _ (by rw [hd]; exact ha.put0 v) (hw'.bel hb)⟩
/-- A call that turns nothing that lay and whose result is known. -/
theorem HW.belOf {Hp : Heap} {w w' : World} (h : HOK Hp w) (c : HW Hp w Hp w') : Bel w w' :=
  ⟨⟨c.os, c.tape, c.output, c.size, fun k hk => by
    by_cases hm : k ∈ keys Hp
    · obtain ⟨x, hx, hb⟩ := mem_keys.1 hm
      have h1 := h.ok x hx
      have h2 := c.hok.ok x hx
      simp only [Ent.ok, hb] at h1 h2
      rw [h1, h2]
    · exact c.kept k hk hm⟩, c.dr⟩
theorem Spec.quiet {P : Program} {f : FuncId} {as : List Value} {Hp : Heap} {v : Value} (h : Spec P f as Hp (fun r H' => r = v ∧ H' = Hp)) : Spec P f as Hp (fun u H' => u = v ∧ ∃ G, H'.Perm (Hp ++ G)) :=
  h.mono fun _ _ ⟨h1, h2⟩ => ⟨h1, [], by rw [h2, List.append_nil]⟩
theorem WM_call {d : Nat} {f : FuncId} {x : Operand} {args : List Operand} {tys : Array TypeId} {as vs fi ca : List Value} {Hp F : Heap} {v : Value} (ho : ops[i]? = some o)
    (hs : Spec X.P f as Hp (fun u H' => u = v ∧ ∃ G, H'.Perm (Hp ++ G))) (hg : wantedE ops E o = some true) (hd : o.dst = some d) (hN : Nat.blt d X.N = true)
    (hop : o.op = .call { callee := .value x, args := args.toArray, argTypes := tys }) (hx : callee E x = some (f, fi, ca)) (ha : evs E args = some vs) (he : fi ++ vs ++ ca = as) (hp : Pulls Hp Hq F)
    (k : WM X ops p Hq r ((d, v) :: E) H) : WM X ops p Hq ((i, true) :: r) E H := by
  intro a w hA hw
  refine ⟨o, v, ho, .inl ⟨wantedE_spec hA hg, fun w' hw' => .inr ?_⟩, fun w' hb => k _ _ (by rw [hd]; exact hA.put d v hN) (hw.bel hb)⟩
  have hfe := callee_spec hx
  subst he
  refine ⟨f, (fi ++ vs ++ ca).toArray, ?_, ?_⟩
  · have hen := hs.enters (fi ++ vs ++ ca).toArray w'
    simp only [List.append_assoc] at hen
    simp [execOp, hop, resolve, hA.evals ha, hA.eval hfe, Deferred.ofValue, invoke, hen]
  · have hok := (hw'.perm hp.perm).left.hok
    have hc := hs.calls w' hok
    have hc2 : CallsIn (fen X.ro) (0 - 1) X.P f (fi ++ vs ++ ca).toArray w' (fun e w2 => ∃ u H', e = .returned u ∧ (u = v ∧ ∃ G, H'.Perm (Hp ++ G)) ∧ HW Hp w' H' w2) := by
      cases hr : X.ro with
      | none => exact hc
      | some l => exact CallsIn.inRound l hc
    refine hc2.mono ?_
    rintro e w'' ⟨u, H1, rfl, ⟨rfl, G, hG⟩, hw1⟩
    exact ⟨rfl, HW.belOf hok (hw1.perm hG).left⟩
end
end Go.Proofs.Ytiokpmgbabpikaa
