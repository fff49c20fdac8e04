/-
  A region that draws its order, with operations that only lay a new block: they may come up at any time; the walk takes them in an order of ours.
-/
import Derived.Test.YtiokpmgbabpikaaSLMore
namespace Go.Proofs.Ytiokpmgbabpikaa
open Go.RowKit (Below)
section
variable {X : Ctx} {ops : Array Oper} {p : Post} {C : World → Prop}

theorem wpOpIn_late {j : Nat} {oi oj : Oper} {v : Value} {K : Act → World → Prop} {a : Act} {w : World} (hj : ops[j]? = some oj) (hap : oi.apart ops oj = true)
    (hsj : ∀ cs b, oj.op ≠ .select cs b) (hdj : ∀ c, oj.op ≠ .defer c) (h : wpOpIn (fen X.ro) 0 X.P ops p.toQ j K a w) :
    wpOpIn (fen X.ro) 0 X.P ops p.toQ j (fun a'' w' => ∃ a', a'' = a'.put oi.dst v ∧ K a' w') (a.put oi.dst v) w := by
  obtain ⟨h1, h2, h3⟩ := Oper.apart_spec hap
  unfold wpOpIn at *
  simp only [hj] at *
  rw [wanted_put oj a oi.dst v h1]
  split
  · rename_i hw
    simp only [hw, if_true] at h
    unfold Oper.wpIn at *
    refine ⟨about_true, ?_⟩
    have h := h.2
    rw [semAt_of hdj] at h
    rw [semAt_of hdj, execOp_put oj hsj a oi.dst v h1]
    generalize (execOp a.eval oj).run X.P w = r at *
    cases r with
    | ok x w' =>
      cases x <;> simp only [Oper.uponIn] at h ⊢
      case value u => exact ⟨_, Act.put_comm a v u h2, h⟩
      case skip => exact ⟨_, Act.put_comm a v undef h2, h⟩
      case defer d => exact ⟨_, by rw [Act.put_defers, Act.put_comm _ v undef h2], h⟩
      case enter f args =>
        refine ⟨h.1, CallsIn.mono h.2 fun e w'' he => ?_⟩
        cases e with
        | returned u => exact ⟨_, Act.put_comm a v u h2, he⟩
        | panicked c => exact he
        | outgrown => exact he
      case row row args => exact ⟨h.1, RowsIn.mono h.2 fun u w'' he => ⟨_, Act.put_comm a v u h2, he⟩⟩
      case round l f tmps assign body =>
        refine ⟨h.1, RoundIn.mono h.2 fun e w'' he => ?_⟩
        cases e with
        | returned u => exact ⟨_, Act.put_comm a v u h2, he⟩
        | panicked c => exact he
        | outgrown => exact he
    | halt x w' =>
      cases x <;> simp only [Oper.uponIn] at h ⊢
      case panic u => exact h
  · rename_i hw
    simp only [hw] at h
    exact ⟨about_true, _, Act.put_comm a v undef h2, h.2⟩

theorem wpOpIn_keep {Z : Act → Prop} {j : Nat} {oj : Oper} {K : Act → World → Prop} {a : Act} {w : World} (hj : ops[j]? = some oj) (hdj : ∀ c, oj.op ≠ .defer c)
    (hZ : ∀ a u, Z a → Z (a.put oj.dst u)) (hZd : ∀ (a : Act) d, Z a → Z { a with defers := d :: a.defers }) (hz : Z a) (h : wpOpIn (fen X.ro) 0 X.P ops p.toQ j K a w) :
    wpOpIn (fen X.ro) 0 X.P ops p.toQ j (fun a' w' => Z a' ∧ K a' w') a w := by
  unfold wpOpIn at *
  simp only [hj] at *
  split
  · rename_i hw
    simp only [hw, if_true] at h
    unfold Oper.wpIn at *
    refine ⟨about_true, ?_⟩
    have h := h.2
    rw [semAt_of hdj] at h
    rw [semAt_of hdj]
    generalize (execOp a.eval oj).run X.P w = r at *
    cases r with
    | ok x w' =>
      cases x <;> simp only [Oper.uponIn] at h ⊢
      case value u => exact ⟨hZ _ _ hz, h⟩
      case skip => exact ⟨hZ _ _ hz, h⟩
      case defer d => exact ⟨hZ _ _ (hZd _ _ hz), h⟩
      case enter f args =>
        refine ⟨h.1, CallsIn.mono h.2 fun e w'' he => ?_⟩
        cases e with
        | returned u => exact ⟨hZ _ _ hz, he⟩
        | panicked c => exact he
        | outgrown => exact he
      case row row args => exact ⟨h.1, RowsIn.mono h.2 fun u w'' he => ⟨hZ _ _ hz, he⟩⟩
      case round l f tmps assign body =>
        refine ⟨h.1, RoundIn.mono h.2 fun e w'' he => ?_⟩
        cases e with
        | returned u => exact ⟨hZ _ _ hz, he⟩
        | panicked c => exact he
        | outgrown => exact he
    | halt x w' =>
      cases x <;> simp only [Oper.uponIn] at h ⊢
      case panic u => exact h
  · rename_i hw
    simp only [hw] at h
    exact ⟨about_true, hZ _ _ hz, h.2⟩
end

theorem pigeon : ∀ (ks m : List Nat), ks.Nodup → (∀ k ∈ ks, k ∈ m) → ks.length ≤ m.length
  | [], _, _, _ => Nat.zero_le _
  | k :: ks, m, hn, h => by
    have hk : k ∈ m := h k (List.mem_cons_self ..)
    obtain ⟨hk1, hn1⟩ := List.nodup_cons.1 hn
    have := pigeon ks (m.erase k) hn1 (fun x hx => (List.mem_erase_of_ne (by intro e; subst e; exact hk1 hx)).2 (h x (List.mem_cons_of_mem _ hx)))
    rw [List.length_erase_of_mem hk] at this
    have hp : 0 < m.length := List.length_pos_of_mem hk
    simp only [List.length_cons]
    omega

inductive Tag where
  | q
  | n (B : List Nat)
  | b (B : List Nat)
def Tag.isB : Tag → Bool
  | .b _ => true
  | _ => false

/-- An operation that only lays a new block. -/
structure Born (X : Ctx) (ops : Array Oper) (C : World → Prop) (o : Oper) (a : Act) (V : Nat → Value) (O : Obj) : Prop where
  want : Region.wanted o (yielded ops a.tmps) = true
  run : ∀ w, C w → (execOp a.eval o).run X.P w = .ok (.value (V w.heap.size)) (w.alloc O)
def Borns (X : Ctx) (ops : Array Oper) (C : World → Prop) (B : List Nat) (a : Act) : Prop := ∀ k ∈ B, ∃ o V O, ops[k]? = some o ∧ Born X ops C o a V O

/-- The walk in an order of ours; 'S': the blocks in play. -/
def BW (X : Ctx) (ops : Array Oper) (p : Post) (C : World → Prop) : List (Nat × Tag) → (Nat → Prop) → Act → World → Prop
  | [], _, a, w => p.nrm a w
  | (i, .q) :: r, S, a, w => ∃ o v, ops[i]? = some o ∧ YieldsC X ops C o v a ∧ ∀ w', Bel w w' → BW X ops p C r S (a.put o.dst v) w'
  | (i, .n B) :: r, S, a, w => Borns X ops C B a ∧ wpOpIn (fen X.ro) 0 X.P ops p.toQ i (fun a' w' => C w' ∧ w.heap.size ≤ w'.heap.size ∧ ∃ S' : Nat → Prop, (∀ k, S' k → (S k ∨ w.heap.size ≤ k) ∧ k < w'.heap.size) ∧ (∀ k, k < w.heap.size → ¬ S k → w'.heap[k]? = w.heap[k]?) ∧ ∀ w'', Bel w' w'' → BW X ops p C r S' a' w'') a w
  | (i, .b B) :: r, S, a, w => Borns X ops C B a ∧ ∃ o V O, ops[i]? = some o ∧ Born X ops C o a V O ∧ ∀ b w', Bel w w' → X.w0.heap.size ≤ b → w'.heap[b]? = some O → ¬ S b → BW X ops p C r (fun k => S k ∨ k = b) (a.put o.dst (V b)) w'

def apartK (ops : Array Oper) (i k : Nat) : Bool := match ops[i]?, ops[k]? with | some x, some y => x.apart ops y | _, _ => false
def okStep (ops : Array Oper) (i : Nat) (B : List Nat) (r : List (Nat × Tag)) (listed : Array Bool) : Bool :=
  (Region.ready .any ops listed).contains i && (Region.ready .any ops listed).all (fun k => k == i || B.contains k) && !B.contains i &&
  (Region.ready .any ops (B.foldr (fun k l => l.setIfInBounds k true) listed)).all (fun k => k == i) &&
  B.all (fun k => (Region.ready .any ops listed).contains k && apartK ops i k && apartK ops k i && r.any (fun t => t.1 == k && t.2.isB) && B.all (fun k' => k' == k || apartK ops k k'))
def orderW (ops : Array Oper) : List (Nat × Tag) → Array Bool → Bool
  | [], listed => (Region.ready .any ops listed).isEmpty
  | (i, tg) :: r, listed => (match tg with
      | .q => (Region.ready .any ops listed).contains i && Region.free .any ops listed i
      | .n B => okStep ops i B r listed
      | .b B => okStep ops i B r listed) && !(r.any fun t => t.1 == i) && orderW ops r (listed.setIfInBounds i true)

/-- What came up early. -/
structure Er where
  k : Nat
  o : Oper
  v : Value
  b : Nat
  O : Obj
  w : World
def puts (es : List Er) (a : Act) : Act := es.foldr (fun e a => a.put e.o.dst e.v) a
def marks (es : List Er) (l : Array Bool) : Array Bool := es.foldr (fun e l => l.setIfInBounds e.k true) l
section
variable {X : Ctx} {ops : Array Oper} {p : Post} {C : World → Prop}
structure ErOk (X : Ctx) (ops : Array Oper) (C : World → Prop) (S : Nat → Prop) (listed : Array Bool) (a : Act) (w : World) (e : Er) : Prop where
  op : ops[e.k]? = some e.o
  cw : C e.w
  run : (execOp a.eval e.o).run X.P e.w = .ok (.value e.v) (e.w.alloc e.O)
  num : e.b = e.w.heap.size
  here : w.heap[e.b]? = some e.O
  out : ¬ S e.b
  rdy : e.k ∈ Region.ready .any ops listed
def Apart (ops : Array Oper) (es : List Er) : Prop := es.Pairwise fun e f => e.o.apart ops f.o = true ∧ f.o.apart ops e.o = true
theorem alloc_inj {w : World} {O O' : Obj} (h : w.alloc O = w.alloc O') : O = O' := by
  have h1 : w.heap.push O = w.heap.push O' := congrArg World.heap h
  have h2 := congrArg Array.back? h1
  simpa using h2
theorem put_puts {o : Oper} {v : Value} : ∀ (es : List Er) (a : Act), (∀ e ∈ es, o.apart ops e.o = true) → (puts es a).put o.dst v = puts es (a.put o.dst v)
  | [], _, _ => rfl
  | e :: es, a, h => by
    obtain ⟨_, h2, _⟩ := Oper.apart_spec (h e (List.mem_cons_self ..))
    show ((puts es a).put e.o.dst e.v).put o.dst v = (puts es (a.put o.dst v)).put e.o.dst e.v
    rw [← put_puts es a (fun f hf => h f (List.mem_cons_of_mem _ hf)), Act.put_comm _ v e.v h2]
theorem exec_puts {o : Oper} (hs : ∀ cs b, o.op ≠ .select cs b) : ∀ (es : List Er) (a : Act), (∀ e ∈ es, e.o.apart ops o = true) → execOp (puts es a).eval o = execOp a.eval o
  | [], _, _ => rfl
  | e :: es, a, h => by
    obtain ⟨h1, _, _⟩ := Oper.apart_spec (h e (List.mem_cons_self ..))
    show execOp ((puts es a).put e.o.dst e.v).eval o = _
    rw [execOp_put o hs _ e.o.dst e.v h1]
    exact exec_puts hs es a (fun f hf => h f (List.mem_cons_of_mem _ hf))
theorem want_puts {o : Oper} : ∀ (es : List Er) (a : Act), (∀ e ∈ es, e.o.apart ops o = true) → Region.wanted o (yielded ops (puts es a).tmps) = Region.wanted o (yielded ops a.tmps)
  | [], _, _ => rfl
  | e :: es, a, h => by
    obtain ⟨h1, _, _⟩ := Oper.apart_spec (h e (List.mem_cons_self ..))
    show Region.wanted o (yielded ops ((puts es a).put e.o.dst e.v).tmps) = _
    rw [wanted_put o _ e.o.dst e.v h1]
    exact want_puts es a (fun f hf => h f (List.mem_cons_of_mem _ hf))
theorem wpOpIn_lates {j : Nat} {oj : Oper} {K : Act → World → Prop} {w : World} (hj : ops[j]? = some oj) (hsd : noSD ops = true) :
    ∀ (es : List Er) (a : Act), (∀ e ∈ es, e.o.apart ops oj = true) → wpOpIn (fen X.ro) 0 X.P ops p.toQ j K a w → wpOpIn (fen X.ro) 0 X.P ops p.toQ j (fun a'' w' => ∃ a', a'' = puts es a' ∧ K a' w') (puts es a) w
  | [], a, _, h => wpOpIn_mono (fun a' w' k => ⟨a', rfl, k⟩) h
  | e :: es, a, he, h => by
    have h1 := wpOpIn_lates hj hsd es a (fun f hf => he f (List.mem_cons_of_mem _ hf)) h
    have h2 := wpOpIn_late (v := e.v) hj (he e (List.mem_cons_self ..)) (noSD_sel hsd hj).1 (noSD_sel hsd hj).2 h1
    refine wpOpIn_mono ?_ h2
    rintro a'' w' ⟨a1, rfl, a2, rfl, k⟩
    exact ⟨a2, rfl, k⟩
theorem marks_getD {es : List Er} {l : Array Bool} {k : Nat} (d : Bool) (h : ∀ e ∈ es, e.k ≠ k) : (marks es l).getD k d = l.getD k d := by
  induction es with
  | nil => rfl
  | cons e es ih =>
    show ((marks es l).setIfInBounds e.k true).getD k d = _
    rw [getD_set_ne d (h e (List.mem_cons_self ..)), ih (fun f hf => h f (List.mem_cons_of_mem _ hf))]
theorem marks_set {es : List Er} {l : Array Bool} {i : Nat} (h : ∀ e ∈ es, e.k ≠ i) : (marks es l).setIfInBounds i true = marks es (l.setIfInBounds i true) := by
  induction es with
  | nil => rfl
  | cons e es ih =>
    show ((marks es l).setIfInBounds e.k true).setIfInBounds i true = (marks es (l.setIfInBounds i true)).setIfInBounds e.k true
    rw [← ih (fun f hf => h f (List.mem_cons_of_mem _ hf)), Array.setIfInBounds_comm _ _ (h e (List.mem_cons_self ..))]
/-- What is ready with the early ones done, is the one that is on or another of B. -/
theorem ready_back {es : List Er} {l : Array Bool} {i : Nat} {B : List Nat} (hB : ∀ e ∈ es, e.k ∈ B) (h2 : ∀ k ∈ Region.ready .any ops (B.foldr (fun k l => l.setIfInBounds k true) l), k = i) {k : Nat}
    (hk : k ∈ Region.ready .any ops (marks es l)) : k = i ∨ k ∈ B := by
  by_cases hkB : k ∈ B
  · exact .inr hkB
  left
  refine h2 k ?_
  have getB : ∀ (B : List Nat) (j : Nat) (d : Bool), j ∉ B → (B.foldr (fun k l => l.setIfInBounds k true) l).getD j d = l.getD j d := fun B => by
    induction B with
    | nil => intro j d _; rfl
    | cons b B ih =>
      intro j d hj
      simp only [List.foldr_cons]
      rw [getD_set_ne d (show b ≠ j from by rintro rfl; exact hj (List.mem_cons_self ..)), ih j d (fun h => hj (List.mem_cons_of_mem _ h))]
  have up : ∀ (B : List Nat) (j : Nat), l.getD j false = true → (B.foldr (fun k l => l.setIfInBounds k true) l).getD j false = true := fun B => by
    induction B with
    | nil => intro j h; exact h
    | cons b B ih => intro j h; exact getD_set_true (ih j h)
  have inB : ∀ (B : List Nat) (j : Nat), j ∈ B → j < l.size → (B.foldr (fun k l => l.setIfInBounds k true) l).getD j false = true := fun B => by
    induction B with
    | nil => intro j h; cases h
    | cons b B ih =>
      intro j h hl
      have hs : ∀ B : List Nat, (B.foldr (fun k l => l.setIfInBounds k true) l).size = l.size := fun B => by
        induction B with
        | nil => rfl
        | cons b B ih => simp only [List.foldr_cons, Array.size_setIfInBounds]; exact ih
      rcases List.mem_cons.1 h with rfl | h
      · simp [hs, hl]
      · exact getD_set_true (ih j h hl)
  rw [mem_ready] at hk ⊢
  obtain ⟨h0, o, ho, hall⟩ := hk
  have hne : ∀ e ∈ es, e.k ≠ k := fun e he e2 => hkB (e2 ▸ hB e he)
  rw [marks_getD true hne] at h0
  refine ⟨by rw [getB B k true hkB]; exact h0, o, ho, fun e he hb => ?_⟩
  have h3 := hall e he hb
  by_cases hj : e.on ∈ B
  · refine inB B _ hj ?_
    have hs : (marks es l).size = l.size := by
      clear hne h3 hall h0 hB
      induction es with
      | nil => rfl
      | cons f es ih => show ((marks es l).setIfInBounds f.k true).size = _; rw [Array.size_setIfInBounds]; exact ih
    rcases Nat.lt_or_ge e.on l.size with h | h
    · exact h
    · simp [Array.getElem?_eq_none (show (marks es l).size ≤ e.on by omega)] at h3
  · rw [marks_getD false (k := e.on) (fun f hf e2 => hj (by rw [← e2]; exact hB f hf))] at h3
    exact up B _ h3
theorem ready_marks {es : List Er} {l : Array Bool} {k : Nat} (hk : k ∈ Region.ready .any ops l) (h : ∀ e ∈ es, e.k ≠ k) : k ∈ Region.ready .any ops (marks es l) := by
  induction es with
  | nil => exact hk
  | cons e es ih => exact ready_mono (ih (fun f hf => h f (List.mem_cons_of_mem _ hf))) (Ne.symm (h e (List.mem_cons_self ..)))

structure Inv (X : Ctx) (ops : Array Oper) (C : World → Prop) (l : List (Nat × Tag)) (S : Nat → Prop) (listed : Array Bool) (es : List Er) (a : Act) (w : World) : Prop where
  ok : ∀ e ∈ es, ErOk X ops C S listed a w e
  nd : (es.map Er.k).Nodup
  ap : ∀ e ∈ es, ∀ f ∈ es, e.k ≠ f.k → e.o.apart ops f.o = true
  tg : ∀ e ∈ es, ∃ B, (e.k, Tag.b B) ∈ l
  bs : ∀ e ∈ es, ∀ f ∈ es, e.k ≠ f.k → e.b ≠ f.b
  cw : C w
  lt : ∀ k, S k → k < w.heap.size

theorem born_born {o : Oper} {a : Act} {V : Nat → Value} {O : Obj} {e : Er} (h : Born X ops C o a V O) (cw : C e.w) (hr : (execOp a.eval o).run X.P e.w = .ok (.value e.v) (e.w.alloc e.O)) (hb : e.b = e.w.heap.size) : e.v = V e.b ∧ e.O = O := by
  have := h.run e.w cw
  rw [hr] at this
  simp only [Result.ok.injEq, Next.value.injEq] at this
  rw [hb]
  exact ⟨this.1, alloc_inj this.2⟩

theorem apart_symm {x y : Oper} (h : x.apart ops y = true) : y.apart ops x = true := by
  obtain ⟨h1, h2, h3⟩ := Oper.apart_spec h
  unfold Oper.apart
  cases hx : x.dst with
  | none =>
    cases hy : y.dst with
    | none => rfl
    | some d => have := h3 d hy; simp [this]
  | some d =>
    have a1 := h1 d hx
    cases hy : y.dst with
    | none => simp [a1]
    | some d' =>
      have a3 := h3 d' hy
      have a2 := h2 d hx
      rw [hy] at a2
      have a2' : d ≠ d' := fun e => a2 (by rw [e])
      simp [a1, a3, a2']
theorem apartK_spec {i k : Nat} {x y : Oper} (h : apartK ops i k = true) (hx : ops[i]? = some x) (hy : ops[k]? = some y) : x.apart ops y = true := by
  simpa [apartK, hx, hy] using h
theorem marks_false {es : List Er} {l : Array Bool} {k : Nat} (h : (marks es l).getD k true = false) : l.getD k true = false := by
  induction es with
  | nil => exact h
  | cons e es ih =>
    apply ih
    by_cases e2 : e.k = k
    · subst e2
      have : ((marks es l).setIfInBounds e.k true).getD e.k true = false := h
      rcases Nat.lt_or_ge e.k (marks es l).size with hl | hl
      · simp [hl] at this
      · simp [Array.getElem?_eq_none (show ((marks es l).setIfInBounds e.k true).size ≤ e.k by simpa using hl)] at this
    · have : ((marks es l).setIfInBounds e.k true).getD k true = false := h
      rwa [getD_set_ne true e2] at this
theorem marks_mem {es : List Er} {l : Array Bool} {e : Er} (he : e ∈ es) : (marks es l).getD e.k true = true := by
  induction es with
  | nil => cases he
  | cons f es ih =>
    show ((marks es l).setIfInBounds f.k true).getD e.k true = true
    by_cases e2 : f.k = e.k
    · rw [e2]
      rcases Nat.lt_or_ge e.k (marks es l).size with hl | hl
      · simp [hl]
      · simp [Array.getElem?_eq_none (show ((marks es l).setIfInBounds e.k true).size ≤ e.k by simpa using hl)]
    · rw [getD_set_ne true e2]
      rcases List.mem_cons.1 he with rfl | h
      · exact absurd rfl e2
      · exact ih h
structure Step (ops : Array Oper) (i : Nat) (B : List Nat) (r : List (Nat × Tag)) (listed : Array Bool) : Prop where
  rdy : i ∈ Region.ready .any ops listed
  all : ∀ k ∈ Region.ready .any ops listed, k = i ∨ k ∈ B
  out : i ∉ B
  nxt : ∀ k ∈ Region.ready .any ops (B.foldr (fun k l => l.setIfInBounds k true) listed), k = i
  brd : ∀ k ∈ B, k ∈ Region.ready .any ops listed
  ap : ∀ k ∈ B, apartK ops i k = true
  tg : ∀ k ∈ B, ∃ B', (k, Tag.b B') ∈ r
  apb : ∀ k ∈ B, ∀ k' ∈ B, k' = k ∨ apartK ops k k' = true
theorem okStep_spec {i : Nat} {B : List Nat} {r : List (Nat × Tag)} {listed : Array Bool} (h : okStep ops i B r listed = true) : Step ops i B r listed := by
  simp only [okStep, Bool.and_eq_true, List.contains_iff_mem, List.all_eq_true, Bool.or_eq_true, beq_iff_eq, Bool.not_eq_true'] at h
  obtain ⟨⟨⟨⟨h1, h2⟩, h3⟩, h4⟩, h5⟩ := h
  refine ⟨h1, h2, fun hm => ?_, h4, fun k hk => (h5 k hk).1.1.1.1, fun k hk => (h5 k hk).1.1.1.2, fun k hk => ?_, fun k hk => (h5 k hk).2⟩
  · have : B.contains i = true := by simpa using hm
    rw [this] at h3; cases h3
  · have := (h5 k hk).1.2
    simp only [List.any_eq_true, Bool.and_eq_true, beq_iff_eq] at this
    obtain ⟨⟨k', tg⟩, hm, rfl, ht⟩ := this
    cases tg with
    | b B' => exact ⟨B', hm⟩
    | q => cases ht
    | n _ => cases ht

theorem AnyC.early {l : List (Nat × Tag)} {S : Nat → Prop} {listed : Array Bool} {es : List Er} {a : Act} {w : World} {m k i : Nat} {B : List Nat} {r : List (Nat × Tag)} (hCb : ∀ w w', C w → Bel w w' → C w') (hsd : noSD ops = true)
    (hI : Inv X ops C l S listed es a w) (hs : Step ops i B r listed) (hsub : ∀ x ∈ r, x ∈ l) (hB : Borns X ops C B a) (hkB : k ∈ B) (hk : k ∈ Region.ready .any ops (marks es listed)) (hes : ∀ e ∈ es, e.k = i ∨ e.k ∈ B)
    (go : ∀ e w'', Bel w w'' → Inv X ops C l S listed (e :: es) a w'' → AnyC X ops p C m (marks (e :: es) listed) (puts (e :: es) a) w'') :
    wpOpIn (fen X.ro) 0 X.P ops p.toQ k (fun a' w' => C w' ∧ ∀ w'', Bel w' w'' → AnyC X ops p C m ((marks es listed).setIfInBounds k true) a' w'') (puts es a) w := by
  obtain ⟨o, V, O, ho, hb⟩ := hB k hkB
  have hnk : ∀ e ∈ es, e.k ≠ k := fun e he e2 => by
    have h1 := (mem_ready.1 hk).1
    rw [← e2, marks_mem he] at h1; cases h1
  have hap : ∀ e ∈ es, e.o.apart ops o = true ∧ o.apart ops e.o = true := fun e he => by
    have hop := (hI.ok e he).op
    rcases hes e he with h | h
    · have := apartK_spec (hs.ap k hkB) (h ▸ hop) ho
      exact ⟨this, apart_symm this⟩
    · rcases hs.apb k hkB e.k h with h2 | h2
      · exact absurd h2 (hnk e he)
      · have := apartK_spec h2 ho hop
        exact ⟨apart_symm this, this⟩
  have hrun : (execOp (puts es a).eval o).run X.P w = .ok (.value (V w.heap.size)) (w.alloc O) := by
    rw [exec_puts (noSD_sel hsd ho).1 es a (fun e he => (hap e he).1)]
    exact hb.run w hI.cw
  have hbel : Bel w (w.alloc O) := Bel.alloc' w O
  have hnew : (w.alloc O).heap[w.heap.size]? = some O := by show (w.heap.push O)[w.heap.size]? = some O; simp
  have hsz : (w.alloc O).heap.size = w.heap.size + 1 := by show (w.heap.push O).size = _; simp
  unfold wpOpIn
  simp only [ho, want_puts es a (fun e he => (hap e he).1), hb.want, if_true]
  refine ⟨about_true, ?_⟩
  rw [semAt_of (noSD_sel hsd ho).2, hrun]
  refine ⟨hCb _ _ hI.cw hbel, fun w'' hb'' => ?_⟩
  refine go ⟨k, o, V w.heap.size, w.heap.size, O, w⟩ w'' (hbel.trans' hb'') ?_
  have hlt : ∀ e ∈ es, e.b < w.heap.size := fun e he => by
    have := (hI.ok e he).here
    exact (Array.getElem?_eq_some_iff.1 this).1
  refine ⟨fun e he => ?_, ?_, fun e he f hf => ?_, fun e he => ?_, fun e he f hf => ?_, hCb _ _ hI.cw (hbel.trans' hb''), fun x hx => Nat.lt_of_lt_of_le (hI.lt x hx) (hbel.trans' hb'').size⟩
  · rcases List.mem_cons.1 he with rfl | he
    · refine ⟨ho, hI.cw, hb.run w hI.cw, rfl, ?_, fun h => Nat.lt_irrefl _ (hI.lt _ h), hs.brd k hkB⟩
      show w''.heap[w.heap.size]? = some O
      rw [hb''.block _ (by rw [hsz]; omega)]
      exact hnew
    · have h := hI.ok e he
      exact ⟨h.op, h.cw, h.run, h.num, by rw [(hbel.trans' hb'').block _ (hlt e he)]; exact h.here, h.out, h.rdy⟩
  · rw [List.map_cons, List.nodup_cons]
    refine ⟨fun hm => ?_, hI.nd⟩
    obtain ⟨e, he, h⟩ := List.mem_map.1 hm
    exact hnk e he h
  · intro hne
    rcases List.mem_cons.1 he with rfl | he <;> rcases List.mem_cons.1 hf with rfl | hf
    · exact absurd rfl hne
    · exact (hap f hf).2
    · exact (hap e he).1
    · exact hI.ap e he f hf hne
  · rcases List.mem_cons.1 he with rfl | he
    · obtain ⟨B', h⟩ := hs.tg k hkB
      exact ⟨B', hsub _ h⟩
    · exact hI.tg e he
  · intro hne
    rcases List.mem_cons.1 he with rfl | he <;> rcases List.mem_cons.1 hf with rfl | hf
    · exact absurd rfl hne
    · exact (Nat.ne_of_lt (hlt f hf)).symm
    · exact Nat.ne_of_lt (hlt e he)
    · exact hI.bs e he f hf hne

theorem Inv.len {r : List (Nat × Tag)} {i : Nat} {tg : Tag} {S : Nat → Prop} {listed : Array Bool} {es : List Er} {a : Act} {w : World} (h : Inv X ops C ((i, tg) :: r) S listed es a w) (hne : ∀ e ∈ es, e.k ≠ i) : es.length ≤ r.length := by
  have := pigeon (es.map Er.k) (r.map (·.1)) h.nd (fun k hk => by
    obtain ⟨e, he, rfl⟩ := List.mem_map.1 hk
    obtain ⟨B, hb⟩ := h.tg e he
    rcases List.mem_cons.1 hb with e1 | hb
    · exact absurd (congrArg Prod.fst e1) (hne e he)
    · exact List.mem_map.2 ⟨_, hb, rfl⟩)
  simpa using this
theorem Inv.up {r : List (Nat × Tag)} {i : Nat} {tg : Tag} {S S' : Nat → Prop} {listed : Array Bool} {es : List Er} {a a' : Act} {w w' : World} (h : Inv X ops C ((i, tg) :: r) S listed es a w) (hne : ∀ e ∈ es, e.k ≠ i)
    (cw : C w') (hrun : ∀ e ∈ es, (execOp a'.eval e.o).run X.P e.w = (execOp a.eval e.o).run X.P e.w) (hh : ∀ e ∈ es, w'.heap[e.b]? = w.heap[e.b]?) (hout : ∀ e ∈ es, ¬ S' e.b) (hlt : ∀ k, S' k → k < w'.heap.size) :
    Inv X ops C r S' (listed.setIfInBounds i true) es a' w' := by
  refine ⟨fun e he => ?_, h.nd, h.ap, fun e he => ?_, h.bs, cw, hlt⟩
  · have k := h.ok e he
    exact ⟨k.op, k.cw, by rw [hrun e he]; exact k.run, k.num, by rw [hh e he]; exact k.here, hout e he, ready_mono k.rdy (hne e he)⟩
  · obtain ⟨B, hb⟩ := h.tg e he
    rcases List.mem_cons.1 hb with e1 | hb
    · exact absurd (congrArg Prod.fst e1) (hne e he)
    · exact ⟨B, hb⟩
theorem Inv.early_lt {l : List (Nat × Tag)} {S : Nat → Prop} {listed : Array Bool} {es : List Er} {a : Act} {w : World} (h : Inv X ops C l S listed es a w) : ∀ e ∈ es, e.b < w.heap.size := fun e he =>
  (Array.getElem?_eq_some_iff.1 (h.ok e he).here).1

theorem BW.turn {i : Nat} {B : List Nat} {r : List (Nat × Tag)} {listed : Array Bool} {S : Nat → Prop} {a : Act} (hC0 : ∀ w, C w → X.w0.heap.size ≤ w.heap.size) (hsd : noSD ops = true)
    (IH : ∀ (n : Nat) (es : List Er) (a : Act) (w : World) (S : Nat → Prop), r.length ≤ n + es.length → Inv X ops C r S (listed.setIfInBounds i true) es a w → (∀ w', Bel w w' → BW X ops p C r S a w') → AnyC X ops p C n (marks es (listed.setIfInBounds i true)) (puts es a) w)
    (n : Nat) (es : List Er) (w : World) (hn : ((i, Tag.b B) :: r).length ≤ n + es.length) (hI : Inv X ops C ((i, Tag.b B) :: r) S listed es a w) (hB : ∀ w', Bel w w' → BW X ops p C ((i, Tag.b B) :: r) S a w')
    (hex : ∃ e ∈ es, e.k = i) : AnyC X ops p C n (marks es listed) (puts es a) w := by
  obtain ⟨e, he, hei⟩ := hex
  obtain ⟨s, t, rfl⟩ := List.append_of_mem he
  have hnd := hI.nd
  simp only [List.map_append, List.map_cons] at hnd
  have hdis : ∀ f ∈ s ++ t, f.k ≠ e.k := fun f hf hk => by
    have h1 := List.nodup_append.1 hnd
    rcases List.mem_append.1 hf with hf | hf
    · exact h1.2.2 _ (List.mem_map.2 ⟨f, hf, rfl⟩) _ (List.mem_cons_self ..) hk
    · exact (List.nodup_cons.1 h1.2.1).1 (List.mem_map.2 ⟨f, hf, hk⟩)
  have hsub : ∀ f ∈ s ++ t, f ∈ s ++ e :: t := fun f hf => by
    rcases List.mem_append.1 hf with h | h
    · exact List.mem_append_left _ h
    · exact List.mem_append_right _ (List.mem_cons_of_mem _ h)
  have hap : ∀ f ∈ s ++ t, e.o.apart ops f.o = true := fun f hf => hI.ap e he f (hsub f hf) (Ne.symm (hdis f hf))
  have hne : ∀ f ∈ s ++ t, f.k ≠ i := fun f hf => by rw [← hei]; exact hdis f hf
  have hp : puts (s ++ e :: t) a = puts (s ++ t) (a.put e.o.dst e.v) := by
    unfold puts
    rw [List.foldr_append, List.foldr_append, List.foldr_cons]
    congr 1
    exact put_puts t a (fun f hf => hap f (List.mem_append_right _ hf))
  have hm : marks (s ++ e :: t) listed = marks (s ++ t) (listed.setIfInBounds i true) := by
    unfold marks
    rw [List.foldr_append, List.foldr_append, List.foldr_cons, hei]
    congr 1
    exact marks_set (fun f hf => hne f (List.mem_append_right _ hf))
  rw [hp, hm]
  have hke := hI.ok e he
  refine IH n (s ++ t) (a.put e.o.dst e.v) w (fun k => S k ∨ k = e.b) (by simp only [List.length_append, List.length_cons] at hn ⊢; omega) ?_ fun w' hb => ?_
  · refine ⟨fun f hf => ?_, ?_, fun f hf g hg => hI.ap f (hsub f hf) g (hsub g hg), fun f hf => ?_, fun f hf g hg => hI.bs f (hsub f hf) g (hsub g hg), hI.cw, fun k hk => ?_⟩
    · have h := hI.ok f (hsub f hf)
      refine ⟨h.op, h.cw, ?_, h.num, h.here, fun hS => ?_, ready_mono h.rdy (hne f hf)⟩
      · rw [execOp_put f.o (noSD_sel hsd h.op).1 a e.o.dst e.v (Oper.apart_spec (hap f hf)).1]; exact h.run
      · rcases hS with h1 | h1
        · exact h.out h1
        · exact hI.bs f (hsub f hf) e he (hdis f hf) h1
    · rw [List.map_append]
      have h1 := List.nodup_append.1 hnd
      refine List.nodup_append.2 ⟨h1.1, (List.nodup_cons.1 h1.2.1).2, fun x hx y hy => h1.2.2 x hx y (List.mem_cons_of_mem _ hy)⟩
    · obtain ⟨B', hb⟩ := hI.tg f (hsub f hf)
      rcases List.mem_cons.1 hb with e1 | hb
      · exact absurd (congrArg Prod.fst e1) (hne f hf)
      · exact ⟨B', hb⟩
    · rcases hk with hk | rfl
      · exact hI.lt k hk
      · exact hI.early_lt e he
  · obtain ⟨_, o, V, O, ho, hbn, hgo⟩ := hB w' hb
    have heo : e.o = o := by
      have := hke.op
      rw [hei, ho] at this
      exact (Option.some.inj this).symm
    subst heo
    obtain ⟨h1, h2⟩ := born_born hbn hke.cw hke.run hke.num
    have := hgo e.b w' (Bel.refl _) (by rw [hke.num]; exact hC0 _ hke.cw) (by rw [hb.block _ (hI.early_lt e he), ← h2]; exact hke.here) hke.out
    rw [h1]; exact this

theorem BW.any (hC0 : ∀ w, C w → X.w0.heap.size ≤ w.heap.size) (hCb : ∀ w w', C w → Bel w w' → C w') (hsd : noSD ops = true) : ∀ (l : List (Nat × Tag)) (listed : Array Bool), orderW ops l listed = true → ∀ (n : Nat) (es : List Er) (a : Act) (w : World) (S : Nat → Prop),
    l.length ≤ n + es.length → Inv X ops C l S listed es a w → (∀ w', Bel w w' → BW X ops p C l S a w') → AnyC X ops p C n (marks es listed) (puts es a) w
  | [], listed, hO, n, es, a, w, S, hn, hI, hB => by
    have : es = [] := by
      cases es with
      | nil => rfl
      | cons e es => obtain ⟨_, h⟩ := hI.tg e (List.mem_cons_self ..); cases h
    subst this
    have hr : Region.ready .any ops listed = [] := by simpa [orderW] using hO
    have hp : p.nrm a w := hB w (Bel.refl _)
    cases n with
    | zero => exact ⟨hr, hp⟩
    | succ n => exact ⟨fun _ => hp, fun i hi => by rw [show marks [] listed = listed from rfl, hr] at hi; cases hi⟩
  | (i, tg) :: r, listed, hO, n, es, a, w, S, hn, hI, hB => by
    simp only [orderW, Bool.and_eq_true, Bool.not_eq_true'] at hO
    obtain ⟨⟨hT, hir⟩, hR⟩ := hO
    have hir' : ∀ tg', (i, tg') ∉ r := fun tg' h => by
      have : (r.any fun t => t.1 == i) = true := List.any_eq_true.2 ⟨_, h, by simp⟩
      rw [this] at hir; cases hir
    have IH := BW.any hC0 hCb hsd r (listed.setIfInBounds i true) hR
    have hnb : ∀ e ∈ es, e.k = i → ∃ B, tg = .b B := fun e he hk => by
      obtain ⟨B, hb⟩ := hI.tg e he
      rcases List.mem_cons.1 hb with e1 | hb
      · exact ⟨B, (congrArg Prod.snd e1).symm⟩
      · rw [hk] at hb; exact absurd hb (hir' _)
    cases tg with
    | q =>
      have hne : ∀ e ∈ es, e.k ≠ i := fun e he hk => by obtain ⟨B, h⟩ := hnb e he hk; cases h
      have hl := hI.len hne
      simp only [Bool.and_eq_true, List.contains_iff_mem] at hT
      obtain ⟨hrd, hfr⟩ := hT
      obtain ⟨o, v, ho, hy, hk⟩ := hB w (Bel.refl _)
      cases n with
      | zero => simp only [List.length_cons] at hn; omega
      | succ m =>
        have hiun := (mem_ready.1 hrd).1
        have hap : ∀ e ∈ es, o.apart ops e.o = true := fun e he => by
          have h := hI.ok e he
          obtain ⟨hun, oe, hoe, hall⟩ := mem_ready.1 h.rdy
          rw [h.op] at hoe; cases hoe
          refine Region.free_spec ho hfr e.k e.o h.op (hne e he) hun (fun ed hed hb he2 => ?_)
          have h1 := hall ed hed hb
          rw [he2] at h1
          rcases Nat.lt_or_ge i listed.size with h' | h'
          · simp [h'] at hiun h1; rw [hiun] at h1; cases h1
          · simp [Array.getElem?_eq_none h'] at h1
        refine AnyC.take (v := v) hCb ho hsd m (marks es listed) (puts es a) w (fun j oj hj hji hun hno => Region.free_spec ho hfr j oj hj hji (marks_false hun) hno) (ready_marks hrd hne) ?_ hI.cw fun w' hb => ?_
        · unfold YieldsC QRun at hy ⊢
          rw [want_puts es a (fun e he => apart_symm (hap e he)), exec_puts (noSD_sel hsd ho).1 es a (fun e he => apart_symm (hap e he))]
          exact hy
        · rw [marks_set hne, put_puts es a hap]
          refine IH m es (a.put o.dst v) w' S (by simp only [List.length_cons] at hn; omega) (hI.up hne (hCb _ _ hI.cw hb) (fun e he => ?_) (fun e he => hb.block _ (hI.early_lt e he)) (fun e he => (hI.ok e he).out) (fun k h => Nat.lt_of_lt_of_le (hI.lt k h) hb.size)) (fun w'' hb' => hk w'' (hb.trans' hb'))
          rw [execOp_put e.o (noSD_sel hsd (hI.ok e he).op).1 a o.dst v (Oper.apart_spec (hap e he)).1]
    | n B =>
      have hs := okStep_spec hT
      have hne : ∀ e ∈ es, e.k ≠ i := fun e he hk => by obtain ⟨B, h⟩ := hnb e he hk; cases h
      have heB : ∀ e ∈ es, e.k ∈ B := fun e he => (hs.all _ (hI.ok e he).rdy).resolve_left (hne e he)
      clear hnb
      induction n generalizing es w with
      | zero => have hl := hI.len hne; simp only [List.length_cons] at hn; omega
      | succ m ihm =>
        refine ⟨fun h => (by have := ready_marks hs.rdy hne; rw [h] at this; cases this), fun k hk => ?_⟩
        obtain ⟨hBs, hwp⟩ := hB w (Bel.refl _)
        rcases ready_back heB hs.nxt hk with rfl | hkB
        · obtain ⟨_, oi, hoi, _⟩ := mem_ready.1 hs.rdy
          have hap : ∀ e ∈ es, e.o.apart ops oi = true := fun e he => apart_symm (apartK_spec (hs.ap _ (heB e he)) hoi (hI.ok e he).op)
          have h1 := wpOpIn_keep (Z := fun a' => ∀ e ∈ es, (execOp a'.eval e.o).run X.P e.w = (execOp a.eval e.o).run X.P e.w) hoi (noSD_sel hsd hoi).2
            (fun a' u hz e he => by rw [execOp_put e.o (noSD_sel hsd (hI.ok e he).op).1 a' oi.dst u (Oper.apart_spec (apart_symm (hap e he))).1]; exact hz e he) (fun a' d hz e he => hz e he) (fun e he => rfl) hwp
          refine wpOpIn_mono ?_ (wpOpIn_lates hoi hsd es a hap h1)
          rintro a'' w' ⟨a', rfl, hz, hc, hsz, S', hS, hkp, hgo⟩
          refine ⟨hc, fun w'' hb => ?_⟩
          rw [marks_set hne]
          refine IH m es a' w'' S' (by simp only [List.length_cons] at hn; omega) (hI.up hne (hCb _ _ hc hb) hz (fun e he => ?_) (fun e he h => ?_) (fun k h => Nat.lt_of_lt_of_le (hS k h).2 hb.size)) (fun w3 hb' => hgo w3 (hb.trans' hb'))
          · have hl := hI.early_lt e he
            rw [hb.block _ (Nat.lt_of_lt_of_le hl hsz)]
            exact hkp _ hl (hI.ok e he).out
          · rcases (hS _ h).1 with h | h
            · exact (hI.ok e he).out h
            · exact Nat.lt_irrefl _ (Nat.lt_of_lt_of_le (hI.early_lt e he) h)
        · refine AnyC.early hCb hsd hI hs (fun x hx => List.mem_cons_of_mem _ hx) hBs hkB hk (fun e he => .inr (heB e he)) fun e w'' hb hI' => ?_
          have hne' : ∀ f ∈ e :: es, f.k ≠ i := fun f hf hk => by
            obtain ⟨B', hb⟩ := hI'.tg f hf
            rcases List.mem_cons.1 hb with e1 | hb
            · exact absurd (congrArg Prod.snd e1) (by intro h; cases h)
            · rw [hk] at hb; exact hir' _ hb
          exact ihm (e :: es) w'' (by simp only [List.length_cons] at hn ⊢; omega) hI' (fun w3 hb' => hB w3 (hb.trans' hb')) hne' (fun f hf => (hs.all _ (hI'.ok f hf).rdy).resolve_left (hne' f hf))
    | b B =>
      have hs := okStep_spec hT
      have heB : ∀ e ∈ es, e.k = i ∨ e.k ∈ B := fun e he => hs.all _ (hI.ok e he).rdy
      clear hnb
      induction n generalizing es w with
      | zero =>
        by_cases hex : ∃ e ∈ es, e.k = i
        · exact BW.turn hC0 hsd IH 0 es w hn hI hB hex
        · have hne : ∀ e ∈ es, e.k ≠ i := fun e he hk => hex ⟨e, he, hk⟩
          have hl := hI.len hne; simp only [List.length_cons] at hn; omega
      | succ m ihm =>
        by_cases hex : ∃ e ∈ es, e.k = i
        · exact BW.turn hC0 hsd IH (m + 1) es w hn hI hB hex
        have hne : ∀ e ∈ es, e.k ≠ i := fun e he hk => hex ⟨e, he, hk⟩
        have heB' : ∀ e ∈ es, e.k ∈ B := fun e he => (heB e he).resolve_left (hne e he)
        refine ⟨fun h => (by have := ready_marks hs.rdy hne; rw [h] at this; cases this), fun k hk => ?_⟩
        obtain ⟨hBs, o, V, O, ho, hb, hgo⟩ := hB w (Bel.refl _)
        rcases ready_back heB' hs.nxt hk with rfl | hkB
        · have hap : ∀ e ∈ es, o.apart ops e.o = true := fun e he => apartK_spec (hs.ap _ (heB' e he)) ho (hI.ok e he).op
          have hbel : Bel w (w.alloc O) := Bel.alloc' w O
          have hnew : (w.alloc O).heap[w.heap.size]? = some O := by show (w.heap.push O)[w.heap.size]? = some O; simp
          have hsz : (w.alloc O).heap.size = w.heap.size + 1 := by show (w.heap.push O).size = _; simp
          unfold wpOpIn
          simp only [ho, want_puts es a (fun e he => apart_symm (hap e he)), hb.want, if_true]
          refine ⟨about_true, ?_⟩
          rw [semAt_of (noSD_sel hsd ho).2, exec_puts (noSD_sel hsd ho).1 es a (fun e he => apart_symm (hap e he)), hb.run w hI.cw]
          refine ⟨hCb _ _ hI.cw hbel, fun w'' hb'' => ?_⟩
          show AnyC X ops p C m _ ((puts es a).put o.dst (V w.heap.size)) w''
          rw [marks_set hne, put_puts es a hap]
          have hbb := hbel.trans' hb''
          refine IH m es (a.put o.dst (V w.heap.size)) w'' (fun k => S k ∨ k = w.heap.size) (by simp only [List.length_cons] at hn; omega)
            (hI.up hne (hCb _ _ hI.cw hbb) (fun e he => by rw [execOp_put e.o (noSD_sel hsd (hI.ok e he).op).1 a o.dst _ (Oper.apart_spec (hap e he)).1]) (fun e he => hbb.block _ (hI.early_lt e he)) (fun e he h => ?_) (fun k h => ?_))
            (fun w3 hb3 => hgo w.heap.size w3 (hbb.trans' hb3) (hC0 _ hI.cw) ?_ (fun h => Nat.lt_irrefl _ (hI.lt _ h)))
          · rcases h with h | h
            · exact (hI.ok e he).out h
            · exact Nat.lt_irrefl _ (h ▸ hI.early_lt e he)
          · rcases h with h | rfl
            · exact Nat.lt_of_lt_of_le (hI.lt k h) hbb.size
            · exact Nat.lt_of_lt_of_le (by rw [hsz]; omega) hb''.size
          · rw [(hb''.trans' hb3).block _ (by rw [hsz]; omega)]
            exact hnew
        · refine AnyC.early hCb hsd hI hs (fun x hx => List.mem_cons_of_mem _ hx) hBs hkB hk heB fun e w'' hb hI' => ?_
          exact ihm (e :: es) w'' (by simp only [List.length_cons] at hn ⊢; omega) hI' (fun w3 hb' => hB w3 (hb.trans' hb')) (fun f hf => hs.all _ (hI'.ok f hf).rdy)
end

/-! ### The walk over states -/
/-- The same walk, told from H and w on. -/
abbrev Ctx.at (X : Ctx) (H : Heap) (w : World) : Ctx := { X with H0 := H, w0 := w }
/-- An operation that only lays a block, in every memory that keeps what is named. -/
def Births (X : Ctx) (o : Oper) (E : Env) (H : Heap) (V : Nat → Value) (O : Obj) : Prop :=
  ∀ a w, AE X E a → HW X.H0 X.w0 H w → (execOp a.eval o).run X.P w = .ok (.value (V w.heap.size)) (w.alloc O)
def BornsE (X : Ctx) (ops : Array Oper) (Hq : Heap) (B : List Nat) (E : Env) : Prop :=
  ∀ k ∈ B, ∃ o V O, ops[k]? = some o ∧ wantedE ops E o = some true ∧ Births X o E Hq V O
/-- 'Hq': what no operation of the region turns. -/
def WB (X : Ctx) (ops : Array Oper) (p : Post) (Hq : Heap) (l : List (Nat × Tag)) (E : Env) (H : Heap) : Prop :=
  ∀ a w S, (∀ k, S k ↔ k ∈ keys H) → AE X E a → HW X.H0 X.w0 H w → BW X ops p (fun w => HW X.H0 X.w0 Hq w) l S a w
section
variable {X : Ctx} {ops : Array Oper} {p : Post} {Hq : Heap} {E : Env} {H F : Heap} {r : List (Nat × Tag)} {i : Nat} {o : Oper} {B : List Nat}
theorem BornsE.nil : BornsE X ops Hq [] E := fun _ h => by cases h
theorem BornsE.cons {k : Nat} {V : Nat → Value} {O : Obj} (ho : ops[k]? = some o) (hg : wantedE ops E o = some true) (h : Births X o E Hq V O) (t : BornsE X ops Hq B E) : BornsE X ops Hq (k :: B) E := fun j hj => by
  rcases List.mem_cons.1 hj with rfl | hj
  · exact ⟨o, V, O, ho, hg, h⟩
  · exact t j hj
theorem BornsE.borns {a : Act} (h : BornsE X ops Hq B E) (ha : AE X E a) : Borns X ops (fun w => HW X.H0 X.w0 Hq w) B a := fun k hk => by
  obtain ⟨o, V, O, ho, hg, hb⟩ := h k hk
  exact ⟨o, V, O, ho, wantedE_spec ha hg, fun w hw => hb a w ha hw⟩
theorem WC_drawB {id : Nat} {l : List Oper} (Hq : Heap) (ord : List (Nat × Tag)) (hm : X.P.follows .mixedOrders = true) (hsd : noSD l.toArray = true) (hlen : ord.length = l.length)
    (hB : orderW l.toArray ord (Array.replicate l.length false) = true) (hq : Pulls Hq H F) (h : WB X l.toArray p Hq ord E H) : WC X (.region id l.toArray true) p E H := by
  intro a w ha hw
  refine wpIn_region_any hm ?_
  have hb : Bel w { w with drawn := w.drawn + 1 } := Bel.drew' w
  have hw1 := hw.bel hb
  have h1 := BW.any (X := X) (p := p) (C := fun w => HW X.H0 X.w0 Hq w) (fun _ h => h.size) (fun _ _ h b => h.bel b) hsd ord _ hB ord.length [] a _ (fun k => k ∈ keys H) (by simp)
    ⟨fun e h => (by cases h), List.nodup_nil, fun e h => (by cases h), fun e h => (by cases h), fun e h => (by cases h), (hw1.perm hq.perm).left, fun k hk => hw1.hok.lt hk⟩
    (fun w' hb' => h a _ _ (fun _ => Iff.rfl) ha (hw1.bel hb'))
  rw [hlen] at h1
  have := AnyC.sound _ _ _ _ h1
  simpa [marks, puts] using this
theorem WB_nil (h : WQ X p.nrm E H) : WB X ops p Hq [] E H := fun a w _ _ ha hw => h a w ha hw
theorem WB_val {d : Nat} {v : Value} (ho : ops[i]? = some o) (hg : wantedE ops E o = some true) (hd : o.dst = some d) (hN : Nat.blt d X.N = true) (h : Runs X o E Hq v)
    (k : WB X ops p Hq r ((d, v) :: E) H) : WB X ops p Hq ((i, .q) :: r) E H := fun a w S hS ha hw =>
  ⟨o, v, ho, .inl ⟨wantedE_spec ha hg, fun w' hw' => .inl (h.2 a w' ha hw')⟩, fun w' hb => k _ _ S hS (by rw [hd]; exact ha.put d v hN) (hw.bel hb)⟩
theorem WB_skip {d : Nat} (ho : ops[i]? = some o) (hg : wantedE ops E o = some false) (hd : o.dst = some d) (hN : Nat.blt d X.N = true)
    (k : WB X ops p Hq r ((d, undef) :: E) H) : WB X ops p Hq ((i, .q) :: r) E H := fun a w S hS ha hw =>
  ⟨o, undef, ho, .inr ⟨wantedE_spec ha hg, rfl⟩, fun w' hb => k _ _ S hS (by rw [hd]; exact ha.put d undef hN) (hw.bel hb)⟩
theorem WB_split {s : Nat} {b : Bool} {l : List (Nat × Tag)} (h : gtE E s = some (.bool b)) (h1 : b = true → WB X ops p Hq l ((s, .bool true) :: E) H) (h2 : b = false → WB X ops p Hq l ((s, .bool false) :: E) H) : WB X ops p Hq l E H := by
  have key : ∀ (c : Bool), b = c → ∀ a, AE X E a → AE X ((s, .bool c) :: E) a := fun c hc a ha => ⟨ha.size, ha.defers, fun t v ht => by
    rw [get_cons] at ht
    split at ht
    · rename_i e; subst e; cases ht; rw [← hc]; exact ha.env _ _ h
    · exact ha.env _ _ ht⟩
  intro a w S hS ha hw
  cases hb : b with
  | true => exact h1 hb a w S hS (key true hb a ha) hw
  | false => exact h2 hb a w S hS (key false hb a ha) hw
theorem WB_splitD {s : Nat} {q : Prop} [Decidable q] {l : List (Nat × Tag)} (h : gtE E s = some (.bool (decide q))) (h1 : q → WB X ops p Hq l ((s, .bool true) :: E) H) (h2 : ¬ q → WB X ops p Hq l ((s, .bool false) :: E) H) : WB X ops p Hq l E H :=
  WB_split h (fun e => h1 (of_decide_eq_true e)) (fun e => h2 (of_decide_eq_false e))
theorem WB_set {s : Nat} {v v' : Value} {l : List (Nat × Tag)} (h : gtE E s = some v') (he : v' = v) (k : WB X ops p Hq l ((s, v) :: E) H) : WB X ops p Hq l E H := by
  subst he
  intro a w S hS ha hw
  refine k a w S hS ⟨ha.size, ha.defers, fun t v ht => ?_⟩ hw
  rw [get_cons] at ht
  split at ht
  · rename_i e; subst e; cases ht; exact ha.env _ _ h
  · exact ha.env _ _ ht
theorem WB_none {l : List (Nat × Tag)} (e : TypeId) (k : WB X ops p Hq l E (⟨none, cl [] e⟩ :: H)) : WB X ops p Hq l E H := fun a w S hS ha hw =>
  k a w S (fun j => by rw [hS j]; simp [keys]) ha (hw.addNone e)
theorem WB_perm {l : List (Nat × Tag)} {H' : Heap} (q : H.Perm H') (k : WB X ops p Hq l E H') : WB X ops p Hq l E H := fun a w S hS ha hw =>
  k a w S (fun j => by rw [hS j]; exact (keys_perm q).mem_iff) ha (hw.perm q)
theorem HW.self {H0 H H' : Heap} {w0 w w' : World} (hw : HW H0 w0 H w) (c : HW H w H' w') : HW H0 w0 H' w' := by
  have := hw.frame (Hp := H) (F := []) (by rw [List.append_nil]) c
  rwa [List.append_nil] at this
theorem WB_turn {a : Act} {w : World} {S : Nat → Prop} {R : Value → Heap → Prop} (hS : ∀ k, S k ↔ k ∈ keys H) (hbs : BornsE X ops Hq B E) (ho : ops[i]? = some o) (hg : wantedE ops E o = some true)
    (h : ∀ w, Does (X.at H w) o E H R) (ha : AE X E a) (hw : HW X.H0 X.w0 H w) (k : ∀ v H' w'', R v H' → HW X.H0 X.w0 H' w'' → (∃ F, Pulls Hq H' F) ∧ ∀ S', (∀ k, S' k ↔ k ∈ keys H') → BW X ops p (fun w => HW X.H0 X.w0 Hq w) r S' (a.put o.dst v) w'') :
    BW X ops p (fun w => HW X.H0 X.w0 Hq w) ((i, .n B) :: r) S a w := by
  refine ⟨hbs.borns ha, ?_⟩
  simp only [wpOpIn, ho, wantedE_spec ha hg, if_true]
  refine h w a w ⟨ha.size, ha.defers, ha.env⟩ (HW.start hw.hok) _ _ fun v H' w' hr (hw' : HW H w H' w') => ?_
  have hwX := hw.self hw'
  obtain ⟨⟨F, hq⟩, -⟩ := k v H' w' hr hwX
  refine ⟨(hwX.perm hq.perm).left, hw'.size, fun j => j ∈ keys H', fun j hj => ⟨?_, hw'.hok.lt hj⟩, fun j hj hn => hw'.kept j hj (fun h => hn ((hS j).2 h)), fun w'' hb => (k v H' w'' hr (hwX.bel hb)).2 _ fun _ => Iff.rfl⟩
  rcases hw'.own j hj with h | h
  · exact .inl ((hS j).2 h)
  · exact .inr h
/-- An operation that turns something, where beside it only births may come up. -/
theorem WB_do {d : Nat} {R : Value → Heap → Prop} (ho : ops[i]? = some o) (hg : wantedE ops E o = some true) (hd : o.dst = some d) (hN : Nat.blt d X.N = true) (hbs : BornsE X ops Hq B E) (h : ∀ w, Does (X.at H w) o E H R)
    (k : ∀ v H', R v H' → (∃ F, Pulls Hq H' F) ∧ WB X ops p Hq r ((d, v) :: E) H') : WB X ops p Hq ((i, .n B) :: r) E H := fun _ _ _ hS ha hw =>
  WB_turn hS hbs ho hg h ha hw fun v H' _ hr hw' => ⟨(k v H' hr).1, fun S' hS' => (k v H' hr).2 _ _ S' hS' (by rw [hd]; exact ha.put d v hN) hw'⟩
theorem WB_do0 {R : Value → Heap → Prop} (ho : ops[i]? = some o) (hg : wantedE ops E o = some true) (hd : o.dst = none) (hbs : BornsE X ops Hq B E) (h : ∀ w, Does (X.at H w) o E H R)
    (k : ∀ v H', R v H' → (∃ F, Pulls Hq H' F) ∧ WB X ops p Hq r E H') : WB X ops p Hq ((i, .n B) :: r) E H := fun _ _ _ hS ha hw =>
  WB_turn hS hbs ho hg h ha hw fun v H' _ hr hw' => ⟨(k v H' hr).1, fun S' hS' => (k v H' hr).2 _ _ S' hS' (by rw [hd]; exact ha.put0 v) hw'⟩
theorem WB_skipN {d : Nat} (ho : ops[i]? = some o) (hg : wantedE ops E o = some false) (hd : o.dst = some d) (hN : Nat.blt d X.N = true) (hbs : BornsE X ops Hq B E) (hq : Pulls Hq H F)
    (k : WB X ops p Hq r ((d, undef) :: E) H) : WB X ops p Hq ((i, .n B) :: r) E H := fun a w S hS ha hw => by
  refine ⟨hbs.borns ha, ?_⟩
  simp only [wpOpIn, ho, wantedE_spec ha hg, Bool.false_eq_true, if_false]
  exact ⟨about_true, (hw.perm hq.perm).left, Nat.le_refl _, S, fun j hj => ⟨.inl hj, hw.hok.lt ((hS j).1 hj)⟩, (by intros; first | rfl | trivial), fun w'' hb => k _ _ S hS (by rw [hd]; exact ha.put d undef hN) (hw.bel hb)⟩
theorem WB_skipN0 (ho : ops[i]? = some o) (hg : wantedE ops E o = some false) (hd : o.dst = none) (hbs : BornsE X ops Hq B E) (hq : Pulls Hq H F)
    (k : WB X ops p Hq r E H) : WB X ops p Hq ((i, .n B) :: r) E H := fun a w S hS ha hw => by
  refine ⟨hbs.borns ha, ?_⟩
  simp only [wpOpIn, ho, wantedE_spec ha hg, Bool.false_eq_true, if_false]
  exact ⟨about_true, (hw.perm hq.perm).left, Nat.le_refl _, S, fun j hj => ⟨.inl hj, hw.hok.lt ((hS j).1 hj)⟩, (by intros; first | rfl | trivial), fun w'' hb => k _ _ S hS (by rw [hd]; exact ha.put0 undef) (hw.bel hb)⟩
theorem WB_birth {d : Nat} {V : Nat → Value} {O : Obj} (ho : ops[i]? = some o) (hg : wantedE ops E o = some true) (hd : o.dst = some d) (hN : Nat.blt d X.N = true) (hbs : BornsE X ops Hq B E) (h : Births X o E Hq V O)
    (k : ∀ b, WB X ops p Hq r ((d, V b) :: E) (⟨some b, O⟩ :: H)) : WB X ops p Hq ((i, .b B) :: r) E H := fun a w S hS ha hw => by
  refine ⟨hbs.borns ha, o, V, O, ho, ⟨wantedE_spec ha hg, fun w' hw' => h a w' ha hw'⟩, fun b w' hb hge hO hn => ?_⟩
  have hw' := hw.bel hb
  refine k b _ w' _ (fun j => ?_) (by rw [hd]; exact ha.put d _ hN) ⟨⟨?_, fun x hx => ?_⟩, hw'.os, hw'.tape, hw'.output, hw'.size, hw'.kept, fun j hj => ?_, hw'.dr⟩
  · simp only [keys, List.filterMap_cons, List.mem_cons]
    rw [hS j, or_comm]; rfl
  · have hn' : b ∉ keys H := fun h => hn ((hS b).2 h)
    simpa [keys] using ⟨by simpa [keys] using hn', by simpa [keys] using hw'.hok.nodup⟩
  · rcases List.mem_cons.1 hx with rfl | hx
    · exact hO
    · exact hw'.hok.ok x hx
  · have hj' : j = b ∨ j ∈ keys H := by simpa [keys] using hj
    rcases hj' with rfl | hj'
    · exact .inr hge
    · exact hw'.own j hj'
theorem WB_call {d : Nat} {f : FuncId} {x : Operand} {args : List Operand} {tys : Array TypeId} {as vs fi ca : List Value} {Hp F : Heap} {v : Value} (ho : ops[i]? = some o)
    (hs : Spec X.P f as Hp (fun u H' => u = v ∧ ∃ G, H'.Perm (Hp ++ G))) (hg : wantedE ops E o = some true) (hd : o.dst = some d) (hN : Nat.blt d X.N = true)
    (hop : o.op = .call { callee := .value x, args := args.toArray, argTypes := tys }) (hx : callee E x = some (f, fi, ca)) (ha : evs E args = some vs) (he : fi ++ vs ++ ca = as) (hp : Pulls Hp Hq F)
    (k : WB X ops p Hq r ((d, v) :: E) H) : WB X ops p Hq ((i, .q) :: r) E H := by
  intro a w S hS hA hw
  refine ⟨o, v, ho, .inl ⟨wantedE_spec hA hg, fun w' hw' => .inr ?_⟩, fun w' hb => k _ _ S hS (by rw [hd]; exact hA.put d v hN) (hw.bel hb)⟩
  have hfe := callee_spec hx
  subst he
  refine ⟨f, (fi ++ vs ++ ca).toArray, ?_, ?_⟩
  · have hen := hs.enters (fi ++ vs ++ ca).toArray w'
    simp only [List.append_assoc] at hen
    simp [execOp, hop, resolve, hA.evals ha, hA.eval hfe, Deferred.ofValue, invoke, hen]
  · have hok := (hw'.perm hp.perm).left.hok
    have hc := hs.calls w' hok
    have hc2 : CallsIn (fen X.ro) (0 - 1) X.P f (fi ++ vs ++ ca).toArray w' (fun e w2 => ∃ u H', e = .returned u ∧ (u = v ∧ ∃ G, H'.Perm (Hp ++ G)) ∧ HW Hp w' H' w2) := by
      cases hr : X.ro with
      | none => exact hc
      | some l => exact CallsIn.inRound l hc
    refine hc2.mono ?_
    rintro e w'' ⟨u, H1, rfl, ⟨rfl, G, hG⟩, hw1⟩
    exact ⟨rfl, HW.belOf hok (hw1.perm hG).left⟩

theorem B_alloc {t : TypeId} {zs : List Value} (ho : o.op = .alloc t) (hz : Zv X.P t zs) : Births X o E H (fun b => .pointer (some ⟨b, 0, none⟩)) (cl zs t) := by
  intro a w ha hw
  obtain ⟨z, h1, h2⟩ := hz
  simp [execOp, ho, Instr.alloc, h2 w, newVar, newRow, h1, cl]
theorem B_box {t : TypeId} {x : Operand} {v : Value} {cs : List Value} (ho : o.op = .box t x) (hx : ev E x = some v) (hc : v.cells.toList = cs) : Births X o E H (fun b => .pointer (some ⟨b, 0, none⟩)) (cl cs t) := by
  intro a w ha hw
  simp [execOp, ho, Instr.box, newVar, newRow, ha.eval hx, cl, ← hc]
theorem B_make {t e : TypeId} {sz bytes n : Nat} {zs : List Value} {x y : Operand} {k : IntKind} (ho : o.op = .makeSlice t x y) (hs : SI X.P t e sz bytes zs) (hx : ev E x = some (.int k (n : Int))) (hy : ev E y = some (.int k (n : Int)))
    (hb : bytes * n ≤ 281474976710656) (hn : n ≤ 9223372036854775807) :
    Births X o E H (fun b => .slice (some ⟨b, 0, none⟩) n n) (cl (List.replicate n zs).flatten e) := by
  intro a w ha hw
  obtain ⟨h1, i, z, h2, h3, h4, h5, h6, h7, h8⟩ := hs
  have hb' : (i.bytes : Int) * (n : Int) ≤ 281474976710656 := by
    rw [h5, ← Int.natCast_mul]; omega
  have hr := run_make (P := X.P) w t e i z h1 h2 h3 k k n n (by omega) (by omega) hb' (by omega)
  simp only [Int.toNat_natCast] at hr
  rw [h4, h6, ← h7, made_eq zs n (by omega)] at hr
  simp only [execOp, ho, ha.eval hx, ha.eval hy, Sem.run_bind, hr, Result.andThen_ok, Sem.run_pure]; rfl
theorem B_buildSlice {t e : TypeId} {sz bytes n : Nat} {zs cs : List Value} {parts : List (Nat × Operand)} {vs : List (Nat × Value)} (ho : o.op = .buildSlice t n parts.toArray) (hs : SI X.P t e sz bytes zs)
    (hv : evParts E parts = some vs) (hf : fillS sz (List.replicate n zs).flatten vs = some cs) (hn : Nat.ble (n * sz) 16777216 = true) :
    Births X o E H (fun b => .slice (some ⟨b, 0, none⟩) n n) (cl cs e) := by
  intro a w ha hw
  obtain ⟨h1, i, z, h2, h3, h4, h5, h6, h7, h8⟩ := hs
  have hp := ha.parts hv
  have hpa : (parts.toArray.map fun (i, x) => (i, a.eval x)) = vs.toArray := by rw [← hp]; simp
  have hle : ¬ (n * sz > 16777216) := by simp only [Nat.ble_eq] at hn; omega
  have hfl := fillS_eq sz vs _ cs hf
  have hm := made_eq zs n (by omega)
  rw [h7] at hm
  by_cases h0 : n * sz = 0
  · have hn0 : n = 0 := by rcases Nat.mul_eq_zero.1 h0 with h | h <;> omega
    subst hn0
    simp only [List.replicate_zero, List.flatten_nil] at hfl
    simp [execOp, ho, Instr.buildSlice, run_underlying h1, sizeOf, typeInfo, h2, h4, hp, Array.range_zero', hfl, newRow, cl]
  · simp only [madeCells] at hm
    have hsz : (sizeOf e).run X.P w = .ok sz w := by simp [sizeOf, typeInfo, h2, h4]
    have hzv : (zeroValue e).run X.P w = .ok z w := by simp [zeroValue, typeInfo, h2, h3]
    have hb : (Instr.buildSlice t n vs.toArray).run X.P w = .ok (.slice (some ⟨w.heap.size, 0, none⟩) n n) (w.alloc (cl cs e)) := by
      simp only [Instr.buildSlice, Sem.run_bind, run_underlying h1, Result.andThen_ok, hsz, if_neg hle, if_neg h0, hzv, Sem.run_pure, h6, hm, hfl]
      simp [newRow, cl]
    simp only [execOp, ho, hpa, Sem.run_bind, hb, Result.andThen_ok, Sem.run_pure]
end

/-- The same two, told what the region turns: all else stays. -/
theorem pulls_rest {xs H Hq : Heap} (h : Pulls xs H Hq) : ∀ {X : Ctx} {w : World}, HW X.H0 X.w0 H w → HW X.H0 X.w0 Hq w := fun hw =>
  HW.left (hw.perm (h.perm.trans List.perm_append_comm))
theorem WC_drawR {X : Ctx} {p : Post} {E : Env} {H Hq : Heap} {id : Nat} {l : List Oper} (xs : Heap) (ord : List (Nat × Bool)) (hm : X.P.follows .mixedOrders = true) (hsd : noSD l.toArray = true) (hlen : ord.length = l.length)
    (hB : orderB l.toArray ord (Array.replicate l.length false) = true) (hq : Pulls xs H Hq) (h : WM X l.toArray p Hq ord E H) : WC X (.region id l.toArray true) p E H := by
  intro a w ha hw
  refine wpIn_region_any hm ?_
  have hb : Bel w { w with drawn := w.drawn + 1 } := Bel.drew' w
  have hw1 := hw.bel hb
  have h1 := MW.any (X := X) (p := p) (C := fun w => HW X.H0 X.w0 Hq w) (fun _ _ h b => h.bel b) hsd ord _ a _ hB (pulls_rest hq hw1) (h a _ ha hw1)
  rw [hlen] at h1
  have := AnyC.sound _ _ _ _ h1
  simpa using this
theorem WC_drawBR {X : Ctx} {p : Post} {E : Env} {H Hq : Heap} {id : Nat} {l : List Oper} (xs : Heap) (ord : List (Nat × Tag)) (hm : X.P.follows .mixedOrders = true) (hsd : noSD l.toArray = true) (hlen : ord.length = l.length)
    (hB : orderW l.toArray ord (Array.replicate l.length false) = true) (hq : Pulls xs H Hq) (h : WB X l.toArray p Hq ord E H) : WC X (.region id l.toArray true) p E H := by
  intro a w ha hw
  refine wpIn_region_any hm ?_
  have hb : Bel w { w with drawn := w.drawn + 1 } := Bel.drew' w
  have hw1 := hw.bel hb
  have h1 := BW.any (X := X) (p := p) (C := fun w => HW X.H0 X.w0 Hq w) (fun _ h => h.size) (fun _ _ h b => h.bel b) hsd ord _ hB ord.length [] a _ (fun k => k ∈ keys H) (by simp)
    ⟨fun e h => (by cases h), List.nodup_nil, fun e h => (by cases h), fun e h => (by cases h), fun e h => (by cases h), pulls_rest hq hw1, fun k hk => hw1.hok.lt hk⟩
    (fun w' hb' => h a _ _ (fun _ => Iff.rfl) ha (hw1.bel hb'))
  rw [hlen] at h1
  have := AnyC.sound _ _ _ _ h1
  simpa [marks, puts] using this
end Go.Proofs.Ytiokpmgbabpikaa
