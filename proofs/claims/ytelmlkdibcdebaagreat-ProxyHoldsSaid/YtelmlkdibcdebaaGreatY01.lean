/-
 Chapter 49 (proxy), part CmpL: contracts of functions that the laws call, each for the heap it names.
-/
import Derived.Test.YtelmlkdibcdebaaGreatY00
import Derived.MapKept
import GoSem.Extern.MapsClone
import Derived.Laws.IdiomRangeMap
import Derived.Laws.Strings
import Derived.Laws.StructEq
import Derived.ArgAppend
import Derived.Test.YtelmlkdibcdebaaGreatRows
set_option linter.unusedVariables false
set_option maxRecDepth 20000
section
set_option linter.unusedSectionVars false
namespace Go.Proofs.YtelmlkdibcdebaaGreat
open Go.RowKit (Below)
section
variable {X : Ctx} {ops : Array Oper} {p : Post} [NoPan p] {C : World → Prop}
theorem wpOpIn_late {j : Nat} {oi oj : Oper} {v : Value} {K : Act → World → Prop} {a : Act} {w : World} (hj : ops[j]? = some oj) (hap : oi.apart ops oj = true)
    (hsj : ∀ cs b, oj.op ≠ .select cs b) (hdj : ∀ c, oj.op ≠ .defer c) (h : wpOpIn (fen X.ro) 0 X.P ops p.toQ j K a w) :
    wpOpIn (fen X.ro) 0 X.P ops p.toQ j (fun a'' w' => ∃ a', a'' = a'.put oi.dst v ∧ K a' w') (a.put oi.dst v) w := by
  obtain ⟨h1, h2, h3⟩ := Oper.apart_spec hap
  unfold wpOpIn at *
  simp only [hj] at *
  rw [wanted_put oj a oi.dst v h1]
  split
  · rename_i hw
    simp only [hw, if_true] at h
    unfold Oper.wpIn at *
    refine ⟨about_true, ?_⟩
    have h := h.2
    rw [semAt_of hdj] at h
    rw [semAt_of hdj, execOp_put oj hsj a oi.dst v h1]
    generalize (execOp a.eval oj).run X.P w = r at *
    cases r with
    | ok x w' =>
      cases x <;> simp only [Oper.uponIn] at h ⊢
      case value u => exact ⟨_, Act.put_comm a v u h2, h⟩
      case skip => exact ⟨_, Act.put_comm a v undef h2, h⟩
      case defer d => exact ⟨_, by rw [Act.put_defers, Act.put_comm _ v undef h2], h⟩
      case enter f args =>
        refine ⟨h.1, CallsIn.mono h.2 fun e w'' he => ?_⟩
        cases e with
        | returned u => exact ⟨_, Act.put_comm a v u h2, he⟩
        | panicked c => exact (NoPan.pan _ _ _ he).elim
        | outgrown => exact he
      case row row args => exact ⟨h.1, RowsIn.mono h.2 fun u w'' he => ⟨_, Act.put_comm a v u h2, he⟩⟩
      case round l f tmps assign body =>
        refine ⟨h.1, RoundIn.mono h.2 fun e w'' he => ?_⟩
        cases e with
        | returned u => exact ⟨_, Act.put_comm a v u h2, he⟩
        | panicked c => exact (NoPan.pan _ _ _ he).elim
        | outgrown => exact he
    | halt x w' =>
      cases x <;> simp only [Oper.uponIn] at h ⊢
      case panic u => exact (NoPan.pan _ _ _ h).elim
  · rename_i hw
    simp only [hw] at h
    exact ⟨about_true, _, Act.put_comm a v undef h2, h.2⟩
theorem wpOpIn_keep {Z : Act → Prop} {j : Nat} {oj : Oper} {K : Act → World → Prop} {a : Act} {w : World} (hj : ops[j]? = some oj) (hdj : ∀ c, oj.op ≠ .defer c)
    (hZ : ∀ a u, Z a → Z (a.put oj.dst u)) (hZd : ∀ (a : Act) d, Z a → Z { a with defers := d :: a.defers }) (hz : Z a) (h : wpOpIn (fen X.ro) 0 X.P ops p.toQ j K a w) :
    wpOpIn (fen X.ro) 0 X.P ops p.toQ j (fun a' w' => Z a' ∧ K a' w') a w := by
  unfold wpOpIn at *
  simp only [hj] at *
  split
  · rename_i hw
    simp only [hw, if_true] at h
    unfold Oper.wpIn at *
    refine ⟨about_true, ?_⟩
    have h := h.2
    rw [semAt_of hdj] at h
    rw [semAt_of hdj]
    generalize (execOp a.eval oj).run X.P w = r at *
    cases r with
    | ok x w' =>
      cases x <;> simp only [Oper.uponIn] at h ⊢
      case value u => exact ⟨hZ _ _ hz, h⟩
      case skip => exact ⟨hZ _ _ hz, h⟩
      case defer d => exact ⟨hZ _ _ (hZd _ _ hz), h⟩
      case enter f args =>
        refine ⟨h.1, CallsIn.mono h.2 fun e w'' he => ?_⟩
        cases e with
        | returned u => exact ⟨hZ _ _ hz, he⟩
        | panicked c => exact (NoPan.pan _ _ _ he).elim
        | outgrown => exact he
      case row row args => exact ⟨h.1, RowsIn.mono h.2 fun u w'' he => ⟨hZ _ _ hz, he⟩⟩
      case round l f tmps assign body =>
        refine ⟨h.1, RoundIn.mono h.2 fun e w'' he => ?_⟩
        cases e with
        | returned u => exact ⟨hZ _ _ hz, he⟩
        | panicked c => exact (NoPan.pan _ _ _ he).elim
        | outgrown => exact he
    | halt x w' =>
      cases x <;> simp only [Oper.uponIn] at h ⊢
      case panic u => exact (NoPan.pan _ _ _ h).elim
  · rename_i hw
    simp only [hw] at h
    exact ⟨about_true, hZ _ _ hz, h.2⟩
end
theorem pigeon : ∀ (ks m : List Nat), ks.Nodup → (∀ k ∈ ks, k ∈ m) → ks.length ≤ m.length
  | [], _, _, _ => Nat.zero_le _
  | k :: ks, m, hn, h => by
    have hk : k ∈ m := h k (List.mem_cons_self ..)
    obtain ⟨hk1, hn1⟩ := List.nodup_cons.1 hn
    have := pigeon ks (m.erase k) hn1 (fun x hx => (List.mem_erase_of_ne (by intro e; subst e; exact hk1 hx)).2 (h x (List.mem_cons_of_mem _ hx)))
    rw [List.length_erase_of_mem hk] at this
    have hp : 0 < m.length := List.length_pos_of_mem hk
    simp only [List.length_cons]
    omega
inductive Tag where
  | q
  | n (B : List Nat)
  | b (B : List Nat)
def Tag.isB : Tag → Bool
  | .b _ => true
  | _ => false
structure Born (X : Ctx) (ops : Array Oper) (C : World → Prop) (o : Oper) (a : Act) (V : Nat → Value) (O : Obj) : Prop where
  want : Region.wanted o (yielded ops a.tmps) = true
  run : ∀ w, C w → (execOp a.eval o).run X.P w = .ok (.value (V w.heap.size)) (w.alloc O)
def Borns (X : Ctx) (ops : Array Oper) (C : World → Prop) (B : List Nat) (a : Act) : Prop := ∀ k ∈ B, ∃ o V O, ops[k]? = some o ∧ Born X ops C o a V O
def BW (X : Ctx) (ops : Array Oper) (p : Post) (C : World → Prop) : List (Nat × Tag) → (Nat → Prop) → Act → World → Prop
  | [], _, a, w => p.nrm a w
  | (i, .q) :: r, S, a, w => ∃ o v, ops[i]? = some o ∧ YieldsC X ops C o v a ∧ ∀ w', Bel w w' → BW X ops p C r S (a.put o.dst v) w'
  | (i, .n B) :: r, S, a, w => Borns X ops C B a ∧ wpOpIn (fen X.ro) 0 X.P ops p.toQ i (fun a' w' => C w' ∧ w.heap.size ≤ w'.heap.size ∧ ∃ S' : Nat → Prop, (∀ k, S' k → (S k ∨ w.heap.size ≤ k) ∧ k < w'.heap.size) ∧ (∀ k, k < w.heap.size → ¬ S k → w'.heap[k]? = w.heap[k]?) ∧ ∀ w'', Bel w' w'' → BW X ops p C r S' a' w'') a w
  | (i, .b B) :: r, S, a, w => Borns X ops C B a ∧ ∃ o V O, ops[i]? = some o ∧ Born X ops C o a V O ∧ ∀ b w', Bel w w' → X.w0.heap.size ≤ b → w'.heap[b]? = some O → ¬ S b → BW X ops p C r (fun k => S k ∨ k = b) (a.put o.dst (V b)) w'
def apartK (ops : Array Oper) (i k : Nat) : Bool := match ops[i]?, ops[k]? with | some x, some y => x.apart ops y | _, _ => false
def okStep (ops : Array Oper) (i : Nat) (B : List Nat) (r : List (Nat × Tag)) (listed : Array Bool) : Bool :=
  (Region.ready .any ops listed).contains i && (Region.ready .any ops listed).all (fun k => k == i || B.contains k) && !B.contains i &&
  (Region.ready .any ops (B.foldr (fun k l => l.setIfInBounds k true) listed)).all (fun k => k == i) &&
  B.all (fun k => (Region.ready .any ops listed).contains k && apartK ops i k && apartK ops k i && r.any (fun t => t.1 == k && t.2.isB) && B.all (fun k' => k' == k || apartK ops k k'))
def orderW (ops : Array Oper) : List (Nat × Tag) → Array Bool → Bool
  | [], listed => (Region.ready .any ops listed).isEmpty
  | (i, tg) :: r, listed => (match tg with
      | .q => (Region.ready .any ops listed).contains i && Region.free .any ops listed i
      | .n B => okStep ops i B r listed
      | .b B => okStep ops i B r listed) && !(r.any fun t => t.1 == i) && orderW ops r (listed.setIfInBounds i true)
structure Er where
  k : Nat
  o : Oper
  v : Value
  b : Nat
  O : Obj
  w : World
def puts (es : List Er) (a : Act) : Act := es.foldr (fun e a => a.put e.o.dst e.v) a
def marks (es : List Er) (l : Array Bool) : Array Bool := es.foldr (fun e l => l.setIfInBounds e.k true) l
section
variable {X : Ctx} {ops : Array Oper} {p : Post} [NoPan p] {C : World → Prop}
structure ErOk (X : Ctx) (ops : Array Oper) (C : World → Prop) (S : Nat → Prop) (listed : Array Bool) (a : Act) (w : World) (e : Er) : Prop where
  op : ops[e.k]? = some e.o
  cw : C e.w
  run : (execOp a.eval e.o).run X.P e.w = .ok (.value e.v) (e.w.alloc e.O)
  num : e.b = e.w.heap.size
  here : w.heap[e.b]? = some e.O
  out : ¬ S e.b
  rdy : e.k ∈ Region.ready .any ops listed
theorem alloc_inj {w : World} {O O' : Obj} (h : w.alloc O = w.alloc O') : O = O' := by
  have h1 : w.heap.push O = w.heap.push O' := congrArg World.heap h
  have h2 := congrArg Array.back? h1
  simpa using h2
theorem put_puts {o : Oper} {v : Value} : ∀ (es : List Er) (a : Act), (∀ e ∈ es, o.apart ops e.o = true) → (puts es a).put o.dst v = puts es (a.put o.dst v)
  | [], _, _ => rfl
  | e :: es, a, h => by
    obtain ⟨_, h2, _⟩ := Oper.apart_spec (h e (List.mem_cons_self ..))
    show ((puts es a).put e.o.dst e.v).put o.dst v = (puts es (a.put o.dst v)).put e.o.dst e.v
    rw [← put_puts es a (fun f hf => h f (List.mem_cons_of_mem _ hf)), Act.put_comm _ v e.v h2]
theorem exec_puts {o : Oper} (hs : ∀ cs b, o.op ≠ .select cs b) : ∀ (es : List Er) (a : Act), (∀ e ∈ es, e.o.apart ops o = true) → execOp (puts es a).eval o = execOp a.eval o
  | [], _, _ => rfl
  | e :: es, a, h => by
    obtain ⟨h1, _, _⟩ := Oper.apart_spec (h e (List.mem_cons_self ..))
    show execOp ((puts es a).put e.o.dst e.v).eval o = _
    rw [execOp_put o hs _ e.o.dst e.v h1]
    exact exec_puts hs es a (fun f hf => h f (List.mem_cons_of_mem _ hf))
theorem want_puts {o : Oper} : ∀ (es : List Er) (a : Act), (∀ e ∈ es, e.o.apart ops o = true) → Region.wanted o (yielded ops (puts es a).tmps) = Region.wanted o (yielded ops a.tmps)
  | [], _, _ => rfl
  | e :: es, a, h => by
    obtain ⟨h1, _, _⟩ := Oper.apart_spec (h e (List.mem_cons_self ..))
    show Region.wanted o (yielded ops ((puts es a).put e.o.dst e.v).tmps) = _
    rw [wanted_put o _ e.o.dst e.v h1]
    exact want_puts es a (fun f hf => h f (List.mem_cons_of_mem _ hf))
theorem wpOpIn_lates {j : Nat} {oj : Oper} {K : Act → World → Prop} {w : World} (hj : ops[j]? = some oj) (hsd : noSD ops = true) :
    ∀ (es : List Er) (a : Act), (∀ e ∈ es, e.o.apart ops oj = true) → wpOpIn (fen X.ro) 0 X.P ops p.toQ j K a w → wpOpIn (fen X.ro) 0 X.P ops p.toQ j (fun a'' w' => ∃ a', a'' = puts es a' ∧ K a' w') (puts es a) w
  | [], a, _, h => wpOpIn_mono (fun a' w' k => ⟨a', rfl, k⟩) h
  | e :: es, a, he, h => by
    have h1 := wpOpIn_lates hj hsd es a (fun f hf => he f (List.mem_cons_of_mem _ hf)) h
    have h2 := wpOpIn_late (v := e.v) hj (he e (List.mem_cons_self ..)) (noSD_sel hsd hj).1 (noSD_sel hsd hj).2 h1
    refine wpOpIn_mono ?_ h2
    rintro a'' w' ⟨a1, rfl, a2, rfl, k⟩
    exact ⟨a2, rfl, k⟩
theorem marks_getD {es : List Er} {l : Array Bool} {k : Nat} (d : Bool) (h : ∀ e ∈ es, e.k ≠ k) : (marks es l).getD k d = l.getD k d := by
  induction es with
  | nil => rfl
  | cons e es ih =>
    show ((marks es l).setIfInBounds e.k true).getD k d = _
    rw [getD_set_ne d (h e (List.mem_cons_self ..)), ih (fun f hf => h f (List.mem_cons_of_mem _ hf))]
theorem marks_set {es : List Er} {l : Array Bool} {i : Nat} (h : ∀ e ∈ es, e.k ≠ i) : (marks es l).setIfInBounds i true = marks es (l.setIfInBounds i true) := by
  induction es with
  | nil => rfl
  | cons e es ih =>
    show ((marks es l).setIfInBounds e.k true).setIfInBounds i true = (marks es (l.setIfInBounds i true)).setIfInBounds e.k true
    rw [← ih (fun f hf => h f (List.mem_cons_of_mem _ hf)), Array.setIfInBounds_comm _ _ (h e (List.mem_cons_self ..))]
theorem ready_back {es : List Er} {l : Array Bool} {i : Nat} {B : List Nat} (hB : ∀ e ∈ es, e.k ∈ B) (h2 : ∀ k ∈ Region.ready .any ops (B.foldr (fun k l => l.setIfInBounds k true) l), k = i) {k : Nat}
    (hk : k ∈ Region.ready .any ops (marks es l)) : k = i ∨ k ∈ B := by
  by_cases hkB : k ∈ B
  · exact .inr hkB
  left
  refine h2 k ?_
  have getB : ∀ (B : List Nat) (j : Nat) (d : Bool), j ∉ B → (B.foldr (fun k l => l.setIfInBounds k true) l).getD j d = l.getD j d := fun B => by
    induction B with
    | nil => intro j d _; rfl
    | cons b B ih =>
      intro j d hj
      simp only [List.foldr_cons]
      rw [getD_set_ne d (show b ≠ j from by rintro rfl; exact hj (List.mem_cons_self ..)), ih j d (fun h => hj (List.mem_cons_of_mem _ h))]
  have up : ∀ (B : List Nat) (j : Nat), l.getD j false = true → (B.foldr (fun k l => l.setIfInBounds k true) l).getD j false = true := fun B => by
    induction B with
    | nil => intro j h; exact h
    | cons b B ih => intro j h; exact getD_set_true (ih j h)
  have inB : ∀ (B : List Nat) (j : Nat), j ∈ B → j < l.size → (B.foldr (fun k l => l.setIfInBounds k true) l).getD j false = true := fun B => by
    induction B with
    | nil => intro j h; cases h
    | cons b B ih =>
      intro j h hl
      have hs : ∀ B : List Nat, (B.foldr (fun k l => l.setIfInBounds k true) l).size = l.size := fun B => by
        induction B with
        | nil => rfl
        | cons b B ih => simp only [List.foldr_cons, Array.size_setIfInBounds]; exact ih
      rcases List.mem_cons.1 h with rfl | h
      · simp [hs, hl]
      · exact getD_set_true (ih j h hl)
  rw [mem_ready] at hk ⊢
  obtain ⟨h0, o, ho, hall⟩ := hk
  have hne : ∀ e ∈ es, e.k ≠ k := fun e he e2 => hkB (e2 ▸ hB e he)
  rw [marks_getD true hne] at h0
  refine ⟨by rw [getB B k true hkB]; exact h0, o, ho, fun e he hb => ?_⟩
  have h3 := hall e he hb
  by_cases hj : e.on ∈ B
  · refine inB B _ hj ?_
    have hs : (marks es l).size = l.size := by
      clear hne h3 hall h0 hB
      induction es with
      | nil => rfl
      | cons f es ih => show ((marks es l).setIfInBounds f.k true).size = _; rw [Array.size_setIfInBounds]; exact ih
    rcases Nat.lt_or_ge e.on l.size with h | h
    · exact h
    · simp [Array.getElem?_eq_none (show (marks es l).size ≤ e.on by omega)] at h3
  · rw [marks_getD false (k := e.on) (fun f hf e2 => hj (by rw [← e2]; exact hB f hf))] at h3
    exact up B _ h3
theorem ready_marks {es : List Er} {l : Array Bool} {k : Nat} (hk : k ∈ Region.ready .any ops l) (h : ∀ e ∈ es, e.k ≠ k) : k ∈ Region.ready .any ops (marks es l) := by
  induction es with
  | nil => exact hk
  | cons e es ih => exact ready_mono (ih (fun f hf => h f (List.mem_cons_of_mem _ hf))) (Ne.symm (h e (List.mem_cons_self ..)))
structure Inv (X : Ctx) (ops : Array Oper) (C : World → Prop) (l : List (Nat × Tag)) (S : Nat → Prop) (listed : Array Bool) (es : List Er) (a : Act) (w : World) : Prop where
  ok : ∀ e ∈ es, ErOk X ops C S listed a w e
  nd : (es.map Er.k).Nodup
  ap : ∀ e ∈ es, ∀ f ∈ es, e.k ≠ f.k → e.o.apart ops f.o = true
  tg : ∀ e ∈ es, ∃ B, (e.k, Tag.b B) ∈ l
  bs : ∀ e ∈ es, ∀ f ∈ es, e.k ≠ f.k → e.b ≠ f.b
  cw : C w
  lt : ∀ k, S k → k < w.heap.size
theorem born_born {o : Oper} {a : Act} {V : Nat → Value} {O : Obj} {e : Er} (h : Born X ops C o a V O) (cw : C e.w) (hr : (execOp a.eval o).run X.P e.w = .ok (.value e.v) (e.w.alloc e.O)) (hb : e.b = e.w.heap.size) : e.v = V e.b ∧ e.O = O := by
  have := h.run e.w cw
  rw [hr] at this
  simp only [Result.ok.injEq, Next.value.injEq] at this
  rw [hb]
  exact ⟨this.1, alloc_inj this.2⟩
theorem apart_symm {x y : Oper} (h : x.apart ops y = true) : y.apart ops x = true := by
  obtain ⟨h1, h2, h3⟩ := Oper.apart_spec h
  unfold Oper.apart
  cases hx : x.dst with
  | none =>
    cases hy : y.dst with
    | none => rfl
    | some d => have := h3 d hy; simp [this]
  | some d =>
    have a1 := h1 d hx
    cases hy : y.dst with
    | none => simp [a1]
    | some d' =>
      have a3 := h3 d' hy
      have a2 := h2 d hx
      rw [hy] at a2
      have a2' : d ≠ d' := fun e => a2 (by rw [e])
      simp [a1, a3, a2']
theorem apartK_spec {i k : Nat} {x y : Oper} (h : apartK ops i k = true) (hx : ops[i]? = some x) (hy : ops[k]? = some y) : x.apart ops y = true := by
  simpa [apartK, hx, hy] using h
theorem marks_false {es : List Er} {l : Array Bool} {k : Nat} (h : (marks es l).getD k true = false) : l.getD k true = false := by
  induction es with
  | nil => exact h
  | cons e es ih =>
    apply ih
    by_cases e2 : e.k = k
    · subst e2
      have : ((marks es l).setIfInBounds e.k true).getD e.k true = false := h
      rcases Nat.lt_or_ge e.k (marks es l).size with hl | hl
      · simp [hl] at this
      · simp [Array.getElem?_eq_none (show ((marks es l).setIfInBounds e.k true).size ≤ e.k by simpa using hl)] at this
    · have : ((marks es l).setIfInBounds e.k true).getD k true = false := h
      rwa [getD_set_ne true e2] at this
theorem marks_mem {es : List Er} {l : Array Bool} {e : Er} (he : e ∈ es) : (marks es l).getD e.k true = true := by
  induction es with
  | nil => cases he
  | cons f es ih =>
    show ((marks es l).setIfInBounds f.k true).getD e.k true = true
    by_cases e2 : f.k = e.k
    · rw [e2]
      rcases Nat.lt_or_ge e.k (marks es l).size with hl | hl
      · simp [hl]
      · simp [Array.getElem?_eq_none (show ((marks es l).setIfInBounds e.k true).size ≤ e.k by simpa using hl)]
    · rw [getD_set_ne true e2]
      rcases List.mem_cons.1 he with rfl | h
      · exact absurd rfl e2
      · exact ih h
structure Step (ops : Array Oper) (i : Nat) (B : List Nat) (r : List (Nat × Tag)) (listed : Array Bool) : Prop where
  rdy : i ∈ Region.ready .any ops listed
  all : ∀ k ∈ Region.ready .any ops listed, k = i ∨ k ∈ B
  out : i ∉ B
  nxt : ∀ k ∈ Region.ready .any ops (B.foldr (fun k l => l.setIfInBounds k true) listed), k = i
  brd : ∀ k ∈ B, k ∈ Region.ready .any ops listed
  ap : ∀ k ∈ B, apartK ops i k = true
  tg : ∀ k ∈ B, ∃ B', (k, Tag.b B') ∈ r
  apb : ∀ k ∈ B, ∀ k' ∈ B, k' = k ∨ apartK ops k k' = true
theorem okStep_spec {i : Nat} {B : List Nat} {r : List (Nat × Tag)} {listed : Array Bool} (h : okStep ops i B r listed = true) : Step ops i B r listed := by
  simp only [okStep, Bool.and_eq_true, List.contains_iff_mem, List.all_eq_true, Bool.or_eq_true, beq_iff_eq, Bool.not_eq_true'] at h
  obtain ⟨⟨⟨⟨h1, h2⟩, h3⟩, h4⟩, h5⟩ := h
  refine ⟨h1, h2, fun hm => ?_, h4, fun k hk => (h5 k hk).1.1.1.1, fun k hk => (h5 k hk).1.1.1.2, fun k hk => ?_, fun k hk => (h5 k hk).2⟩
  · have : B.contains i = true := by simpa using hm
    rw [this] at h3; cases h3
  · have := (h5 k hk).1.2
    simp only [List.any_eq_true, Bool.and_eq_true, beq_iff_eq] at this
    obtain ⟨⟨k', tg⟩, hm, rfl, ht⟩ := this
    cases tg with
    | b B' => exact ⟨B', hm⟩
    | q => cases ht
    | n _ => cases ht
theorem AnyC.early {l : List (Nat × Tag)} {S : Nat → Prop} {listed : Array Bool} {es : List Er} {a : Act} {w : World} {m k i : Nat} {B : List Nat} {r : List (Nat × Tag)} (hCb : ∀ w w', C w → Bel w w' → C w') (hsd : noSD ops = true)
    (hI : Inv X ops C l S listed es a w) (hs : Step ops i B r listed) (hsub : ∀ x ∈ r, x ∈ l) (hB : Borns X ops C B a) (hkB : k ∈ B) (hk : k ∈ Region.ready .any ops (marks es listed)) (hes : ∀ e ∈ es, e.k = i ∨ e.k ∈ B)
    (go : ∀ e w'', Bel w w'' → Inv X ops C l S listed (e :: es) a w'' → AnyC X ops p C m (marks (e :: es) listed) (puts (e :: es) a) w'') :
    wpOpIn (fen X.ro) 0 X.P ops p.toQ k (fun a' w' => C w' ∧ ∀ w'', Bel w' w'' → AnyC X ops p C m ((marks es listed).setIfInBounds k true) a' w'') (puts es a) w := by
  obtain ⟨o, V, O, ho, hb⟩ := hB k hkB
  have hnk : ∀ e ∈ es, e.k ≠ k := fun e he e2 => by
    have h1 := (mem_ready.1 hk).1
    rw [← e2, marks_mem he] at h1; cases h1
  have hap : ∀ e ∈ es, e.o.apart ops o = true ∧ o.apart ops e.o = true := fun e he => by
    have hop := (hI.ok e he).op
    rcases hes e he with h | h
    · have := apartK_spec (hs.ap k hkB) (h ▸ hop) ho
      exact ⟨this, apart_symm this⟩
    · rcases hs.apb k hkB e.k h with h2 | h2
      · exact absurd h2 (hnk e he)
      · have := apartK_spec h2 ho hop
        exact ⟨apart_symm this, this⟩
  have hrun : (execOp (puts es a).eval o).run X.P w = .ok (.value (V w.heap.size)) (w.alloc O) := by
    rw [exec_puts (noSD_sel hsd ho).1 es a (fun e he => (hap e he).1)]
    exact hb.run w hI.cw
  have hbel : Bel w (w.alloc O) := Bel.alloc' w O
  have hnew : (w.alloc O).heap[w.heap.size]? = some O := by show (w.heap.push O)[w.heap.size]? = some O; simp
  have hsz : (w.alloc O).heap.size = w.heap.size + 1 := by show (w.heap.push O).size = _; simp
  unfold wpOpIn
  simp only [ho, want_puts es a (fun e he => (hap e he).1), hb.want, if_true]
  refine ⟨about_true, ?_⟩
  rw [semAt_of (noSD_sel hsd ho).2, hrun]
  refine ⟨hCb _ _ hI.cw hbel, fun w'' hb'' => ?_⟩
  refine go ⟨k, o, V w.heap.size, w.heap.size, O, w⟩ w'' (hbel.trans' hb'') ?_
  have hlt : ∀ e ∈ es, e.b < w.heap.size := fun e he => by
    have := (hI.ok e he).here
    exact (Array.getElem?_eq_some_iff.1 this).1
  refine ⟨fun e he => ?_, ?_, fun e he f hf => ?_, fun e he => ?_, fun e he f hf => ?_, hCb _ _ hI.cw (hbel.trans' hb''), fun x hx => Nat.lt_of_lt_of_le (hI.lt x hx) (hbel.trans' hb'').size⟩
  · rcases List.mem_cons.1 he with rfl | he
    · refine ⟨ho, hI.cw, hb.run w hI.cw, rfl, ?_, fun h => Nat.lt_irrefl _ (hI.lt _ h), hs.brd k hkB⟩
      show w''.heap[w.heap.size]? = some O
      rw [hb''.block _ (by rw [hsz]; omega)]
      exact hnew
    · have h := hI.ok e he
      exact ⟨h.op, h.cw, h.run, h.num, by rw [(hbel.trans' hb'').block _ (hlt e he)]; exact h.here, h.out, h.rdy⟩
  · rw [List.map_cons, List.nodup_cons]
    refine ⟨fun hm => ?_, hI.nd⟩
    obtain ⟨e, he, h⟩ := List.mem_map.1 hm
    exact hnk e he h
  · intro hne
    rcases List.mem_cons.1 he with rfl | he <;> rcases List.mem_cons.1 hf with rfl | hf
    · exact absurd rfl hne
    · exact (hap f hf).2
    · exact (hap e he).1
    · exact hI.ap e he f hf hne
  · rcases List.mem_cons.1 he with rfl | he
    · obtain ⟨B', h⟩ := hs.tg k hkB
      exact ⟨B', hsub _ h⟩
    · exact hI.tg e he
  · intro hne
    rcases List.mem_cons.1 he with rfl | he <;> rcases List.mem_cons.1 hf with rfl | hf
    · exact absurd rfl hne
    · exact (Nat.ne_of_lt (hlt f hf)).symm
    · exact Nat.ne_of_lt (hlt e he)
    · exact hI.bs e he f hf hne
theorem Inv.len {r : List (Nat × Tag)} {i : Nat} {tg : Tag} {S : Nat → Prop} {listed : Array Bool} {es : List Er} {a : Act} {w : World} (h : Inv X ops C ((i, tg) :: r) S listed es a w) (hne : ∀ e ∈ es, e.k ≠ i) : es.length ≤ r.length := by
  have := pigeon (es.map Er.k) (r.map (·.1)) h.nd (fun k hk => by
    obtain ⟨e, he, rfl⟩ := List.mem_map.1 hk
    obtain ⟨B, hb⟩ := h.tg e he
    rcases List.mem_cons.1 hb with e1 | hb
    · exact absurd (congrArg Prod.fst e1) (hne e he)
    · exact List.mem_map.2 ⟨_, hb, rfl⟩)
  simpa using this
theorem Inv.up {r : List (Nat × Tag)} {i : Nat} {tg : Tag} {S S' : Nat → Prop} {listed : Array Bool} {es : List Er} {a a' : Act} {w w' : World} (h : Inv X ops C ((i, tg) :: r) S listed es a w) (hne : ∀ e ∈ es, e.k ≠ i)
    (cw : C w') (hrun : ∀ e ∈ es, (execOp a'.eval e.o).run X.P e.w = (execOp a.eval e.o).run X.P e.w) (hh : ∀ e ∈ es, w'.heap[e.b]? = w.heap[e.b]?) (hout : ∀ e ∈ es, ¬ S' e.b) (hlt : ∀ k, S' k → k < w'.heap.size) :
    Inv X ops C r S' (listed.setIfInBounds i true) es a' w' := by
  refine ⟨fun e he => ?_, h.nd, h.ap, fun e he => ?_, h.bs, cw, hlt⟩
  · have k := h.ok e he
    exact ⟨k.op, k.cw, by rw [hrun e he]; exact k.run, k.num, by rw [hh e he]; exact k.here, hout e he, ready_mono k.rdy (hne e he)⟩
  · obtain ⟨B, hb⟩ := h.tg e he
    rcases List.mem_cons.1 hb with e1 | hb
    · exact absurd (congrArg Prod.fst e1) (hne e he)
    · exact ⟨B, hb⟩
theorem Inv.early_lt {l : List (Nat × Tag)} {S : Nat → Prop} {listed : Array Bool} {es : List Er} {a : Act} {w : World} (h : Inv X ops C l S listed es a w) : ∀ e ∈ es, e.b < w.heap.size := fun e he =>
  (Array.getElem?_eq_some_iff.1 (h.ok e he).here).1
theorem BW.turn {i : Nat} {B : List Nat} {r : List (Nat × Tag)} {listed : Array Bool} {S : Nat → Prop} {a : Act} (hC0 : ∀ w, C w → X.w0.heap.size ≤ w.heap.size) (hsd : noSD ops = true)
    (IH : ∀ (n : Nat) (es : List Er) (a : Act) (w : World) (S : Nat → Prop), r.length ≤ n + es.length → Inv X ops C r S (listed.setIfInBounds i true) es a w → (∀ w', Bel w w' → BW X ops p C r S a w') → AnyC X ops p C n (marks es (listed.setIfInBounds i true)) (puts es a) w)
    (n : Nat) (es : List Er) (w : World) (hn : ((i, Tag.b B) :: r).length ≤ n + es.length) (hI : Inv X ops C ((i, Tag.b B) :: r) S listed es a w) (hB : ∀ w', Bel w w' → BW X ops p C ((i, Tag.b B) :: r) S a w')
    (hex : ∃ e ∈ es, e.k = i) : AnyC X ops p C n (marks es listed) (puts es a) w := by
  obtain ⟨e, he, hei⟩ := hex
  obtain ⟨s, t, rfl⟩ := List.append_of_mem he
  have hnd := hI.nd
  simp only [List.map_append, List.map_cons] at hnd
  have hdis : ∀ f ∈ s ++ t, f.k ≠ e.k := fun f hf hk => by
    have h1 := List.nodup_append.1 hnd
    rcases List.mem_append.1 hf with hf | hf
    · exact h1.2.2 _ (List.mem_map.2 ⟨f, hf, rfl⟩) _ (List.mem_cons_self ..) hk
    · exact (List.nodup_cons.1 h1.2.1).1 (List.mem_map.2 ⟨f, hf, hk⟩)
  have hsub : ∀ f ∈ s ++ t, f ∈ s ++ e :: t := fun f hf => by
    rcases List.mem_append.1 hf with h | h
    · exact List.mem_append_left _ h
    · exact List.mem_append_right _ (List.mem_cons_of_mem _ h)
  have hap : ∀ f ∈ s ++ t, e.o.apart ops f.o = true := fun f hf => hI.ap e he f (hsub f hf) (Ne.symm (hdis f hf))
  have hne : ∀ f ∈ s ++ t, f.k ≠ i := fun f hf => by rw [← hei]; exact hdis f hf
  have hp : puts (s ++ e :: t) a = puts (s ++ t) (a.put e.o.dst e.v) := by
    unfold puts
    rw [List.foldr_append, List.foldr_append, List.foldr_cons]
    congr 1
    exact put_puts t a (fun f hf => hap f (List.mem_append_right _ hf))
  have hm : marks (s ++ e :: t) listed = marks (s ++ t) (listed.setIfInBounds i true) := by
    unfold marks
    rw [List.foldr_append, List.foldr_append, List.foldr_cons, hei]
    congr 1
    exact marks_set (fun f hf => hne f (List.mem_append_right _ hf))
  rw [hp, hm]
  have hke := hI.ok e he
  refine IH n (s ++ t) (a.put e.o.dst e.v) w (fun k => S k ∨ k = e.b) (by simp only [List.length_append, List.length_cons] at hn ⊢; omega) ?_ fun w' hb => ?_
  · refine ⟨fun f hf => ?_, ?_, fun f hf g hg => hI.ap f (hsub f hf) g (hsub g hg), fun f hf => ?_, fun f hf g hg => hI.bs f (hsub f hf) g (hsub g hg), hI.cw, fun k hk => ?_⟩
    · have h := hI.ok f (hsub f hf)
      refine ⟨h.op, h.cw, ?_, h.num, h.here, fun hS => ?_, ready_mono h.rdy (hne f hf)⟩
      · rw [execOp_put f.o (noSD_sel hsd h.op).1 a e.o.dst e.v (Oper.apart_spec (hap f hf)).1]; exact h.run
      · rcases hS with h1 | h1
        · exact h.out h1
        · exact hI.bs f (hsub f hf) e he (hdis f hf) h1
    · rw [List.map_append]
      have h1 := List.nodup_append.1 hnd
      refine List.nodup_append.2 ⟨h1.1, (List.nodup_cons.1 h1.2.1).2, fun x hx y hy => h1.2.2 x hx y (List.mem_cons_of_mem _ hy)⟩
    · obtain ⟨B', hb⟩ := hI.tg f (hsub f hf)
      rcases List.mem_cons.1 hb with e1 | hb
      · exact absurd (congrArg Prod.fst e1) (hne f hf)
      · exact ⟨B', hb⟩
    · rcases hk with hk | rfl
      · exact hI.lt k hk
      · exact hI.early_lt e he
  · obtain ⟨_, o, V, O, ho, hbn, hgo⟩ := hB w' hb
    have heo : e.o = o := by
      have := hke.op
      rw [hei, ho] at this
      exact (Option.some.inj this).symm
    subst heo
    obtain ⟨h1, h2⟩ := born_born hbn hke.cw hke.run hke.num
    have := hgo e.b w' (Bel.refl _) (by rw [hke.num]; exact hC0 _ hke.cw) (by rw [hb.block _ (hI.early_lt e he), ← h2]; exact hke.here) hke.out
    rw [h1]; exact this
theorem BW.any (hC0 : ∀ w, C w → X.w0.heap.size ≤ w.heap.size) (hCb : ∀ w w', C w → Bel w w' → C w') (hsd : noSD ops = true) : ∀ (l : List (Nat × Tag)) (listed : Array Bool), orderW ops l listed = true → ∀ (n : Nat) (es : List Er) (a : Act) (w : World) (S : Nat → Prop),
    l.length ≤ n + es.length → Inv X ops C l S listed es a w → (∀ w', Bel w w' → BW X ops p C l S a w') → AnyC X ops p C n (marks es listed) (puts es a) w
  | [], listed, hO, n, es, a, w, S, hn, hI, hB => by
    have : es = [] := by
      cases es with
      | nil => rfl
      | cons e es => obtain ⟨_, h⟩ := hI.tg e (List.mem_cons_self ..); cases h
    subst this
    have hr : Region.ready .any ops listed = [] := by simpa [orderW] using hO
    have hp : p.nrm a w := hB w (Bel.refl _)
    cases n with
    | zero => exact ⟨hr, hp⟩
    | succ n => exact ⟨fun _ => hp, fun i hi => by rw [show marks [] listed = listed from rfl, hr] at hi; cases hi⟩
  | (i, tg) :: r, listed, hO, n, es, a, w, S, hn, hI, hB => by
    simp only [orderW, Bool.and_eq_true, Bool.not_eq_true'] at hO
    obtain ⟨⟨hT, hir⟩, hR⟩ := hO
    have hir' : ∀ tg', (i, tg') ∉ r := fun tg' h => by
      have : (r.any fun t => t.1 == i) = true := List.any_eq_true.2 ⟨_, h, by simp⟩
      rw [this] at hir; cases hir
    have IH := BW.any hC0 hCb hsd r (listed.setIfInBounds i true) hR
    have hnb : ∀ e ∈ es, e.k = i → ∃ B, tg = .b B := fun e he hk => by
      obtain ⟨B, hb⟩ := hI.tg e he
      rcases List.mem_cons.1 hb with e1 | hb
      · exact ⟨B, (congrArg Prod.snd e1).symm⟩
      · rw [hk] at hb; exact absurd hb (hir' _)
    cases tg with
    | q =>
      have hne : ∀ e ∈ es, e.k ≠ i := fun e he hk => by obtain ⟨B, h⟩ := hnb e he hk; cases h
      have hl := hI.len hne
      simp only [Bool.and_eq_true, List.contains_iff_mem] at hT
      obtain ⟨hrd, hfr⟩ := hT
      obtain ⟨o, v, ho, hy, hk⟩ := hB w (Bel.refl _)
      cases n with
      | zero => simp only [List.length_cons] at hn; omega
      | succ m =>
        have hiun := (mem_ready.1 hrd).1
        have hap : ∀ e ∈ es, o.apart ops e.o = true := fun e he => by
          have h := hI.ok e he
          obtain ⟨hun, oe, hoe, hall⟩ := mem_ready.1 h.rdy
          rw [h.op] at hoe; cases hoe
          refine Region.free_spec ho hfr e.k e.o h.op (hne e he) hun (fun ed hed hb he2 => ?_)
          have h1 := hall ed hed hb
          rw [he2] at h1
          rcases Nat.lt_or_ge i listed.size with h' | h'
          · simp [h'] at hiun h1; rw [hiun] at h1; cases h1
          · simp [Array.getElem?_eq_none h'] at h1
        refine AnyC.take (v := v) hCb ho hsd m (marks es listed) (puts es a) w (fun j oj hj hji hun hno => Region.free_spec ho hfr j oj hj hji (marks_false hun) hno) (ready_marks hrd hne) ?_ hI.cw fun w' hb => ?_
        · unfold YieldsC QRun at hy ⊢
          rw [want_puts es a (fun e he => apart_symm (hap e he)), exec_puts (noSD_sel hsd ho).1 es a (fun e he => apart_symm (hap e he))]
          exact hy
        · rw [marks_set hne, put_puts es a hap]
          refine IH m es (a.put o.dst v) w' S (by simp only [List.length_cons] at hn; omega) (hI.up hne (hCb _ _ hI.cw hb) (fun e he => ?_) (fun e he => hb.block _ (hI.early_lt e he)) (fun e he => (hI.ok e he).out) (fun k h => Nat.lt_of_lt_of_le (hI.lt k h) hb.size)) (fun w'' hb' => hk w'' (hb.trans' hb'))
          rw [execOp_put e.o (noSD_sel hsd (hI.ok e he).op).1 a o.dst v (Oper.apart_spec (hap e he)).1]
    | n B =>
      have hs := okStep_spec hT
      have hne : ∀ e ∈ es, e.k ≠ i := fun e he hk => by obtain ⟨B, h⟩ := hnb e he hk; cases h
      have heB : ∀ e ∈ es, e.k ∈ B := fun e he => (hs.all _ (hI.ok e he).rdy).resolve_left (hne e he)
      clear hnb
      induction n generalizing es w with
      | zero => have hl := hI.len hne; simp only [List.length_cons] at hn; omega
      | succ m ihm =>
        refine ⟨fun h => (by have := ready_marks hs.rdy hne; rw [h] at this; cases this), fun k hk => ?_⟩
        obtain ⟨hBs, hwp⟩ := hB w (Bel.refl _)
        rcases ready_back heB hs.nxt hk with rfl | hkB
        · obtain ⟨_, oi, hoi, _⟩ := mem_ready.1 hs.rdy
          have hap : ∀ e ∈ es, e.o.apart ops oi = true := fun e he => apart_symm (apartK_spec (hs.ap _ (heB e he)) hoi (hI.ok e he).op)
          have h1 := wpOpIn_keep (Z := fun a' => ∀ e ∈ es, (execOp a'.eval e.o).run X.P e.w = (execOp a.eval e.o).run X.P e.w) hoi (noSD_sel hsd hoi).2
            (fun a' u hz e he => by rw [execOp_put e.o (noSD_sel hsd (hI.ok e he).op).1 a' oi.dst u (Oper.apart_spec (apart_symm (hap e he))).1]; exact hz e he) (fun a' d hz e he => hz e he) (fun e he => rfl) hwp
          refine wpOpIn_mono ?_ (wpOpIn_lates hoi hsd es a hap h1)
          rintro a'' w' ⟨a', rfl, hz, hc, hsz, S', hS, hkp, hgo⟩
          refine ⟨hc, fun w'' hb => ?_⟩
          rw [marks_set hne]
          refine IH m es a' w'' S' (by simp only [List.length_cons] at hn; omega) (hI.up hne (hCb _ _ hc hb) hz (fun e he => ?_) (fun e he h => ?_) (fun k h => Nat.lt_of_lt_of_le (hS k h).2 hb.size)) (fun w3 hb' => hgo w3 (hb.trans' hb'))
          · have hl := hI.early_lt e he
            rw [hb.block _ (Nat.lt_of_lt_of_le hl hsz)]
            exact hkp _ hl (hI.ok e he).out
          · rcases (hS _ h).1 with h | h
            · exact (hI.ok e he).out h
            · exact Nat.lt_irrefl _ (Nat.lt_of_lt_of_le (hI.early_lt e he) h)
        · refine AnyC.early hCb hsd hI hs (fun x hx => List.mem_cons_of_mem _ hx) hBs hkB hk (fun e he => .inr (heB e he)) fun e w'' hb hI' => ?_
          have hne' : ∀ f ∈ e :: es, f.k ≠ i := fun f hf hk => by
            obtain ⟨B', hb⟩ := hI'.tg f hf
            rcases List.mem_cons.1 hb with e1 | hb
            · exact absurd (congrArg Prod.snd e1) (by intro h; cases h)
            · rw [hk] at hb; exact hir' _ hb
          exact ihm (e :: es) w'' (by simp only [List.length_cons] at hn ⊢; omega) hI' (fun w3 hb' => hB w3 (hb.trans' hb')) hne' (fun f hf => (hs.all _ (hI'.ok f hf).rdy).resolve_left (hne' f hf))
    | b B =>
      have hs := okStep_spec hT
      have heB : ∀ e ∈ es, e.k = i ∨ e.k ∈ B := fun e he => hs.all _ (hI.ok e he).rdy
      clear hnb
      induction n generalizing es w with
      | zero =>
        by_cases hex : ∃ e ∈ es, e.k = i
        · exact BW.turn hC0 hsd IH 0 es w hn hI hB hex
        · have hne : ∀ e ∈ es, e.k ≠ i := fun e he hk => hex ⟨e, he, hk⟩
          have hl := hI.len hne; simp only [List.length_cons] at hn; omega
      | succ m ihm =>
        by_cases hex : ∃ e ∈ es, e.k = i
        · exact BW.turn hC0 hsd IH (m + 1) es w hn hI hB hex
        have hne : ∀ e ∈ es, e.k ≠ i := fun e he hk => hex ⟨e, he, hk⟩
        have heB' : ∀ e ∈ es, e.k ∈ B := fun e he => (heB e he).resolve_left (hne e he)
        refine ⟨fun h => (by have := ready_marks hs.rdy hne; rw [h] at this; cases this), fun k hk => ?_⟩
        obtain ⟨hBs, o, V, O, ho, hb, hgo⟩ := hB w (Bel.refl _)
        rcases ready_back heB' hs.nxt hk with rfl | hkB
        · have hap : ∀ e ∈ es, o.apart ops e.o = true := fun e he => apartK_spec (hs.ap _ (heB' e he)) ho (hI.ok e he).op
          have hbel : Bel w (w.alloc O) := Bel.alloc' w O
          have hnew : (w.alloc O).heap[w.heap.size]? = some O := by show (w.heap.push O)[w.heap.size]? = some O; simp
          have hsz : (w.alloc O).heap.size = w.heap.size + 1 := by show (w.heap.push O).size = _; simp
          unfold wpOpIn
          simp only [ho, want_puts es a (fun e he => apart_symm (hap e he)), hb.want, if_true]
          refine ⟨about_true, ?_⟩
          rw [semAt_of (noSD_sel hsd ho).2, exec_puts (noSD_sel hsd ho).1 es a (fun e he => apart_symm (hap e he)), hb.run w hI.cw]
          refine ⟨hCb _ _ hI.cw hbel, fun w'' hb'' => ?_⟩
          show AnyC X ops p C m _ ((puts es a).put o.dst (V w.heap.size)) w''
          rw [marks_set hne, put_puts es a hap]
          have hbb := hbel.trans' hb''
          refine IH m es (a.put o.dst (V w.heap.size)) w'' (fun k => S k ∨ k = w.heap.size) (by simp only [List.length_cons] at hn; omega)
            (hI.up hne (hCb _ _ hI.cw hbb) (fun e he => by rw [execOp_put e.o (noSD_sel hsd (hI.ok e he).op).1 a o.dst _ (Oper.apart_spec (hap e he)).1]) (fun e he => hbb.block _ (hI.early_lt e he)) (fun e he h => ?_) (fun k h => ?_))
            (fun w3 hb3 => hgo w.heap.size w3 (hbb.trans' hb3) (hC0 _ hI.cw) ?_ (fun h => Nat.lt_irrefl _ (hI.lt _ h)))
          · rcases h with h | h
            · exact (hI.ok e he).out h
            · exact Nat.lt_irrefl _ (h ▸ hI.early_lt e he)
          · rcases h with h | rfl
            · exact Nat.lt_of_lt_of_le (hI.lt k h) hbb.size
            · exact Nat.lt_of_lt_of_le (by rw [hsz]; omega) hb''.size
          · rw [(hb''.trans' hb3).block _ (by rw [hsz]; omega)]
            exact hnew
        · refine AnyC.early hCb hsd hI hs (fun x hx => List.mem_cons_of_mem _ hx) hBs hkB hk heB fun e w'' hb hI' => ?_
          exact ihm (e :: es) w'' (by simp only [List.length_cons] at hn ⊢; omega) hI' (fun w3 hb' => hB w3 (hb.trans' hb')) (fun f hf => hs.all _ (hI'.ok f hf).rdy)
end
abbrev Ctx.at (X : Ctx) (H : Heap) (w : World) : Ctx := { X with H0 := H, w0 := w }
def Births (X : Ctx) (o : Oper) (E : Env) (H : Heap) (V : Nat → Value) (O : Obj) : Prop :=
  ∀ a w, AE X E a → HW X.H0 X.w0 H w → (execOp a.eval o).run X.P w = .ok (.value (V w.heap.size)) (w.alloc O)
def BornsE (X : Ctx) (ops : Array Oper) (Hq : Heap) (B : List Nat) (E : Env) : Prop :=
  ∀ k ∈ B, ∃ o V O, ops[k]? = some o ∧ wantedE ops E o = some true ∧ Births X o E Hq V O
def WB (X : Ctx) (ops : Array Oper) (p : Post) (Hq : Heap) (l : List (Nat × Tag)) (E : Env) (H : Heap) : Prop :=
  ∀ a w S, (∀ k, S k ↔ k ∈ keys H) → AE X E a → HW X.H0 X.w0 H w → BW X ops p (fun w => HW X.H0 X.w0 Hq w) l S a w
section
variable {X : Ctx} {ops : Array Oper} {p : Post} {Hq : Heap} {E : Env} {H F : Heap} {r : List (Nat × Tag)} {i : Nat} {o : Oper} {B : List Nat}
theorem BornsE.nil : BornsE X ops Hq [] E := fun _ h => by cases h
theorem BornsE.cons {k : Nat} {V : Nat → Value} {O : Obj} (ho : ops[k]? = some o) (hg : wantedE ops E o = some true) (h : Births X o E Hq V O) (t : BornsE X ops Hq B E) : BornsE X ops Hq (k :: B) E := fun j hj => by
  rcases List.mem_cons.1 hj with rfl | hj
  · exact ⟨o, V, O, ho, hg, h⟩
  · exact t j hj
theorem BornsE.borns {a : Act} (h : BornsE X ops Hq B E) (ha : AE X E a) : Borns X ops (fun w => HW X.H0 X.w0 Hq w) B a := fun k hk => by
  obtain ⟨o, V, O, ho, hg, hb⟩ := h k hk
  exact ⟨o, V, O, ho, wantedE_spec ha hg, fun w hw => hb a w ha hw⟩
theorem WC_drawB [NoPan p] {id : Nat} {l : List Oper} (Hq : Heap) (ord : List (Nat × Tag)) (hm : X.P.follows .mixedOrders = true) (hsd : noSD l.toArray = true) (hlen : ord.length = l.length)
    (hB : orderW l.toArray ord (Array.replicate l.length false) = true) (hq : Pulls Hq H F) (h : WB X l.toArray p Hq ord E H) : WC X (.region id l.toArray true) p E H := by
  intro a w ha hw
  refine wpIn_region_any hm ?_
  have hb : Bel w { w with drawn := w.drawn + 1 } := Bel.drew' w
  have hw1 := hw.bel hb
  have h1 := BW.any (X := X) (p := p) (C := fun w => HW X.H0 X.w0 Hq w) (fun _ h => h.size) (fun _ _ h b => h.bel b) hsd ord _ hB ord.length [] a _ (fun k => k ∈ keys H) (by simp)
    ⟨fun e h => (by cases h), List.nodup_nil, fun e h => (by cases h), fun e h => (by cases h), fun e h => (by cases h), (hw1.perm hq.perm).left, fun k hk => hw1.hok.lt hk⟩
    (fun w' hb' => h a _ _ (fun _ => Iff.rfl) ha (hw1.bel hb'))
  rw [hlen] at h1
  have := AnyC.sound _ _ _ _ h1
  simpa [marks, puts] using this
theorem WB_nil (h : WQ X p.nrm E H) : WB X ops p Hq [] E H := fun a w _ _ ha hw => h a w ha hw
theorem WB_val {d : Nat} {v : Value} (ho : ops[i]? = some o) (hg : wantedE ops E o = some true) (hd : o.dst = some d) (hN : Nat.blt d X.N = true) (h : Runs X o E Hq v)
    (k : WB X ops p Hq r ((d, v) :: E) H) : WB X ops p Hq ((i, .q) :: r) E H := fun a w S hS ha hw =>
  ⟨o, v, ho, .inl ⟨wantedE_spec ha hg, fun w' hw' => .inl (h.2 a w' ha hw')⟩, fun w' hb => k _ _ S hS (by rw [hd]; exact ha.put d v hN) (hw.bel hb)⟩
theorem WB_set {s : Nat} {v v' : Value} {l : List (Nat × Tag)} (h : gtE E s = some v') (he : v' = v) (k : WB X ops p Hq l ((s, v) :: E) H) : WB X ops p Hq l E H := by
  subst he
  intro a w S hS ha hw
  refine k a w S hS ⟨ha.size, ha.defers, fun t v ht => ?_⟩ hw
  rw [get_cons] at ht
  split at ht
  · rename_i e; subst e; cases ht; exact ha.env _ _ h
  · exact ha.env _ _ ht
theorem HW.self {H0 H H' : Heap} {w0 w w' : World} (hw : HW H0 w0 H w) (c : HW H w H' w') : HW H0 w0 H' w' := by
  have := hw.frame (Hp := H) (F := []) (by rw [List.append_nil]) c
  rwa [List.append_nil] at this
theorem WB_turn {a : Act} {w : World} {S : Nat → Prop} {R : Value → Heap → Prop} (hS : ∀ k, S k ↔ k ∈ keys H) (hbs : BornsE X ops Hq B E) (ho : ops[i]? = some o) (hg : wantedE ops E o = some true)
    (h : ∀ w, Does (X.at H w) o E H R) (ha : AE X E a) (hw : HW X.H0 X.w0 H w) (k : ∀ v H' w'', R v H' → HW X.H0 X.w0 H' w'' → (∃ F, Pulls Hq H' F) ∧ ∀ S', (∀ k, S' k ↔ k ∈ keys H') → BW X ops p (fun w => HW X.H0 X.w0 Hq w) r S' (a.put o.dst v) w'') :
    BW X ops p (fun w => HW X.H0 X.w0 Hq w) ((i, .n B) :: r) S a w := by
  refine ⟨hbs.borns ha, ?_⟩
  simp only [wpOpIn, ho, wantedE_spec ha hg, if_true]
  refine h w a w ⟨ha.size, ha.defers, ha.env⟩ (HW.start hw.hok) _ _ fun v H' w' hr (hw' : HW H w H' w') => ?_
  have hwX := hw.self hw'
  obtain ⟨⟨F, hq⟩, -⟩ := k v H' w' hr hwX
  refine ⟨(hwX.perm hq.perm).left, hw'.size, fun j => j ∈ keys H', fun j hj => ⟨?_, hw'.hok.lt hj⟩, fun j hj hn => hw'.kept j hj (fun h => hn ((hS j).2 h)), fun w'' hb => (k v H' w'' hr (hwX.bel hb)).2 _ fun _ => Iff.rfl⟩
  rcases hw'.own j hj with h | h
  · exact .inl ((hS j).2 h)
  · exact .inr h
theorem WB_do {d : Nat} {R : Value → Heap → Prop} (ho : ops[i]? = some o) (hg : wantedE ops E o = some true) (hd : o.dst = some d) (hN : Nat.blt d X.N = true) (hbs : BornsE X ops Hq B E) (h : ∀ w, Does (X.at H w) o E H R)
    (k : ∀ v H', R v H' → (∃ F, Pulls Hq H' F) ∧ WB X ops p Hq r ((d, v) :: E) H') : WB X ops p Hq ((i, .n B) :: r) E H := fun _ _ _ hS ha hw =>
  WB_turn hS hbs ho hg h ha hw fun v H' _ hr hw' => ⟨(k v H' hr).1, fun S' hS' => (k v H' hr).2 _ _ S' hS' (by rw [hd]; exact ha.put d v hN) hw'⟩
theorem WB_do0 {R : Value → Heap → Prop} (ho : ops[i]? = some o) (hg : wantedE ops E o = some true) (hd : o.dst = none) (hbs : BornsE X ops Hq B E) (h : ∀ w, Does (X.at H w) o E H R)
    (k : ∀ v H', R v H' → (∃ F, Pulls Hq H' F) ∧ WB X ops p Hq r E H') : WB X ops p Hq ((i, .n B) :: r) E H := fun _ _ _ hS ha hw =>
  WB_turn hS hbs ho hg h ha hw fun v H' _ hr hw' => ⟨(k v H' hr).1, fun S' hS' => (k v H' hr).2 _ _ S' hS' (by rw [hd]; exact ha.put0 v) hw'⟩
theorem WB_birth {d : Nat} {V : Nat → Value} {O : Obj} (ho : ops[i]? = some o) (hg : wantedE ops E o = some true) (hd : o.dst = some d) (hN : Nat.blt d X.N = true) (hbs : BornsE X ops Hq B E) (h : Births X o E Hq V O)
    (k : ∀ b, WB X ops p Hq r ((d, V b) :: E) (⟨some b, O⟩ :: H)) : WB X ops p Hq ((i, .b B) :: r) E H := fun a w S hS ha hw => by
  refine ⟨hbs.borns ha, o, V, O, ho, ⟨wantedE_spec ha hg, fun w' hw' => h a w' ha hw'⟩, fun b w' hb hge hO hn => ?_⟩
  have hw' := hw.bel hb
  refine k b _ w' _ (fun j => ?_) (by rw [hd]; exact ha.put d _ hN) ⟨⟨?_, fun x hx => ?_⟩, hw'.os, hw'.tape, hw'.output, hw'.size, hw'.kept, fun j hj => ?_, hw'.dr⟩
  · simp only [keys, List.filterMap_cons, List.mem_cons]
    rw [hS j, or_comm]; rfl
  · have hn' : b ∉ keys H := fun h => hn ((hS b).2 h)
    simpa [keys] using ⟨by simpa [keys] using hn', by simpa [keys] using hw'.hok.nodup⟩
  · rcases List.mem_cons.1 hx with rfl | hx
    · exact hO
    · exact hw'.hok.ok x hx
  · have hj' : j = b ∨ j ∈ keys H := by simpa [keys] using hj
    rcases hj' with rfl | hj'
    · exact .inr hge
    · exact hw'.own j hj'
theorem B_alloc {t : TypeId} {zs : List Value} (ho : o.op = .alloc t) (hz : Zv X.P t zs) : Births X o E H (fun b => .pointer (some ⟨b, 0, none⟩)) (cl zs t) := by
  intro a w ha hw
  obtain ⟨z, h1, h2⟩ := hz
  simp [execOp, ho, Instr.alloc, h2 w, newVar, newRow, h1, cl]
end
theorem pulls_rest {xs H Hq : Heap} (h : Pulls xs H Hq) : ∀ {X : Ctx} {w : World}, HW X.H0 X.w0 H w → HW X.H0 X.w0 Hq w := fun hw =>
  HW.left (hw.perm (h.perm.trans List.perm_append_comm))
theorem WC_drawR {X : Ctx} {p : Post} [NoPan p] {E : Env} {H Hq : Heap} {id : Nat} {l : List Oper} (xs : Heap) (ord : List (Nat × Bool)) (hm : X.P.follows .mixedOrders = true) (hsd : noSD l.toArray = true) (hlen : ord.length = l.length)
    (hB : orderB l.toArray ord (Array.replicate l.length false) = true) (hq : Pulls xs H Hq) (h : WM X l.toArray p Hq ord E H) : WC X (.region id l.toArray true) p E H := by
  intro a w ha hw
  refine wpIn_region_any hm ?_
  have hb : Bel w { w with drawn := w.drawn + 1 } := Bel.drew' w
  have hw1 := hw.bel hb
  have h1 := MW.any (X := X) (p := p) (C := fun w => HW X.H0 X.w0 Hq w) (fun _ _ h b => h.bel b) hsd ord _ a _ hB (pulls_rest hq hw1) (h a _ ha hw1)
  rw [hlen] at h1
  have := AnyC.sound _ _ _ _ h1
  simpa using this
theorem WC_drawBR {X : Ctx} {p : Post} [NoPan p] {E : Env} {H Hq : Heap} {id : Nat} {l : List Oper} (xs : Heap) (ord : List (Nat × Tag)) (hm : X.P.follows .mixedOrders = true) (hsd : noSD l.toArray = true) (hlen : ord.length = l.length)
    (hB : orderW l.toArray ord (Array.replicate l.length false) = true) (hq : Pulls xs H Hq) (h : WB X l.toArray p Hq ord E H) : WC X (.region id l.toArray true) p E H := by
  intro a w ha hw
  refine wpIn_region_any hm ?_
  have hb : Bel w { w with drawn := w.drawn + 1 } := Bel.drew' w
  have hw1 := hw.bel hb
  have h1 := BW.any (X := X) (p := p) (C := fun w => HW X.H0 X.w0 Hq w) (fun _ h => h.size) (fun _ _ h b => h.bel b) hsd ord _ hB ord.length [] a _ (fun k => k ∈ keys H) (by simp)
    ⟨fun e h => (by cases h), List.nodup_nil, fun e h => (by cases h), fun e h => (by cases h), fun e h => (by cases h), pulls_rest hq hw1, fun k hk => hw1.hok.lt hk⟩
    (fun w' hb' => h a _ _ (fun _ => Iff.rfl) ha (hw1.bel hb'))
  rw [hlen] at h1
  have := AnyC.sound _ _ _ _ h1
  simpa [marks, puts] using this
end Go.Proofs.YtelmlkdibcdebaaGreat
end
namespace Go.Proofs.YtelmlkdibcdebaaGreat
section
open Go.MapKept (IsKey)
structure Mp {κ α : Type} (d : TypeDesc) (ek : κ → Value) (ev : α → Value) (es : Array MapEntry) (L : List (κ × α)) : Prop where
  perm : (es.toList.map fun e => (e.key, e.val)).Perm (L.map fun x => (ek x.1, ev x.2))
  nodup : (L.map (·.1)).Nodup
  key : ∀ k, IsKey d (ek k)
  inj : ∀ a b, ek a = ek b → a = b
section
variable {κ α : Type} {d : TypeDesc} {ek : κ → Value} {ev : α → Value} {es : Array MapEntry} {L L' : List (κ × α)}
theorem Mp.empty (hk : ∀ k, IsKey d (ek k)) (hi : ∀ a b, ek a = ek b → a = b) : Mp d ek ev #[] ([] : List (κ × α)) := ⟨by simp, by simp, hk, hi⟩
theorem Mp.to (h : Mp d ek ev es L) (p : L.Perm L') : Mp d ek ev es L' := ⟨h.perm.trans (p.map _), (p.map _).nodup_iff.1 h.nodup, h.key, h.inj⟩
theorem Mp.size (h : Mp d ek ev es L) : es.size = L.length := by
  have := h.perm.length_eq
  simpa using this
theorem Mp.keys (h : Mp d ek ev es L) : ∀ x ∈ es.toList, IsKey d x.key := fun x hx => by
  have : (x.key, x.val) ∈ L.map fun x => (ek x.1, ev x.2) := h.perm.mem_iff.1 (List.mem_map.2 ⟨x, hx, rfl⟩)
  obtain ⟨y, _, e⟩ := List.mem_map.1 this
  have e1 : ek y.1 = x.key := congrArg Prod.fst e
  rw [← e1]; exact h.key _
theorem Mp.has (h : Mp d ek ev es L) {x : κ × α} (hx : x ∈ L) : ∃ e ∈ es.toList, e.key = ek x.1 ∧ e.val = ev x.2 := by
  have : (ek x.1, ev x.2) ∈ es.toList.map fun e => (e.key, e.val) := h.perm.mem_iff.2 (List.mem_map.2 ⟨x, hx, rfl⟩)
  obtain ⟨e, he, hh⟩ := List.mem_map.1 this
  exact ⟨e, he, congrArg Prod.fst hh, congrArg Prod.snd hh⟩
theorem Mp.back (h : Mp d ek ev es L) {e : MapEntry} (he : e ∈ es.toList) : ∃ x ∈ L, e.key = ek x.1 ∧ e.val = ev x.2 := by
  have : (e.key, e.val) ∈ L.map fun x => (ek x.1, ev x.2) := h.perm.mem_iff.1 (List.mem_map.2 ⟨e, he, rfl⟩)
  obtain ⟨x, hx, hh⟩ := List.mem_map.1 this
  exact ⟨x, hx, (congrArg Prod.fst hh).symm, (congrArg Prod.snd hh).symm⟩
theorem key_uniq {L : List (κ × α)} (h : (L.map (·.1)).Nodup) {k : κ} {a b : α} (ha : (k, a) ∈ L) (hb : (k, b) ∈ L) : a = b := by
  induction L with
  | nil => cases ha
  | cons x L ih =>
    rw [List.map_cons, List.nodup_cons] at h
    rcases List.mem_cons.1 ha with e1 | ha2
    · rcases List.mem_cons.1 hb with e2 | hb2
      · have := e1.trans e2.symm; exact congrArg Prod.snd this
      · exact absurd (List.mem_map.2 ⟨(k, b), hb2, (congrArg Prod.fst e1 : k = x.1)⟩) h.1
    · rcases List.mem_cons.1 hb with e2 | hb2
      · exact absurd (List.mem_map.2 ⟨(k, a), ha2, (congrArg Prod.fst e2 : k = x.1)⟩) h.1
      · exact ih h.2 ha2 hb2
theorem Mp.find (h : Mp d ek ev es L) {k : κ} {a : α} (hx : (k, a) ∈ L) : ∃ j e, Instr.findNow d (ek k) es.toList 0 = some (some (j, ev a)) ∧ es.toList[j]? = some e ∧ e.key = ek k := by
  rcases MapKept.findNow_spec (h.key k) es.toList 0 h.keys with ⟨_, h2⟩ | ⟨j, e, h1, h2, h3⟩
  · obtain ⟨e, he, hk, _⟩ := h.has hx
    exact absurd hk (h2 e he)
  · obtain ⟨⟨k', b⟩, hy, e1, e2⟩ := h.back (List.mem_of_getElem? h2)
    obtain rfl := h.inj _ _ (e1.symm.trans h3)
    obtain rfl := key_uniq h.nodup hx hy
    exact ⟨j, e, by rw [h1, Nat.zero_add, e2], h2, h3⟩
theorem Mp.none (h : Mp d ek ev es L) {k : κ} (hx : k ∉ L.map (·.1)) : Instr.findNow d (ek k) es.toList 0 = some none ∧ ∀ e ∈ es.toList, e.key ≠ ek k := by
  rcases MapKept.findNow_spec (h.key k) es.toList 0 h.keys with h1 | ⟨j, e, _, h2, h3⟩
  · exact h1
  · obtain ⟨⟨k', b⟩, hy, e1, _⟩ := h.back (List.mem_of_getElem? h2)
    obtain rfl := h.inj _ _ (e1.symm.trans h3)
    exact absurd (List.mem_map.2 ⟨_, hy, rfl⟩) hx
theorem Mp.add (h : Mp d ek ev es L) {k : κ} (a : α) (c : Nat) (hx : k ∉ L.map (·.1)) : Mp d ek ev (es.push { key := ek k, val := ev a, born := c }) ((k, a) :: L) := by
  refine ⟨?_, by simpa using ⟨by simpa using hx, h.nodup⟩, h.key, h.inj⟩
  rw [Array.toList_push, List.map_append]
  exact List.perm_append_comm.trans (.cons _ h.perm)
theorem perm_middle_split {β : Type} {l : List β} {j : Nat} {e : β} (h : l[j]? = some e) : ∃ s t, l = s ++ e :: t ∧ s.length = j := by
  obtain ⟨hl, rfl⟩ := List.getElem?_eq_some_iff.1 h
  exact ⟨l.take j, l.drop (j + 1), by rw [List.getElem_cons_drop, List.take_append_drop], by simp; omega⟩
theorem modify_at {β : Type} (f : β → β) : ∀ (s t : List β) (e : β), (s ++ e :: t).modify s.length f = s ++ f e :: t
  | [], t, e => by simp
  | x :: s, t, e => by simpa using modify_at f s t e
theorem Mp.split (h : Mp d ek ev es L) {k : κ} {a : α} (hx : (k, a) ∈ L) {j : Nat} {e : MapEntry} (hj : es.toList[j]? = some e) (he : e.key = ek k) :
    ∃ s t A B, es.toList = s ++ e :: t ∧ s.length = j ∧ L = A ++ (k, a) :: B ∧ ((s ++ t).map fun e => (e.key, e.val)).Perm ((A ++ B).map fun x => (ek x.1, ev x.2)) := by
  obtain ⟨s, t, hs, hl⟩ := perm_middle_split hj
  obtain ⟨A, B, hL⟩ := List.append_of_mem hx
  refine ⟨s, t, A, B, hs, hl, hL, ?_⟩
  obtain ⟨⟨k', b⟩, hy, e1, e2⟩ := h.back (List.mem_of_getElem? hj)
  obtain rfl := h.inj _ _ (e1.symm.trans he)
  obtain rfl := key_uniq h.nodup hx hy
  have hp := h.perm
  rw [hs, hL] at hp
  simp only [List.map_append, List.map_cons] at hp ⊢
  have h1 := List.perm_middle.symm.trans (hp.trans List.perm_middle)
  rw [e1, e2] at h1
  exact List.Perm.cons_inv h1
theorem split_ne {A B : List (κ × α)} {k : κ} {a : α} (h : ((A ++ (k, a) :: B).map (·.1)).Nodup) : ∀ x ∈ A ++ B, x.1 ≠ k := by
  have h1 := ((List.perm_middle (l₁ := A) (a := (k, a)) (l₂ := B)).map (fun x : κ × α => x.1)).nodup_iff.1 h
  rw [List.map_cons, List.nodup_cons] at h1
  intro x hx e
  exact h1.1 (List.mem_map.2 ⟨x, hx, e⟩)
def setL [DecidableEq κ] (L : List (κ × α)) (k : κ) (a : α) : List (κ × α) := L.map fun x => if x.1 = k then (k, a) else x
def delL [DecidableEq κ] (L : List (κ × α)) (k : κ) : List (κ × α) := L.filter fun x => decide (x.1 ≠ k)
theorem setL_same [DecidableEq κ] {A : List (κ × α)} {k : κ} {a : α} (h : ∀ x ∈ A, x.1 ≠ k) : setL A k a = A := by
  induction A with
  | nil => rfl
  | cons x A ih =>
    show (if x.1 = k then (k, a) else x) :: setL A k a = _
    rw [if_neg (h x (List.mem_cons_self ..)), ih (fun y hy => h y (List.mem_cons_of_mem _ hy))]
theorem Mp.set [DecidableEq κ] (h : Mp d ek ev es L) {k : κ} {a : α} (b : α) (hx : (k, a) ∈ L) {j : Nat} {e : MapEntry} (hj : es.toList[j]? = some e) (he : e.key = ek k) :
    Mp d ek ev (es.modify j fun e => { e with key := ek k, val := ev b }) (setL L k b) := by
  obtain ⟨s, t, A, B, hs, hl, hL, hp⟩ := h.split hx hj he
  have hnd := h.nodup
  subst hL
  have hne := split_ne hnd
  have hA : setL A k b = A := setL_same fun x hx => hne x (List.mem_append_left _ hx)
  have hB : setL B k b = B := setL_same fun x hx => hne x (List.mem_append_right _ hx)
  have hset : setL (A ++ (k, a) :: B) k b = A ++ (k, b) :: B := by
    show List.map _ _ = _
    rw [List.map_append, List.map_cons, if_pos rfl]
    exact congr (congrArg _ hA) (congrArg _ hB)
  rw [hset]
  refine ⟨?_, by simpa using hnd, h.key, h.inj⟩
  have hm : (es.modify j fun e => { e with key := ek k, val := ev b }).toList = s ++ { e with key := ek k, val := ev b } :: t := by
    rw [Array.toList_modify, hs]
    subst hl
    exact modify_at _ s t e
  rw [hm]
  simp only [List.map_append, List.map_cons] at hp ⊢
  exact List.perm_middle.trans ((List.Perm.cons _ hp).trans List.perm_middle.symm)
theorem Mp.del [DecidableEq κ] (h : Mp d ek ev es L) {k : κ} {a : α} (hx : (k, a) ∈ L) {j : Nat} {e : MapEntry} (hj : es.toList[j]? = some e) (he : e.key = ek k) :
    Mp d ek ev (es.eraseIdxIfInBounds j) (delL L k) := by
  obtain ⟨s, t, A, B, hs, hl, hL, hp⟩ := h.split hx hj he
  have hnd := h.nodup
  subst hL
  have hne := split_ne hnd
  have hdel : delL (A ++ (k, a) :: B) k = A ++ B := by
    unfold delL
    rw [List.filter_append, List.filter_cons_of_neg (by simp)]
    rw [List.filter_eq_self.2 (fun x hx => by simpa using hne x (List.mem_append_left _ hx)), List.filter_eq_self.2 (fun x hx => by simpa using hne x (List.mem_append_right _ hx))]
  rw [hdel]
  refine ⟨?_, ?_, h.key, h.inj⟩
  · have hm : (es.eraseIdxIfInBounds j).toList = s ++ t := by
      rw [Array.toList_eraseIdxIfInBounds, hs]
      subst hl
      simp [List.eraseIdx_append_of_length_le]
    rw [hm]; exact hp
  · have := ((List.perm_middle (l₁ := A) (a := (k, a)) (l₂ := B)).map (fun x : κ × α => x.1)).nodup_iff.1 hnd
    rw [List.map_cons, List.nodup_cons] at this
    exact this.2
end
section
variable {X : Ctx} {E : Env} {H F : Heap} {o : Oper} {κ α : Type} {d : TypeDesc} {ek : κ → Value} {ev : α → Value} {es : Array MapEntry} {c b : Nat} {L : List (κ × α)} {mt kt et : TypeId} {x y z : Operand}
theorem HW.mapAt {H0 : Heap} {w0 w : World} (hw : HW H0 w0 H w) (hm : (⟨some b, .map es c⟩ : Ent) ∈ H) : w.heap[b]? = some (.map es c) := hw.hok.ok _ hm
theorem run_look {P : Program} {w : World} (hu : P.underlying mt = some (.map kt et)) (hk : P.underlying kt = some d) (hb : w.heap[b]? = some (.map es c)) (hM : Mp d ek ev es L) {k : κ} {a : α} (hx : (k, a) ∈ L) (q : Bool) :
    (Instr.lookup mt (.map (some b)) (ek k) q).run P w = .ok (if q then .tuple #[ev a, .bool true] else ev a) w := by
  obtain ⟨j, e, h1, _⟩ := hM.find hx
  simp [Instr.lookup, run_underlying hu, MapKept.run_getObj_map hb, MapKept.run_checkKey hk (hM.key k), MapKept.run_findKey hk h1, Result.andThen]
theorem run_look0 {P : Program} {w : World} {zv : Value} (hu : P.underlying mt = some (.map kt et)) (hk : P.underlying kt = some d) (hb : w.heap[b]? = some (.map es c)) (hM : Mp d ek ev es L) {k : κ} (hx : k ∉ L.map (·.1)) (hz : (zeroValue et).run P w = .ok zv w) (q : Bool) :
    (Instr.lookup mt (.map (some b)) (ek k) q).run P w = .ok (if q then .tuple #[zv, .bool false] else zv) w := by
  have h1 := (hM.none hx).1
  simp [Instr.lookup, run_underlying hu, MapKept.run_getObj_map hb, MapKept.run_checkKey hk (hM.key k), MapKept.run_findKey hk h1, hz, Result.andThen]
theorem R_lookT {k : κ} {a : α} (ho : o.op = .lookup mt x y true) (hu : X.P.underlying mt = some (.map kt et)) (hk : X.P.underlying kt = some d) (hx : Go.Proofs.YtelmlkdibcdebaaGreat.ev E x = some (.map (some b))) (hy : Go.Proofs.YtelmlkdibcdebaaGreat.ev E y = some (ek k)) (hm : (⟨some b, .map es c⟩ : Ent) ∈ H) (hM : Mp d ek ev es L) (hin : (k, a) ∈ L) :
    Runs X o E H (.tuple #[ev a, .bool true]) :=
  ⟨(by rw [ho]; intro c e; cases e), fun A w ha hw => by
    simp [execOp, ho, ha.eval hx, ha.eval hy, run_look hu hk (hw.mapAt hm) hM hin true]⟩
theorem R_lookF {k : κ} {zv : Value} (ho : o.op = .lookup mt x y true) (hu : X.P.underlying mt = some (.map kt et)) (hk : X.P.underlying kt = some d) (hx : Go.Proofs.YtelmlkdibcdebaaGreat.ev E x = some (.map (some b))) (hy : Go.Proofs.YtelmlkdibcdebaaGreat.ev E y = some (ek k)) (hm : (⟨some b, .map es c⟩ : Ent) ∈ H) (hM : Mp d ek ev es L) (hin : k ∉ L.map (·.1))
    (hz : ∀ w, (zeroValue et).run X.P w = .ok zv w) : Runs X o E H (.tuple #[zv, .bool false]) :=
  ⟨(by rw [ho]; intro c e; cases e), fun A w ha hw => by
    simp [execOp, ho, ha.eval hx, ha.eval hy, run_look0 hu hk (hw.mapAt hm) hM hin (hz w) true]⟩
theorem R_look {k : κ} {a : α} (ho : o.op = .lookup mt x y false) (hu : X.P.underlying mt = some (.map kt et)) (hk : X.P.underlying kt = some d) (hx : Go.Proofs.YtelmlkdibcdebaaGreat.ev E x = some (.map (some b))) (hy : Go.Proofs.YtelmlkdibcdebaaGreat.ev E y = some (ek k)) (hm : (⟨some b, .map es c⟩ : Ent) ∈ H) (hM : Mp d ek ev es L) (hin : (k, a) ∈ L) :
    Runs X o E H (ev a) :=
  ⟨(by rw [ho]; intro c e; cases e), fun A w ha hw => by
    simp [execOp, ho, ha.eval hx, ha.eval hy, run_look hu hk (hw.mapAt hm) hM hin false]⟩
theorem R_look0 {k : κ} {zv : Value} (ho : o.op = .lookup mt x y false) (hu : X.P.underlying mt = some (.map kt et)) (hk : X.P.underlying kt = some d) (hx : Go.Proofs.YtelmlkdibcdebaaGreat.ev E x = some (.map (some b))) (hy : Go.Proofs.YtelmlkdibcdebaaGreat.ev E y = some (ek k)) (hm : (⟨some b, .map es c⟩ : Ent) ∈ H) (hM : Mp d ek ev es L) (hin : k ∉ L.map (·.1))
    (hz : ∀ w, (zeroValue et).run X.P w = .ok zv w) : Runs X o E H zv :=
  ⟨(by rw [ho]; intro c e; cases e), fun A w ha hw => by
    simp [execOp, ho, ha.eval hx, ha.eval hy, run_look0 hu hk (hw.mapAt hm) hM hin (hz w) false]⟩
theorem R_lenMap (ho : o.op = .call { callee := .builtin .len, args := #[x], argTypes := #[mt] }) (hu : X.P.underlying mt = some (.map kt et)) (hx : Go.Proofs.YtelmlkdibcdebaaGreat.ev E x = some (.map (some b))) (hm : (⟨some b, .map es c⟩ : Ent) ∈ H) (hM : Mp d ek ev es L) :
    Runs X o E H (.int .i64 (L.length : Int)) :=
  ⟨(by rw [ho]; intro c e; cases e), fun A w ha hw => by
    have hg := MapKept.run_getObj_map (P := X.P) (hw.mapAt hm)
    have hl : (Builtin.len_ #[mt] o.type #[.map (some b)]).run X.P w = .ok (goInt L.length) w := by
      simp [Builtin.len_, run_underlying hu, hg, Result.andThen, hM.size]
    simp [execOp, ho, resolve, ha.eval hx, invoke, builtin, hl, goInt]⟩
theorem D_makeMap (ho : o.op = .makeMap mt none) : Does X o E H (fun v H' => ∃ b, v = .map (some b) ∧ H' = ⟨some b, .map #[] 0⟩ :: H) := by
  intro a w ha hw next Q k
  refine ⟨about_true, ?_⟩
  rw [semAt_of (by rw [ho]; intro c e; cases e)]
  have hrun : (execOp a.eval o).run X.P w = .ok (.value (.map (some w.heap.size))) (w.alloc (.map #[] 0)) := by
    have h : (Instr.makeMap mt none).run X.P w = .ok (.map (some w.heap.size)) (w.alloc (.map #[] 0)) := rfl
    simp [execOp, ho, h]
  rw [hrun]
  exact k _ _ _ ⟨_, rfl, rfl⟩ (hw.alloc _)
theorem HW.turnMap {H0 : Heap} {w0 w : World} {ob : Obj} (hw : HW H0 w0 H w) (hp : Pull ⟨some b, .map es c⟩ H F) : HW H0 w0 (⟨some b, ob⟩ :: F) { w with heap := w.heap.setIfInBounds b ob } := by
  have hb : w.heap[b]? = some (.map es c) := hw.mapAt (pull_mem hp)
  obtain ⟨h1, h2⟩ := MapKept.heap_set (o' := ob) hb
  exact hw.turn hp (by simp) h1 (fun k hk => h2 k hk) rfl rfl rfl
theorem D_mapSet [DecidableEq κ] {k : κ} {a v : α} (ho : o.op = .mapUpdate mt x y z) (hu : X.P.underlying mt = some (.map kt et)) (hk : X.P.underlying kt = some d) (hx : Go.Proofs.YtelmlkdibcdebaaGreat.ev E x = some (.map (some b))) (hy : Go.Proofs.YtelmlkdibcdebaaGreat.ev E y = some (ek k)) (hz : Go.Proofs.YtelmlkdibcdebaaGreat.ev E z = some (ev v)) (hp : Pull ⟨some b, .map es c⟩ H F) (hM : Mp d ek ev es L) (hin : (k, a) ∈ L) :
    Does X o E H (fun _ H' => ∃ es' c', Mp d ek ev es' (setL L k v) ∧ H' = ⟨some b, .map es' c'⟩ :: F) := by
  intro A w ha hw next Q kk
  refine ⟨about_true, ?_⟩
  rw [semAt_of (by rw [ho]; intro c e; cases e)]
  have hb := hw.mapAt (pull_mem hp)
  obtain ⟨j, e, h1, h2, h3⟩ := hM.find hin
  have hj : es[j]? = some e := by simpa using h2
  have hrun : (execOp A.eval o).run X.P w = .ok .skip { w with heap := w.heap.setIfInBounds b (.map (es.modify j fun e => { e with key := ek k, val := ev v }) c) } := by
    simp [execOp, ho, ha.eval hx, ha.eval hy, ha.eval hz, Instr.mapUpdate, run_underlying hu, MapKept.run_getObj_map hb, MapKept.run_checkKey hk (hM.key k), MapKept.run_findKey hk h1, hj, h3, MapKept.run_keyThatStays (hM.key k), MapKept.run_setObj_map _ hb, Result.andThen]
  rw [hrun]
  exact kk undef _ _ ⟨_, _, hM.set v hin h2 h3, rfl⟩ (hw.turnMap hp)
theorem D_mapAdd {k : κ} {v : α} (ho : o.op = .mapUpdate mt x y z) (hu : X.P.underlying mt = some (.map kt et)) (hk : X.P.underlying kt = some d) (hx : Go.Proofs.YtelmlkdibcdebaaGreat.ev E x = some (.map (some b))) (hy : Go.Proofs.YtelmlkdibcdebaaGreat.ev E y = some (ek k)) (hz : Go.Proofs.YtelmlkdibcdebaaGreat.ev E z = some (ev v)) (hp : Pull ⟨some b, .map es c⟩ H F) (hM : Mp d ek ev es L) (hin : k ∉ L.map (·.1)) :
    Does X o E H (fun _ H' => ∃ es' c', Mp d ek ev es' ((k, v) :: L) ∧ H' = ⟨some b, .map es' c'⟩ :: F) := by
  intro A w ha hw next Q kk
  refine ⟨about_true, ?_⟩
  rw [semAt_of (by rw [ho]; intro c e; cases e)]
  have hb := hw.mapAt (pull_mem hp)
  have h1 := (hM.none hin).1
  have hrun : (execOp A.eval o).run X.P w = .ok .skip { w with heap := w.heap.setIfInBounds b (.map (es.push { key := ek k, val := ev v, born := c }) (c + 1)) } := by
    simp [execOp, ho, ha.eval hx, ha.eval hy, ha.eval hz, Instr.mapUpdate, run_underlying hu, MapKept.run_getObj_map hb, MapKept.run_checkKey hk (hM.key k), MapKept.run_findKey hk h1, MapKept.run_setObj_map _ hb, Result.andThen]
  rw [hrun]
  exact kk undef _ _ ⟨_, _, hM.add v c hin, rfl⟩ (hw.turnMap hp)
theorem D_delete [DecidableEq κ] {kt' : TypeId} {k : κ} {a : α} (ho : o.op = .call { callee := .builtin .delete, args := #[x, y], argTypes := #[mt, kt'] }) (hu : X.P.underlying mt = some (.map kt et)) (hk : X.P.underlying kt = some d) (hx : Go.Proofs.YtelmlkdibcdebaaGreat.ev E x = some (.map (some b))) (hy : Go.Proofs.YtelmlkdibcdebaaGreat.ev E y = some (ek k)) (hp : Pull ⟨some b, .map es c⟩ H F) (hM : Mp d ek ev es L) (hin : (k, a) ∈ L) :
    Does X o E H (fun _ H' => ∃ es' c', Mp d ek ev es' (delL L k) ∧ H' = ⟨some b, .map es' c'⟩ :: F) := by
  intro A w ha hw next Q kk
  refine ⟨about_true, ?_⟩
  rw [semAt_of (by rw [ho]; intro c e; cases e)]
  have hb := hw.mapAt (pull_mem hp)
  obtain ⟨j, e, h1, h2, h3⟩ := hM.find hin
  have hd : (Builtin.delete_ #[mt, kt'] o.type #[.map (some b), ek k]).run X.P w = .ok (.tuple #[]) { w with heap := w.heap.setIfInBounds b (.map (es.eraseIdxIfInBounds j) c) } := by
    simp [Builtin.delete_, run_underlying hu, MapKept.run_getObj_map hb, MapKept.run_checkKey hk (hM.key k), MapKept.run_findKey hk h1, MapKept.run_setObj_map _ hb, Result.andThen]
  have hrun : (execOp A.eval o).run X.P w = .ok (.value (.tuple #[])) { w with heap := w.heap.setIfInBounds b (.map (es.eraseIdxIfInBounds j) c) } := by
    simp [execOp, ho, resolve, ha.eval hx, ha.eval hy, invoke, builtin, hd]
  rw [hrun]
  exact kk _ _ _ ⟨_, _, hM.del hin h2 h3, rfl⟩ (hw.turnMap hp)
end
section
variable {X : Ctx} {E : Env} {H : Heap} {o : Oper} {x : Operand} {t : TypeId}
theorem eqi_map {P : Program} (w : World) (d : Nat) (t k e : TypeId) (r : Option Nat) (h : P.underlying t = some (.map k e)) : (Op.equalIn (d + 1) t (.map r) (.map none)).run P w = .ok r.isNone w := by
  cases r <;> simp [Op.equalIn, run_underlying h]
theorem R_mapEqNil {t' k e : TypeId} {r : Option Nat} (ho : o.op = .binOp .eql t x (.const (.map none)) t') (hu : X.P.underlying t = some (.map k e)) (hx : Go.Proofs.YtelmlkdibcdebaaGreat.ev E x = some (.map r)) : Runs X o E H (.bool r.isNone) :=
  R_bin ho hx rfl (fun w => by simp [eqGuard]) fun w => by
    have h := eqi_map (P := X.P) w 9999 t k e r hu
    simp only [binOp, Op.equal, Op.maxDepth, Sem.run_bind, h, Result.andThen_ok, Sem.run_pure]
end
end
section
section
variable {X : Ctx} {E : Env} {H : Heap} {o : Oper} {t e : TypeId} {x y : Operand} {sz n : Nat}
theorem R_indexArrA {k : IntKind} {i : Int} {cs vs : List Value} (ho : o.op = .index t x y) (hu : X.P.underlying t = some (.array n e)) (hs : Ag X.P e sz) (hx : Go.Proofs.YtelmlkdibcdebaaGreat.ev E x = some (.agg cs.toArray)) (hy : Go.Proofs.YtelmlkdibcdebaaGreat.ev E y = some (.int k i)) (hi : 0 ≤ i ∧ i < n) (hn : vs.length = sz) (hv : At cs (i.toNat * sz) vs) : Runs X o E H (.agg vs.toArray) :=
  ⟨(by rw [ho]; intro c e; cases e), fun a w ha _ => by
    have hsub : List.take sz (List.drop (i.toNat * sz) cs) = vs := by
      apply List.ext_getElem?
      intro j
      by_cases hj : j < sz
      · rw [List.getElem?_take_of_lt hj, List.getElem?_drop]
        have hlt : j < vs.length := by omega
        rw [hv j vs[j] (by simp [hlt])]
        simp [hlt]
      · rw [List.getElem?_eq_none (by simp; omega), List.getElem?_eq_none (by omega)]
    have h : (Instr.index t (.agg cs.toArray) (.int k i)).run X.P w = .ok (.agg vs.toArray) w := by
      simp [Instr.index, asIntOf, run_underlying hu, hi.1, hi.2, (hs w).1, (hs w).2, part, hsub]
    simp [execOp, ho, ha.eval hx, ha.eval hy, h]⟩
end
section
variable {X : Ctx} {E : Env} {H : Heap} {o : Oper} {t u : TypeId} {x y : Operand} {sz len : Nat}
theorem R_indexAddrA {b k : Nat} {kk : IntKind} {i : Int} (ho : o.op = .indexAddr t x y) (hu : X.P.underlying t = some (.array len u)) (hs : ∀ w, (sizeOf u).run X.P w = .ok sz w)
    (hx : Go.Proofs.YtelmlkdibcdebaaGreat.ev E x = some (.pointer (some ⟨b, k, none⟩))) (hy : Go.Proofs.YtelmlkdibcdebaaGreat.ev E y = some (.int kk i)) (hi : 0 ≤ i ∧ i < len) : Runs X o E H (.pointer (some ⟨b, k + i.toNat * sz, none⟩)) :=
  ⟨(by rw [ho]; intro c e; cases e), fun a w ha _ => by
    have h : (Instr.indexAt t (.pointer (some ⟨b, k, none⟩)) (.int kk i)).run X.P w = .ok (.pointer (some ⟨b, k + i.toNat * sz, none⟩)) w := by
      simp [Instr.indexAt, Instr.sureAddr, asIntOf, run_underlying hu, hi.1, hi.2, hs w, add_at]
    simp [execOp, ho, ha.eval hx, ha.eval hy, h]⟩
theorem R_indexAddrAN {b k i : Nat} {kk : IntKind} (ho : o.op = .indexAddr t x y) (hu : X.P.underlying t = some (.array len u)) (hs : ∀ w, (sizeOf u).run X.P w = .ok sz w)
    (hx : Go.Proofs.YtelmlkdibcdebaaGreat.ev E x = some (.pointer (some ⟨b, k, none⟩))) (hy : Go.Proofs.YtelmlkdibcdebaaGreat.ev E y = some (.int kk (i : Int))) (hi : i < len) : Runs X o E H (.pointer (some ⟨b, k + i * sz, none⟩)) :=
  R_indexAddrA ho hu hs hx hy ⟨by omega, by omega⟩
end
end
section
section
variable {X : Ctx} {E : Env} {H : Heap} {o : Oper}
theorem addr_add0 (ad : Addr) : ad.add 0 = ad := by cases ad; simp [Addr.add]
theorem R_sliceTo {t u : TypeId} {x y : Operand} {ad : Option Addr} {n c sz m : Nat} {kk : IntKind} (ho : o.op = .slice t x none (some y) none) (hu : X.P.underlying t = some (.slice u)) (hs : ∀ w, (sizeOf u).run X.P w = .ok sz w)
    (hx : ev E x = some (.slice ad n c)) (hy : ev E y = some (.int kk (m : Int))) (hm : m ≤ c) : Runs X o E H (.slice ad m c) :=
  ⟨(by rw [ho]; intro c e; cases e), fun a w ha _ => by
    simp [execOp, ho, ha.eval hx, ha.eval hy, Instr.sliceAt, Instr.slice, Instr.sliceBounds, Instr.sliceBound, asIntOf, run_underlying hu, hs w, hm]
    cases ad <;> simp [addr_add0]⟩
theorem R_sliceFrom {t u : TypeId} {x y : Operand} {b k n c sz m : Nat} {kk : IntKind} (ho : o.op = .slice t x (some y) none none) (hu : X.P.underlying t = some (.slice u)) (hs : ∀ w, (sizeOf u).run X.P w = .ok sz w)
    (hx : ev E x = some (.slice (some ⟨b, k, none⟩) n c)) (hy : ev E y = some (.int kk (m : Int))) (hm : m ≤ n) : Runs X o E H (.slice (some (if c = m then ⟨b, k, none⟩ else ⟨b, k + m * sz, none⟩)) (n - m) (c - m)) :=
  ⟨(by rw [ho]; intro c e; cases e), fun a w ha _ => by
    simp [execOp, ho, ha.eval hx, ha.eval hy, Instr.sliceAt, Instr.slice, Instr.sliceBounds, Instr.sliceBound, asIntOf, run_underlying hu, hs w, hm]
    by_cases e : c = m <;> simp [e, Addr.add]⟩
theorem R_sliceFromK {t u : TypeId} {x y : Operand} {b k n c sz m : Nat} {kk : IntKind} (ho : o.op = .slice t x (some y) none none) (hu : X.P.underlying t = some (.slice u)) (hs : ∀ w, (sizeOf u).run X.P w = .ok sz w)
    (hx : ev E x = some (.slice (some ⟨b, k, none⟩) n c)) (hy : ev E y = some (.int kk (m : Int))) (hm : m ≤ n) : Runs X o E H (.slice (some ⟨b, if c = m then k else k + m * sz, none⟩) (n - m) (c - m)) := by
  have h := R_sliceFrom (H := H) ho hu hs hx hy hm
  by_cases e : c = m
  · rw [if_pos e] at h ⊢; exact h
  · rw [if_neg e] at h ⊢; exact h
end
end
end Go.Proofs.YtelmlkdibcdebaaGreat
section
set_option linter.unusedSectionVars false
namespace Go.Proofs.YtelmlkdibcdebaaGreat
open Go.RowKit (Below)
section
variable (X : Ctx) (ops : Array Oper) (p : Post) (C : World → Prop) (N : List Nat)
def AnyD : Nat → Array Bool → Act → World → Prop
  | 0, listed, a, w => Region.ready .any ops listed = [] ∧ p.nrm a w
  | fuel + 1, listed, a, w => (Region.ready .any ops listed = [] → p.nrm a w) ∧
    ∀ i ∈ Region.ready .any ops listed, wpOpIn (fen X.ro) 0 X.P ops p.toQ i (fun a' w' => C w' ∧ (N.contains i = false → Bel w w') ∧ ∀ w'', Bel w' w'' → AnyD fuel (listed.setIfInBounds i true) a' w'') a w
end
section
variable {X : Ctx} {ops : Array Oper} {p : Post} [NoPan p] {C C1 : World → Prop} {N : List Nat}
theorem AnyD.sound : ∀ (fuel : Nat) (listed : Array Bool) (a : Act) (w : World), AnyD X ops p C N fuel listed a w → wpAnyIn (fen X.ro) 0 X.P .any ops p.toQ fuel listed a w
  | 0, _, _, _, h => h
  | fuel + 1, _, _, _, h => ⟨h.1, fun i hi => wpOpIn_mono (fun a' w' k => AnyD.sound fuel _ a' w' (k.2.2 w' (Bel.refl _))) (h.2 i hi)⟩
theorem AnyD.take {i : Nat} {oi : Oper} {v : Value} (hCb : ∀ w w', C w → Bel w w' → C w') (hi : ops[i]? = some oi) (hsd : noSD ops = true) :
    ∀ (fuel : Nat) (listed : Array Bool) (a : Act) (w : World),
      (∀ j oj, ops[j]? = some oj → j ≠ i → listed.getD j true = false → (∀ e ∈ oj.after, Region.binds .any e = true → e.on ≠ i) → oi.apart ops oj = true) →
      i ∈ Region.ready .any ops listed → YieldsC X ops C oi v a → C w →
      (∀ w', Bel w w' → AnyD X ops p C N fuel (listed.setIfInBounds i true) (a.put oi.dst v) w') → AnyD X ops p C N (fuel + 1) listed a w := by
  intro fuel
  induction fuel with
  | zero =>
    intro listed a w _ hr hy hC H
    refine ⟨fun h => (by rw [h] at hr; cases hr), fun j hj => ?_⟩
    by_cases hji : j = i
    · subst hji
      exact hy.wpOp hi (noSD_sel hsd hi).2 hC fun w' hb => ⟨hCb w w' hC hb, fun _ => hb, fun w'' hb' => H w'' (hb.trans' hb')⟩
    · have := ready_mono hj hji
      rw [(H w (Bel.refl _)).1] at this
      cases this
  | succ fuel ih =>
    intro listed a w hfree hr hy hC H
    refine ⟨fun h => (by rw [h] at hr; cases hr), fun j hj => ?_⟩
    by_cases hji : j = i
    · subst hji
      exact hy.wpOp hi (noSD_sel hsd hi).2 hC fun w' hb => ⟨hCb w w' hC hb, fun _ => hb, fun w'' hb' => H w'' (hb.trans' hb')⟩
    · have h1 := (H w (Bel.refl _)).2 j (ready_mono hj hji)
      obtain ⟨hjun, oj, hoj, hall⟩ := mem_ready.1 hj
      have hnot : ∀ e ∈ oj.after, Region.binds .any e = true → e.on ≠ i := fun e he hb heq => by
        have h1 := hall e he hb
        have h0 := (mem_ready.1 hr).1
        rw [heq] at h1
        rcases Nat.lt_or_ge i listed.size with h' | h'
        · simp [h'] at h0 h1; rw [h0] at h1; cases h1
        · simp [Array.getElem?_eq_none h'] at h1
      have h2 := wpOpIn_putC hoj (hfree j oj hoj hji hjun hnot) (noSD_sel hsd hi).1 (noSD_sel hsd hoj).1 (noSD_sel hsd hoj).2 hy h1
      have hfree' : ∀ k ok, ops[k]? = some ok → k ≠ i → (listed.setIfInBounds j true).getD k true = false →
          (∀ e ∈ ok.after, Region.binds .any e = true → e.on ≠ i) → oi.apart ops ok = true := fun k ok hk hki hun hno => by
        refine hfree k ok hk hki ?_ hno
        by_cases hjk : j = k
        · subst hjk; exact hjun
        · rw [getD_set_ne true hjk] at hun; exact hun
      refine wpOpIn_mono (fun a' w' h3 => ⟨h3.2.1, h3.2.2.1, fun w'' hb => ?_⟩) h2
      refine ih (listed.setIfInBounds j true) a' w'' hfree' (ready_mono hr (Ne.symm hji)) h3.1 (hCb _ _ h3.2.1 hb) fun w3 hb3 => ?_
      rw [Array.setIfInBounds_comm _ _ hji]
      exact h3.2.2.2 w3 (hb.trans' hb3)
def reach (ops : Array Oper) (i : Nat) : Nat → Nat → Bool
  | 0, _ => false
  | n + 1, j => match ops[j]? with
    | some oj => oj.after.any fun e => Region.binds .any e && (e.on == i || reach ops i n e.on)
    | none => false
def Closed (ops : Array Oper) (listed : Array Bool) : Prop := ∀ (k : Nat) (ok : Oper), ops[k]? = some ok → listed.getD k true = true → ∀ e ∈ ok.after, Region.binds .any e = true → listed.getD e.on true = true
theorem Closed.reach {listed : Array Bool} (hc : Closed ops listed) (i : Nat) : ∀ (n j : Nat) (oj : Oper), ops[j]? = some oj → (∀ e ∈ oj.after, Region.binds .any e = true → listed.getD e.on true = true) → reach ops i n j = true → listed.getD i true = true
  | 0, _, _, _, _, h => by cases h
  | n + 1, j, oj, hj, hd, h => by
    simp only [Go.Proofs.YtelmlkdibcdebaaGreat.reach, hj, Array.any_eq_true] at h
    obtain ⟨k, hk, h2⟩ := h
    simp only [Bool.and_eq_true, Bool.or_eq_true, beq_iff_eq] at h2
    have h3 := hd _ (Array.getElem_mem hk) h2.1
    rcases h2.2 with e | e
    · rw [← e]; exact h3
    · cases ho : ops[oj.after[k].on]? with
      | none => 
        cases n with
        | zero => cases e
        | succ n => simp only [Go.Proofs.YtelmlkdibcdebaaGreat.reach, ho] at e; cases e
      | some o2 => exact Closed.reach hc i n _ o2 ho (hc _ o2 ho h3) e
theorem getD_up {listed : Array Bool} {k : Nat} (h : listed.getD k false = true) : listed.getD k true = true := by
  rw [Array.getD_eq_getD_getElem?] at h ⊢
  cases e : listed[k]? with
  | none => rfl
  | some b => rw [e] at h; exact h
theorem getD_set {listed : Array Bool} {j k : Nat} (h : listed.getD k true = true) : (listed.setIfInBounds j true).getD k true = true := by
  by_cases e : j = k
  · subst e
    simp only [Array.getD_eq_getD_getElem?, Array.getElem?_setIfInBounds]
    by_cases h2 : j < listed.size <;> simp [h2]
  · rw [getD_set_ne true e]; exact h
theorem Closed.step {listed : Array Bool} (hc : Closed ops listed) {j : Nat} (hj : j ∈ Region.ready .any ops listed) : Closed ops (listed.setIfInBounds j true) := by
  intro k ok hk hl e he hb
  obtain ⟨_, oj, hoj, hall⟩ := mem_ready.1 hj
  by_cases ek : j = k
  · subst ek
    rw [hoj] at hk
    have := Option.some.inj hk
    subst this
    exact getD_set (getD_up (hall e he hb))
  · rw [getD_set_ne true ek] at hl
    exact getD_set (hc k ok hk hl e he hb)
theorem AnyD.take1 {i : Nat} {oi : Oper} {v : Value} (h1b : ∀ w w', C1 w → Bel w w' → C1 w') (h1C : ∀ w, C1 w → C w) (hi : ops[i]? = some oi) (hsd : noSD ops = true)
    (hN : ∀ j oj, N.contains j = true → ops[j]? = some oj → ∃ n, reach ops i n j = true) :
    ∀ (fuel : Nat) (listed : Array Bool) (a : Act) (w : World), Closed ops listed →
      (∀ j oj, ops[j]? = some oj → j ≠ i → listed.getD j true = false → (∀ e ∈ oj.after, Region.binds .any e = true → e.on ≠ i) → oi.apart ops oj = true) →
      i ∈ Region.ready .any ops listed → YieldsC X ops C1 oi v a → C1 w →
      (∀ w', Bel w w' → AnyD X ops p C N fuel (listed.setIfInBounds i true) (a.put oi.dst v) w') → AnyD X ops p C N (fuel + 1) listed a w := by
  intro fuel
  induction fuel with
  | zero =>
    intro listed a w _ _ hr hy hC H
    refine ⟨fun h => (by rw [h] at hr; cases hr), fun j hj => ?_⟩
    by_cases hji : j = i
    · subst hji
      exact hy.wpOp hi (noSD_sel hsd hi).2 hC fun w' hb => ⟨h1C _ (h1b w w' hC hb), fun _ => hb, fun w'' hb' => H w'' (hb.trans' hb')⟩
    · have := ready_mono hj hji
      rw [(H w (Bel.refl _)).1] at this
      cases this
  | succ fuel ih =>
    intro listed a w hcl hfree hr hy hC H
    refine ⟨fun h => (by rw [h] at hr; cases hr), fun j hj => ?_⟩
    by_cases hji : j = i
    · subst hji
      exact hy.wpOp hi (noSD_sel hsd hi).2 hC fun w' hb => ⟨h1C _ (h1b w w' hC hb), fun _ => hb, fun w'' hb' => H w'' (hb.trans' hb')⟩
    · have h1 := (H w (Bel.refl _)).2 j (ready_mono hj hji)
      obtain ⟨hjun, oj, hoj, hall⟩ := mem_ready.1 hj
      have hnot : ∀ e ∈ oj.after, Region.binds .any e = true → e.on ≠ i := fun e he hb heq => by
        have h1 := hall e he hb
        have h0 := (mem_ready.1 hr).1
        rw [heq] at h1
        rcases Nat.lt_or_ge i listed.size with h' | h'
        · simp [h'] at h0 h1; rw [h0] at h1; cases h1
        · simp [Array.getElem?_eq_none h'] at h1
      have hjN : N.contains j = false := by
        cases hc : N.contains j with
        | false => rfl
        | true =>
          obtain ⟨n, hn⟩ := hN j oj hc hoj
          have h8 := hcl.reach i n j oj hoj (fun e he hb => getD_up (hall e he hb)) hn
          have h9 := (mem_ready.1 hr).1
          rw [h8] at h9; cases h9
      have h2 := wpOpIn_putC hoj (hfree j oj hoj hji hjun hnot) (noSD_sel hsd hi).1 (noSD_sel hsd hoj).1 (noSD_sel hsd hoj).2 hy h1
      have hfree' : ∀ k ok, ops[k]? = some ok → k ≠ i → (listed.setIfInBounds j true).getD k true = false →
          (∀ e ∈ ok.after, Region.binds .any e = true → e.on ≠ i) → oi.apart ops ok = true := fun k ok hk hki hun hno => by
        refine hfree k ok hk hki ?_ hno
        by_cases hjk : j = k
        · subst hjk; exact hjun
        · rw [getD_set_ne true hjk] at hun; exact hun
      refine wpOpIn_mono (fun a' w' h3 => ⟨h3.2.1, h3.2.2.1, fun w'' hb => ?_⟩) h2
      refine ih (listed.setIfInBounds j true) a' w'' (hcl.step hj) hfree' (ready_mono hr (Ne.symm hji)) h3.1 (h1b _ _ (h1b _ _ hC (h3.2.2.1 hjN)) hb) fun w3 hb3 => ?_
      rw [Array.setIfInBounds_comm _ _ hji]
      exact h3.2.2.2 w3 (hb.trans' hb3)
def noisyOf (r : List (Nat × Bool)) : List Nat := (r.filter (fun t => !t.2)).map (·.1)
theorem MW.anyD (hCb : ∀ w w', C w → Bel w w' → C w') (hsd : noSD ops = true) : ∀ (l : List (Nat × Bool)) (listed : Array Bool) (a : Act) (w : World), orderB ops l listed = true → (∀ t ∈ l, t.2 = false → N.contains t.1 = true) → C w → MW X ops p C l a w →
    AnyD X ops p C N l.length listed a w
  | [], listed, a, w, hB, _, _, h => ⟨by simpa [orderB] using hB, h⟩
  | (i, true) :: r, listed, a, w, hB, hn, hC, h => by
    simp only [orderB, cond_true, Bool.and_eq_true, List.contains_iff_mem] at hB
    obtain ⟨⟨h1, h2⟩, h3⟩ := hB
    obtain ⟨o, v, ho, hy, hk⟩ := h
    exact AnyD.take hCb ho hsd r.length listed a w (Region.free_spec ho h2) h1 hy hC fun w' hb => MW.anyD hCb hsd r _ _ w' h3 (fun t ht => hn t (List.mem_cons_of_mem _ ht)) (hCb w w' hC hb) (hk w' hb)
  | (i, false) :: r, listed, a, w, hB, hn, hC, h => by
    simp only [orderB, cond_false, Bool.and_eq_true, beq_iff_eq] at hB
    obtain ⟨h1, h3⟩ := hB
    refine ⟨fun e => (by rw [h1] at e; cases e), fun j hj => ?_⟩
    rw [h1, List.mem_singleton] at hj
    subst hj
    exact wpOpIn_mono (fun a' w' hk => ⟨hk.1, fun hf => (by rw [hn (j, false) (List.mem_cons_self ..) rfl] at hf; cases hf), fun w'' hb => MW.anyD hCb hsd r _ _ w'' h3 (fun t ht => hn t (List.mem_cons_of_mem _ ht)) (hCb _ _ hk.1 hb) (hk.2 w'' hb)⟩) h
def ME (X : Ctx) (ops : Array Oper) (p : Post) (C1 C : World → Prop) (r : List (Nat × Bool)) : List (Nat × Bool) → Act → World → Prop
  | [], a, w => MW X ops p C r a w
  | (i, true) :: es, a, w => ∃ o v, ops[i]? = some o ∧ YieldsC X ops C1 o v a ∧ ∀ w', Bel w w' → ME X ops p C1 C r es (a.put o.dst v) w'
  | (i, false) :: es, a, w => ∃ o v, ops[i]? = some o ∧ YieldsC X ops C o v a ∧ ∀ w', Bel w w' → ME X ops p C1 C r es (a.put o.dst v) w'
def waitsFor (ops : Array Oper) (N : List Nat) (i : Nat) : Bool := N.all fun j => reach ops i ops.size j
def orderE (ops : Array Oper) (N : List Nat) (r : List (Nat × Bool)) : List (Nat × Bool) → Array Bool → Bool
  | [], listed => orderB ops r listed
  | (i, q) :: es, listed => (Region.ready .any ops listed).contains i && Region.free .any ops listed i && (!q || waitsFor ops N i) && orderE ops N r es (listed.setIfInBounds i true)
theorem waitsFor_spec {i : Nat} (h : waitsFor ops N i = true) (j : Nat) (oj : Oper) (hj : N.contains j = true) (_ : ops[j]? = some oj) : ∃ n, reach ops i n j = true :=
  ⟨_, List.all_eq_true.1 h j (List.contains_iff_mem.1 hj)⟩
theorem ME.anyD (r : List (Nat × Bool)) (h1b : ∀ w w', C1 w → Bel w w' → C1 w') (h1C : ∀ w, C1 w → C w) (hCb : ∀ w w', C w → Bel w w' → C w') (hsd : noSD ops = true) :
    ∀ (es : List (Nat × Bool)) (listed : Array Bool) (a : Act) (w : World), Closed ops listed → orderE ops (noisyOf r) r es listed = true → C1 w → ME X ops p C1 C r es a w → AnyD X ops p C (noisyOf r) (es.length + r.length) listed a w
  | [], listed, a, w, _, hB, hC, h => by
    simp only [List.length_nil, Nat.zero_add]
    exact MW.anyD hCb hsd r listed a w hB (fun t ht hf => List.contains_iff_mem.2 (List.mem_map.2 ⟨t, List.mem_filter.2 ⟨ht, by rw [hf]; rfl⟩, rfl⟩)) (h1C w hC) h
  | (i, true) :: es, listed, a, w, hcl, hB, hC, h => by
    simp only [orderE, Bool.and_eq_true, List.contains_iff_mem, Bool.not_true, Bool.false_or] at hB
    obtain ⟨⟨⟨h1, h2⟩, h3⟩, h4⟩ := hB
    obtain ⟨o, v, ho, hy, hk⟩ := h
    rw [show ((i, true) :: es).length + r.length = (es.length + r.length) + 1 from by simp only [List.length_cons]; omega]
    exact AnyD.take1 h1b h1C ho hsd (waitsFor_spec h3) _ listed a w hcl (Region.free_spec ho h2) h1 hy hC fun w' hb => ME.anyD r h1b h1C hCb hsd es _ _ w' (hcl.step h1) h4 (h1b w w' hC hb) (hk w' hb)
  | (i, false) :: es, listed, a, w, hcl, hB, hC, h => by
    simp only [orderE, Bool.and_eq_true, List.contains_iff_mem] at hB
    obtain ⟨⟨⟨h1, h2⟩, _⟩, h4⟩ := hB
    obtain ⟨o, v, ho, hy, hk⟩ := h
    rw [show ((i, false) :: es).length + r.length = (es.length + r.length) + 1 from by simp only [List.length_cons]; omega]
    exact AnyD.take hCb ho hsd _ listed a w (Region.free_spec ho h2) h1 hy (h1C w hC) fun w' hb => ME.anyD r h1b h1C hCb hsd es _ _ w' (hcl.step h1) h4 (h1b w w' hC hb) (hk w' hb)
end
def WZ (X : Ctx) (ops : Array Oper) (p : Post) (Hq : Heap) (r es : List (Nat × Bool)) (E : Env) (H : Heap) : Prop := ∀ a w, AE X E a → HW X.H0 X.w0 H w → ME X ops p (fun w => HW X.H0 X.w0 H w) (fun w => HW X.H0 X.w0 Hq w) r es a w
section
variable {X : Ctx} {ops : Array Oper} {p : Post} {Hq : Heap} {E : Env} {H F : Heap} {r es : List (Nat × Bool)} {i : Nat} {o : Oper}
theorem closed0 (l : List Oper) : Closed l.toArray (Array.replicate l.length false) := by
  intro k ok hk hl
  have : k < l.length := by
    have := (Array.getElem?_eq_some_iff.1 hk).1
    simpa using this
  simp [Array.getD_eq_getD_getElem?, this] at hl
theorem WC_drawE [NoPan p] {id : Nat} {l : List Oper} (xs : Heap) (es ord : List (Nat × Bool)) (hm : X.P.follows .mixedOrders = true) (hsd : noSD l.toArray = true) (hlen : es.length + ord.length = l.length)
    (hB : orderE l.toArray (noisyOf ord) ord es (Array.replicate l.length false) = true) (hq : Pulls xs H Hq) (h : WZ X l.toArray p Hq ord es E H) : WC X (.region id l.toArray true) p E H := by
  intro a w ha hw
  refine wpIn_region_any hm ?_
  have hb : Bel w { w with drawn := w.drawn + 1 } := Bel.drew' w
  have hw1 := hw.bel hb
  have h1 := ME.anyD (X := X) (p := p) (C1 := fun w => HW X.H0 X.w0 H w) (C := fun w => HW X.H0 X.w0 Hq w) ord (fun _ _ h b => h.bel b) (fun _ h => pulls_rest hq h) (fun _ _ h b => h.bel b) hsd es _ a _ (closed0 l) hB hw1 (h a _ ha hw1)
  rw [hlen] at h1
  have := AnyD.sound _ _ _ _ h1
  simpa using this
theorem WZ_rest (h : WM X ops p Hq r E H) : WZ X ops p Hq r [] E H := h
theorem WZ_early {d : Nat} {v : Value} (ho : ops[i]? = some o) (hg : wantedE ops E o = some true) (hd : o.dst = some d) (hN : Nat.blt d X.N = true) (h : Runs X o E H v)
    (k : WZ X ops p Hq r es ((d, v) :: E) H) : WZ X ops p Hq r ((i, true) :: es) E H := fun a w ha hw =>
  ⟨o, v, ho, .inl ⟨wantedE_spec ha hg, fun w' hw' => .inl (h.2 a w' ha hw')⟩, fun w' hb => k _ _ (by rw [hd]; exact ha.put d v hN) (hw.bel hb)⟩
theorem WZ_val {d : Nat} {v : Value} (ho : ops[i]? = some o) (hg : wantedE ops E o = some true) (hd : o.dst = some d) (hN : Nat.blt d X.N = true) (h : Runs X o E Hq v)
    (k : WZ X ops p Hq r es ((d, v) :: E) H) : WZ X ops p Hq r ((i, false) :: es) E H := fun a w ha hw =>
  ⟨o, v, ho, .inl ⟨wantedE_spec ha hg, fun w' hw' => .inl (h.2 a w' ha hw')⟩, fun w' hb => k _ _ (by rw [hd]; exact ha.put d v hN) (hw.bel hb)⟩
end
end Go.Proofs.YtelmlkdibcdebaaGreat
end
namespace Go.Proofs.YtelmlkdibcdebaaGreat
section
section
variable {X : Ctx} {E : Env} {H : Heap} {o : Oper} {t t' : TypeId} {x y : Operand} {k k' : IntKind} {m n r : Int}
theorem R_addR (ho : o.op = .binOp .add t x y t') (hx : ev E x = some (.int k m)) (hy : ev E y = some (.int k n)) (hr : k.wrap (m + n) = r) : Runs X o E H (.int k r) := hr ▸ R_addW ho hx hy
theorem R_subR (ho : o.op = .binOp .sub t x y t') (hx : ev E x = some (.int k m)) (hy : ev E y = some (.int k n)) (hr : k.wrap (m - n) = r) : Runs X o E H (.int k r) := hr ▸ R_subW ho hx hy
theorem R_mulR (ho : o.op = .binOp .mul t x y t') (hx : ev E x = some (.int k m)) (hy : ev E y = some (.int k n)) (hr : k.wrap (m * n) = r) : Runs X o E H (.int k r) := hr ▸ R_mulW ho hx hy
theorem R_quoR (ho : o.op = .binOp .quo t x y t') (hx : ev E x = some (.int k m)) (hy : ev E y = some (.int k n)) (hn : n ≠ 0) (hr : k.wrap (m.tdiv n) = r) : Runs X o E H (.int k r) :=
  R_arith ho hx hy fun w => by simp [go_sem, Op.intDiv, hn, hr]
theorem R_remR (ho : o.op = .binOp .rem t x y t') (hx : ev E x = some (.int k m)) (hy : ev E y = some (.int k n)) (hn : n ≠ 0) (hr : m.tmod n = r) : Runs X o E H (.int k r) :=
  R_arith ho hx hy fun w => by simp [go_sem, Op.intDiv, hn, hr]
theorem R_andR (ho : o.op = .binOp .and t x y t') (hx : ev E x = some (.int k m)) (hy : ev E y = some (.int k n)) (hr : k.wrap (BitVec.ofInt k.bits m &&& BitVec.ofInt k.bits n).toNat = r) : Runs X o E H (.int k r) :=
  R_arith ho hx hy fun w => by rw [← hr]; simp [go_sem, Op.intBits]
theorem R_xorR (ho : o.op = .binOp .xor t x y t') (hx : ev E x = some (.int k m)) (hy : ev E y = some (.int k n)) (hr : k.wrap (BitVec.ofInt k.bits m ^^^ BitVec.ofInt k.bits n).toNat = r) : Runs X o E H (.int k r) :=
  R_arith ho hx hy fun w => by rw [← hr]; simp [go_sem, Op.intBits]
theorem R_shrR (ho : o.op = .binOp .shr t x y t') (hx : ev E x = some (.int k m)) (hy : ev E y = some (.int k' n)) (hn : ¬ n < 0) (hr : m.fdiv (2 ^ (min n.toNat k.bits)) = r) : Runs X o E H (.int k r) :=
  ⟨(by rw [ho]; intro c e; cases e), fun a w ha _ => by
    have h : (binOp .shr t (.int k m) (.int k' n)).run X.P w = .ok (.int k r) w := by rw [← hr]; simp only [binOp, Op.shift, if_neg hn, Sem.run_pure]
    simp only [execOp, ho, ha.eval hx, ha.eval hy]
    simp [eqGuard, h]⟩
theorem R_conv {src dst : TypeId} {u : TypeDesc} (ho : o.op = .convert src dst x) (hs : X.P.underlying src = some u) (hd : X.P.underlying dst = some (.int k')) (hx : ev E x = some (.int k m)) (hr : k'.wrap m = r) : Runs X o E H (.int k' r) :=
  ⟨(by rw [ho]; intro c e; cases e), fun a w ha _ => by
    have h : (convert src dst (.int k m)).run X.P w = .ok (.int k' r) w := by
      rw [← hr]
      simp only [convert, Sem.run_bind, run_underlying hs, run_underlying hd, Result.andThen_ok]
      cases u <;> simp [Conv.intToInt]
    simp [execOp, ho, ha.eval hx, h]⟩
theorem R_minR {tys : Array TypeId} (ho : o.op = .call { callee := .builtin .min, args := #[x, y], argTypes := tys }) (hx : ev E x = some (.int k m)) (hy : ev E y = some (.int k' n)) (hr : min m n = r) : Runs X o E H (.int k r) := hr ▸ R_min ho hx hy
theorem R_maxR {tys : Array TypeId} (ho : o.op = .call { callee := .builtin .max, args := #[x, y], argTypes := tys }) (hx : ev E x = some (.int k m)) (hy : ev E y = some (.int k' n)) (hr : max m n = r) : Runs X o E H (.int k r) := hr ▸ R_max ho hx hy
end
theorem w64 {n : Int} (h : 0 ≤ n ∧ n ≤ 18446744073709551615) : IntKind.u64.wrap n = n := IntWalk.u64_in n h
theorem q64 {m n : Int} (h : 0 ≤ m ∧ m ≤ 18446744073709551615 ∧ 1 ≤ n) : IntKind.u64.wrap (m.tdiv n) = m / n := IntWalk.u64_quo m n h
theorem bvN (b : Nat) (a : Nat) : (BitVec.ofInt b (a : Int)) = BitVec.ofNat b a := by simp
theorem xor32 {a b : Nat} (ha : a < 4294967296) (hb : b < 4294967296) : IntKind.u32.wrap (BitVec.ofInt IntKind.u32.bits (a : Int) ^^^ BitVec.ofInt IntKind.u32.bits (b : Int)).toNat = ((a ^^^ b : Nat) : Int) := by
  have h1 : a % 4294967296 = a := Nat.mod_eq_of_lt ha
  have h2 : b % 4294967296 = b := Nat.mod_eq_of_lt hb
  have hl : a ^^^ b < 2 ^ 32 := Nat.xor_lt_two_pow (by omega) (by omega)
  rw [bvN, bvN, BitVec.toNat_xor, BitVec.toNat_ofNat, BitVec.toNat_ofNat]
  simp only [IntKind.bits]
  rw [show (2 : Nat) ^ 32 = 4294967296 from rfl, h1, h2, IntKind.wrap_u32]
  omega
theorem and32 {a b : Nat} (ha : a < 4294967296) (hb : b < 4294967296) : IntKind.u32.wrap (BitVec.ofInt IntKind.u32.bits (a : Int) &&& BitVec.ofInt IntKind.u32.bits (b : Int)).toNat = ((a &&& b : Nat) : Int) := by
  have h1 : a % 4294967296 = a := Nat.mod_eq_of_lt ha
  have h2 : b % 4294967296 = b := Nat.mod_eq_of_lt hb
  have hl : a &&& b ≤ a := Nat.and_le_left
  rw [bvN, bvN, BitVec.toNat_and, BitVec.toNat_ofNat, BitVec.toNat_ofNat]
  simp only [IntKind.bits]
  rw [show (2 : Nat) ^ 32 = 4294967296 from rfl, h1, h2, IntKind.wrap_u32]
  omega
theorem shrN {a s : Nat} {b : Nat} (h : s ≤ b) : ((a : Int)).fdiv (2 ^ (min ((s : Nat) : Int).toNat b)) = ((a / 2 ^ s : Nat) : Int) := by
  rw [Int.toNat_natCast, Nat.min_eq_left h, Int.fdiv_eq_ediv_of_nonneg _ (by exact Int.le_of_lt (Int.pow_pos (by decide)))]
  simp
theorem quoN {a b : Nat} (ha : a < 18446744073709551616) (hb : 1 ≤ b) : IntKind.u64.wrap (((a : Int)).tdiv (b : Int)) = ((a / b : Nat) : Int) := by
  rw [q64 ⟨by omega, by omega, by omega⟩]; simp
end
end Go.Proofs.YtelmlkdibcdebaaGreat
section
set_option linter.unusedVariables false
set_option linter.unusedSimpArgs false
namespace Go.Proofs.YtelmlkdibcdebaaGreat
theorem Pull.app {x : Ent} {B B' : Heap} (h : Pull x B B') : ∀ A : Heap, Pull x (A ++ B) (A ++ B')
  | [] => h
  | _ :: A => .tail (Pull.app h A)
theorem Pulls.app {ys B F : Heap} (h : Pulls ys B F) : ∀ A : Heap, Pulls (A ++ ys) (A ++ B) F
  | [] => h
  | _ :: A => .cons .head (Pulls.app h A)
theorem Pulls.skipA {xs B F : Heap} (h : Pulls xs B F) : ∀ A : Heap, Pulls xs (A ++ B) (A ++ F)
  | [] => h
  | _ :: A => .skip (Pulls.skipA h A)
theorem Pulls.appE (A B : Heap) : Pulls A (A ++ B) B := by
  have := Pulls.app (ys := []) (B := B) (F := B) .nil A
  rw [List.append_nil] at this; exact this
inductive PullA (A : Heap) : Heap → Heap → Prop
  | here {B : Heap} : PullA A (A ++ B) B
  | all : PullA A A []
  | tail {y : Ent} {l l' : Heap} : PullA A l l' → PullA A (y :: l) (y :: l')
  | app {l l' : Heap} (C : Heap) : PullA A l l' → PullA A (C ++ l) (C ++ l')
theorem PullA.perm {A H F : Heap} (h : PullA A H F) : H.Perm (A ++ F) := by
  induction h with
  | here => exact .refl _
  | all => simp
  | tail _ ih => exact (List.Perm.cons _ ih).trans List.perm_middle.symm
  | app C _ ih =>
    refine (List.Perm.append_left C ih).trans ?_
    rw [← List.append_assoc, ← List.append_assoc]
    exact List.Perm.append_right _ List.perm_append_comm
theorem Pulls.chunk {A xs H H1 F : Heap} (h : PullA A H H1) (k : Pulls xs H1 F) : Pulls (A ++ xs) H F :=
  .ofPerm (h.perm.trans (by rw [List.append_assoc]; exact List.Perm.append_left A k.perm))
theorem Pulls.chunk1 {A H F : Heap} (h : PullA A H F) : Pulls A H F := .ofPerm h.perm
theorem Pull.assoc {x : Ent} {A B C F : Heap} (h : Pull x (A ++ (B ++ C)) F) : Pull x ((A ++ B) ++ C) F := by rw [List.append_assoc]; exact h
theorem PullA.assoc {X A B C F : Heap} (h : PullA X (A ++ (B ++ C)) F) : PullA X ((A ++ B) ++ C) F := by rw [List.append_assoc]; exact h
theorem Pulls.assoc {xs A B C F : Heap} (h : Pulls xs (A ++ (B ++ C)) F) : Pulls xs ((A ++ B) ++ C) F := by rw [List.append_assoc]; exact h
theorem Pulls.assocX {A B C H F : Heap} (h : Pulls (A ++ (B ++ C)) H F) : Pulls ((A ++ B) ++ C) H F := by rw [List.append_assoc]; exact h
theorem mem_assoc {x : Ent} {A B C : Heap} (h : x ∈ A ++ (B ++ C)) : x ∈ (A ++ B) ++ C := by rw [List.append_assoc]; exact h
theorem plY {x : Ent} {H F : Heap} (h : Pull x H F := by repeat (first | exact Pull.head | apply Pull.tail | apply Pull.assoc | apply Pull.app)) : Pull x H F := h
theorem pqY {A H F : Heap} (h : Pulls A H F := by repeat (first | exact Pulls.nil | exact Pulls.all | (apply Pulls.cons; (repeat (first | exact Pull.head | apply Pull.tail | apply Pull.assoc | apply Pull.app))) | apply Pulls.assocX | (apply Pulls.chunk; (repeat (first | exact PullA.here | exact PullA.all | apply PullA.tail | apply PullA.assoc | apply PullA.app))) | exact Pulls.appE _ _ | apply Pulls.skip | apply Pulls.assoc | apply Pulls.skipA)) : Pulls A H F := h
theorem mmY {x : Ent} {H : Heap} (h : x ∈ H := by repeat (first | exact List.Mem.head _ | refine List.Mem.tail _ ?_ | refine mem_assoc ?_ | refine List.mem_append_right _ ?_)) : x ∈ H := h
theorem HW.rebase {H H2 H' : Heap} {w w' : World} (hp : H2.Perm H) (r : HW H w H' w') : HW H2 w H' w' :=
  ⟨r.hok, r.os, r.tape, r.output, r.size, fun k hk hn => r.kept k hk (fun h => hn ((keys_perm hp).mem_iff.2 h)), fun k hk => (r.own k hk).imp (fun h => (keys_perm hp).mem_iff.2 h) id, r.dr⟩
theorem Spec.fr {P : Program} {f : FuncId} {args : List Value} {H : Heap} {post : Value → Heap → Prop} (h : Spec P f args H post) (F : Heap) : Spec P f args (H ++ F) (fun v H' => ∃ H1, post v H1 ∧ H' = H1 ++ F) :=
  ⟨h.enters, fun w hw => (h.calls w hw.left).mono fun e w' ⟨v, H', e1, p, r⟩ => ⟨v, H' ++ F, e1, ⟨H', p, rfl⟩, HW.frame (HW.start hw) (.refl _) r⟩⟩
theorem Spec.perm {P : Program} {f : FuncId} {args : List Value} {H H2 : Heap} {post : Value → Heap → Prop} (h : Spec P f args H post) (hp : H2.Perm H) : Spec P f args H2 post :=
  ⟨h.enters, fun w hw => (h.calls w (hw.perm hp)).mono fun e w' ⟨v, H', e1, p, r⟩ => ⟨v, H', e1, p, r.rebase hp⟩⟩
theorem Spec.re {P : Program} {f : FuncId} {args : List Value} {H : Heap} {post : Value → Heap → Prop} (h : Spec P f args H (fun r H' => ∃ H1, H'.Perm H1 ∧ post r H1)) : Spec P f args H post :=
  ⟨h.enters, fun w hw => (h.calls w hw).mono fun e w' ⟨v, H', e1, ⟨H1, p, q⟩, r⟩ => ⟨v, H1, e1, q, r.perm p⟩⟩
structure KeyOk (P : Program) (kt : TypeId) {κ : Type} (ek : κ → Value) : Prop where
  chk : ∀ (em : Bool) (k : κ) (w : World), (Instr.checkKey em 10000 kt (ek k)).run P w = .ok () w
  find : ∀ (k : κ) (l : List MapEntry) (w : World), (∀ x ∈ l, ∃ k', x.key = ek k') → ∃ r, (Instr.findKey kt (ek k) l).run P w = .ok r w ∧ ((r = none ∧ ∀ x ∈ l, x.key ≠ ek k) ∨ ∃ (j : Nat) (e : MapEntry), r = some (j, e.val) ∧ l[j]? = some e ∧ e.key = ek k)
  inj : ∀ a b, ek a = ek b → a = b
structure Mk {κ α : Type} (ek : κ → Value) (ev : α → Value) (es : Array MapEntry) (c : Nat) (L : List (κ × α)) : Prop where
  perm : (es.toList.map fun e => (e.key, e.val)).Perm (L.map fun x => (ek x.1, ev x.2))
  nodup : (L.map (·.1)).Nodup
  born : ∀ e ∈ es.toList, e.born < c
  bnd : (es.toList.map (·.born)).Nodup
section
variable {κ α : Type} {P : Program} {kt : TypeId} {ek : κ → Value} {ev : α → Value} {es : Array MapEntry} {c : Nat} {L L' : List (κ × α)}
theorem Mk.empty : Mk ek ev #[] 0 ([] : List (κ × α)) := ⟨by simp, by simp, by simp, by simp⟩
theorem Mk.to (h : Mk ek ev es c L) (p : L.Perm L') : Mk ek ev es c L' := ⟨h.perm.trans (p.map _), (p.map _).nodup_iff.1 h.nodup, h.born, h.bnd⟩
theorem Mk.has (h : Mk ek ev es c L) {x : κ × α} (hx : x ∈ L) : ∃ e ∈ es.toList, e.key = ek x.1 ∧ e.val = ev x.2 := by
  have : (ek x.1, ev x.2) ∈ es.toList.map fun e => (e.key, e.val) := h.perm.mem_iff.2 (List.mem_map.2 ⟨x, hx, rfl⟩)
  obtain ⟨e, he, hh⟩ := List.mem_map.1 this
  exact ⟨e, he, congrArg Prod.fst hh, congrArg Prod.snd hh⟩
theorem Mk.back (h : Mk ek ev es c L) {e : MapEntry} (he : e ∈ es.toList) : ∃ x ∈ L, e.key = ek x.1 ∧ e.val = ev x.2 := by
  have : (e.key, e.val) ∈ L.map fun x => (ek x.1, ev x.2) := h.perm.mem_iff.1 (List.mem_map.2 ⟨e, he, rfl⟩)
  obtain ⟨x, hx, hh⟩ := List.mem_map.1 this
  exact ⟨x, hx, (congrArg Prod.fst hh).symm, (congrArg Prod.snd hh).symm⟩
theorem Mk.keys (h : Mk ek ev es c L) : ∀ x ∈ es.toList, ∃ k', x.key = ek k' := fun x hx => by
  obtain ⟨y, _, e1, _⟩ := h.back hx
  exact ⟨y.1, e1⟩
theorem Mk.find (K : KeyOk P kt ek) (h : Mk ek ev es c L) {k : κ} {a : α} (hx : (k, a) ∈ L) (w : World) : ∃ j, (Instr.findKey kt (ek k) es.toList).run P w = .ok (some (j, ev a)) w := by
  obtain ⟨r, h1, h2⟩ := K.find k es.toList w h.keys
  rcases h2 with ⟨_, h2⟩ | ⟨j, e, rfl, h2, h3⟩
  · obtain ⟨e, he, hk, _⟩ := h.has hx
    exact absurd hk (h2 e he)
  · obtain ⟨⟨k', b⟩, hy, e1, e2⟩ := h.back (List.mem_of_getElem? h2)
    obtain rfl := K.inj _ _ (e1.symm.trans h3)
    obtain rfl := key_uniq h.nodup hx hy
    exact ⟨j, by rw [h1, e2]⟩
theorem Mk.none (K : KeyOk P kt ek) (h : Mk ek ev es c L) {k : κ} (hx : k ∉ L.map (·.1)) (w : World) : (Instr.findKey kt (ek k) es.toList).run P w = .ok none w := by
  obtain ⟨r, h1, h2⟩ := K.find k es.toList w h.keys
  rcases h2 with ⟨rfl, _⟩ | ⟨j, e, rfl, h2, h3⟩
  · exact h1
  · obtain ⟨⟨k', b⟩, hy, e1, _⟩ := h.back (List.mem_of_getElem? h2)
    obtain rfl := K.inj _ _ (e1.symm.trans h3)
    exact absurd (List.mem_map.2 ⟨_, hy, rfl⟩) hx
theorem Mk.add (h : Mk ek ev es c L) {k : κ} (a : α) (hx : k ∉ L.map (·.1)) : Mk ek ev (es.push { key := ek k, val := ev a, born := c }) (c + 1) ((k, a) :: L) := by
  refine ⟨?_, by simpa using ⟨by simpa using hx, h.nodup⟩, fun e he => ?_, ?_⟩
  · rw [Array.toList_push, List.map_append]
    exact List.perm_append_comm.trans (.cons _ h.perm)
  · rw [Array.toList_push, List.mem_append, List.mem_singleton] at he
    rcases he with he | rfl
    · exact Nat.lt_succ_of_lt (h.born e he)
    · exact Nat.lt_succ_self c
  · rw [Array.toList_push, List.map_append, List.nodup_append]
    refine ⟨h.bnd, by simp, fun x hx y hy => ?_⟩
    obtain ⟨e, he, rfl⟩ := List.mem_map.1 hx
    have := h.born e he
    simp at hy
    omega
end
section
variable {X : Ctx} {E : Env} {H F : Heap} {o : Oper} {κ α : Type} {ek : κ → Value} {ev : α → Value} {es : Array MapEntry} {c b : Nat} {L : List (κ × α)} {mt kt et : TypeId} {x y z : Operand}
theorem R_lookK {k : κ} {a : α} (ho : o.op = .lookup mt x y false) (hu : X.P.underlying mt = some (.map kt et)) (K : KeyOk X.P kt ek) (hx : Go.Proofs.YtelmlkdibcdebaaGreat.ev E x = some (.map (some b))) (hy : Go.Proofs.YtelmlkdibcdebaaGreat.ev E y = some (ek k)) (hm : (⟨some b, .map es c⟩ : Ent) ∈ H) (hM : Mk ek ev es c L) (hin : (k, a) ∈ L) :
    Runs X o E H (ev a) :=
  ⟨(by rw [ho]; intro c e; cases e), fun A w ha hw => by
    obtain ⟨j, h1⟩ := hM.find K hin w
    have hl : (Instr.lookup mt (.map (some b)) (ek k) false).run X.P w = .ok (ev a) w := by
      simp [Instr.lookup, run_underlying hu, MapKept.run_getObj_map (hw.mapAt hm), K.chk, h1, Result.andThen]
    simp [execOp, ho, ha.eval hx, ha.eval hy, hl]⟩
theorem R_lookK0 {k : κ} {zv : Value} (ho : o.op = .lookup mt x y false) (hu : X.P.underlying mt = some (.map kt et)) (K : KeyOk X.P kt ek) (hx : Go.Proofs.YtelmlkdibcdebaaGreat.ev E x = some (.map (some b))) (hy : Go.Proofs.YtelmlkdibcdebaaGreat.ev E y = some (ek k)) (hm : (⟨some b, .map es c⟩ : Ent) ∈ H) (hM : Mk ek ev es c L) (hin : k ∉ L.map (·.1))
    (hz : ∀ w, (zeroValue et).run X.P w = .ok zv w) : Runs X o E H zv :=
  ⟨(by rw [ho]; intro c e; cases e), fun A w ha hw => by
    have h1 := hM.none K hin w
    have hl : (Instr.lookup mt (.map (some b)) (ek k) false).run X.P w = .ok zv w := by
      simp [Instr.lookup, run_underlying hu, MapKept.run_getObj_map (hw.mapAt hm), K.chk, h1, hz, Result.andThen]
    simp [execOp, ho, ha.eval hx, ha.eval hy, hl]⟩
theorem D_mapAddK {k : κ} {v : α} (ho : o.op = .mapUpdate mt x y z) (hu : X.P.underlying mt = some (.map kt et)) (K : KeyOk X.P kt ek) (hx : Go.Proofs.YtelmlkdibcdebaaGreat.ev E x = some (.map (some b))) (hy : Go.Proofs.YtelmlkdibcdebaaGreat.ev E y = some (ek k)) (hz : Go.Proofs.YtelmlkdibcdebaaGreat.ev E z = some (ev v)) (hp : Pull ⟨some b, .map es c⟩ H F) (hM : Mk ek ev es c L) (hin : k ∉ L.map (·.1)) :
    Does X o E H (fun _ H' => ∃ es', Mk ek ev es' (c + 1) ((k, v) :: L) ∧ H' = ⟨some b, .map es' (c + 1)⟩ :: F) := by
  intro A w ha hw next Q kk
  refine ⟨about_true, ?_⟩
  rw [semAt_of (by rw [ho]; intro c e; cases e)]
  have hb := hw.mapAt (pull_mem hp)
  have h1 := hM.none K hin w
  have hrun : (execOp A.eval o).run X.P w = .ok .skip { w with heap := w.heap.setIfInBounds b (.map (es.push { key := ek k, val := ev v, born := c }) (c + 1)) } := by
    simp [execOp, ho, ha.eval hx, ha.eval hy, ha.eval hz, Instr.mapUpdate, run_underlying hu, MapKept.run_getObj_map hb, K.chk, h1, MapKept.run_setObj_map _ hb, Result.andThen]
  rw [hrun]
  exact kk undef _ _ ⟨_, hM.add v hin, rfl⟩ (hw.turnMap hp)
theorem D_rangeMap (ho : o.op = .range mt x) (hu : X.P.underlying mt = some (.map kt et)) (hx : Go.Proofs.YtelmlkdibcdebaaGreat.ev E x = some (.map (some b))) (hm : (⟨some b, .map es c⟩ : Ent) ∈ H) :
    Does X o E H (fun v H' => ∃ bi, v = .pointer (some ⟨bi, 0, none⟩) ∧ H' = ⟨some bi, .mapIter (some b) c #[] c⟩ :: H) := by
  intro A w ha hw next Q kk
  refine ⟨about_true, ?_⟩
  rw [semAt_of (by rw [ho]; intro c e; cases e)]
  have hrun : (execOp A.eval o).run X.P w = .ok (.value (.pointer (some ⟨w.heap.size, 0, none⟩))) (w.alloc (.mapIter (some b) c #[] c)) := by
    simp [execOp, ho, ha.eval hx, run_range_map w mt kt et b es c hu (hw.mapAt hm)]
  rw [hrun]
  exact kk _ _ _ ⟨_, rfl, rfl⟩ (hw.alloc _)
theorem run_choose_next {P : Program} (w : World) {n : Nat} (hn : 0 < n) : ∃ j w1, j < n ∧ (w1 = w ∨ w1 = { w with drawn := w.drawn + 1 }) ∧ (choose (.mapNext n)).run P w = .ok j w1 := by
  by_cases hf : n ≤ 1
  · exact ⟨0, w, hn, .inl rfl, by simp [choose, Sem.run, Question.forced, hf]⟩
  · exact ⟨_, _, Nat.mod_lt _ hn, .inr rfl, by
      simp only [choose, Sem.run, Question.forced, decide_eq_true_eq, hf, if_false, Question.cut]
      rfl⟩
theorem D_nextMap {bi : Nat} {seen : Array Nat} (ho : o.op = .next x false) (hx : Go.Proofs.YtelmlkdibcdebaaGreat.ev E x = some (.pointer (some ⟨bi, 0, none⟩))) (hp : Pull ⟨some bi, .mapIter (some b) c seen c⟩ H F) (hm : (⟨some b, .map es c⟩ : Ent) ∈ H) (hb : ∀ e ∈ es.toList, e.born < c) :
    Does X o E H (fun v H' => (v = .tuple #[.bool false] ∧ H' = ⟨some bi, .mapIter (some b) c seen c⟩ :: F ∧ ∀ e ∈ es.toList, e.born ∈ seen) ∨ ∃ e ∈ es.toList, e.born ∉ seen ∧ v = .tuple #[.bool true, e.key, e.val] ∧ H' = ⟨some bi, .mapIter (some b) c (seen.push e.born) c⟩ :: F) := by
  intro A w ha hw next Q kk
  refine ⟨about_true, ?_⟩
  rw [semAt_of (by rw [ho]; intro c e; cases e)]
  have hmb := hw.mapAt hm
  have hw1 := hw.perm hp.perm
  have hib : w.heap[bi]? = some (.mapIter (some b) c seen c) := by
    have := hw1.hok.ok _ (List.mem_cons_self ..)
    simpa [Ent.ok] using this
  have hex : ∀ r, (Instr.next (.pointer (some ⟨bi, 0, none⟩)) false o.type).run X.P w = r → (execOp A.eval o).run X.P w = (r.andThen fun v w' => .ok (.value v) w') := fun r hr => by
    simp [execOp, ho, ha.eval hx, hr]
  have hg : (getObj bi).run X.P w = .ok (.mapIter (some b) c seen c) w := by simp [getObj, Sem.run, hib]
  have hg2 : (getObj b).run X.P w = .ok (.map es c) w := MapKept.run_getObj_map hmb
  have htest := next_test_false seen es c c hb (Nat.le_refl _)
  have e1 : (es.filter fun e => !seen.contains e.born).filter (fun x => decide (x.born < c)) = es.filter fun e => !seen.contains e.born := Array.filter_eq_self.2 (fun x hx => by
    have : x ∈ es.toList := by simp at hx ⊢; exact hx.1
    simpa using hb x this)
  have e2 : (es.filter fun e => !seen.contains e.born).filter (fun x => decide (x.born ≥ c)) = #[] := by
    rw [Array.filter_eq_empty_iff]
    intro x hx
    have : x ∈ es.toList := by simp at hx ⊢; exact hx.1
    have := hb x this
    simp
    omega
  have hmem : ∀ e, e ∈ es.filter (fun e => !seen.contains e.born) ↔ e ∈ es.toList ∧ e.born ∉ seen := fun e => by simp
  have hn : (Instr.next (.pointer (some ⟨bi, 0, none⟩)) false o.type).run X.P w = (if (es.filter fun e => !seen.contains e.born).isEmpty then .ok (.tuple #[.bool false]) w else
      (do let j ← choose (.mapNext (es.filter fun e => !seen.contains e.born).size)
          match ((es.filter fun e => !seen.contains e.born).map some)[j]? with
          | some (some e) => do
            setObj bi (.mapIter (some b) c (seen.push e.born) c)
            pure (.tuple #[.bool true, e.key, e.val])
          | some none => pure (.tuple #[.bool false])
          | none => stuck "Next: no such candidate" : Sem Value).run X.P w) := by
    simp only [Instr.next, Sem.run_bind, hg, hg2, Result.andThen_ok, htest, Bool.false_eq_true, if_false, e1, e2, Array.append_empty]
    by_cases h0 : (es.filter fun e => !seen.contains e.born).isEmpty = true
    · have : (es.filter fun e => !seen.contains e.born) = #[] := by simpa using h0
      rw [this]
      simp [choose, Sem.run, Question.forced, Result.andThen]
    · simp only [h0, if_false, Array.empty_append, Array.size_map, Bool.false_eq_true]
      rfl
  generalize es.filter (fun e => !seen.contains e.born) = Lf at hmem hn
  by_cases h0 : Lf.isEmpty = true
  · rw [if_pos h0] at hn
    rw [hex _ hn]
    refine kk _ _ _ (.inl ⟨rfl, rfl, fun e he => ?_⟩) hw1
    have hLe : Lf = #[] := by simpa using h0
    by_cases hs : e.born ∈ seen
    · exact hs
    · have := (hmem e).2 ⟨he, hs⟩
      rw [hLe] at this
      simp at this
  · rw [if_neg h0] at hn
    have hpos : 0 < Lf.size := by
      rcases Nat.eq_zero_or_pos Lf.size with h | h
      · exact absurd (by simpa using Array.eq_empty_of_size_eq_zero h) h0
      · exact h
    obtain ⟨j, w1, hj, hw1e, hrun⟩ := run_choose_next (P := X.P) w hpos
    have hb1 : Bel w w1 := by
      rcases hw1e with rfl | rfl
      · exact Bel.refl _
      · exact Bel.drew' w
    have hw2 := hw.bel hb1
    have hw2p := hw2.perm hp.perm
    have hlt : bi < w1.heap.size := hw2p.hok.lt (by simp [keys])
    have hib1 : w1.heap[bi]? = some (.mapIter (some b) c seen c) := by
      have := hw2p.hok.ok _ (List.mem_cons_self ..)
      simpa [Ent.ok] using this
    have hset : (setObj bi (.mapIter (some b) c (seen.push Lf[j].born) c)).run X.P w1 = .ok () { w1 with heap := w1.heap.setIfInBounds bi (.mapIter (some b) c (seen.push Lf[j].born) c) } := by
      simp only [setObj, Sem.run, hib1]
    have hn2 : (Instr.next (.pointer (some ⟨bi, 0, none⟩)) false o.type).run X.P w = .ok (.tuple #[.bool true, Lf[j].key, Lf[j].val]) { w1 with heap := w1.heap.setIfInBounds bi (.mapIter (some b) c (seen.push Lf[j].born) c) } := by
      rw [hn]
      simp only [Sem.run_bind, hrun, Result.andThen_ok, Array.getElem?_map, Array.getElem?_eq_getElem hj, Option.map_some, hset, Sem.run_pure]
    rw [hex _ hn2]
    have hin := (hmem Lf[j]).1 (Array.getElem_mem hj)
    refine kk _ _ _ (.inr ⟨Lf[j], hin.1, hin.2, rfl, rfl⟩) (hw2.turn hp (by simp) ?_ (fun k hk => ?_) rfl rfl rfl)
    · simp [Array.getElem?_setIfInBounds, hlt]
    · simp [Array.getElem?_setIfInBounds, Ne.symm hk]
theorem R_entryMap {bi : Nat} {seen : Array Nat} {e : MapEntry} (ho : o.op = .entry x) (hx : Go.Proofs.YtelmlkdibcdebaaGreat.ev E x = some (.pointer (some ⟨bi, 0, none⟩))) (hi : (⟨some bi, .mapIter (some b) c (seen.push e.born) c⟩ : Ent) ∈ H) (hm : (⟨some b, .map es c⟩ : Ent) ∈ H) (he : e ∈ es.toList) (hn : (es.toList.map (·.born)).Nodup) : Runs X o E H (.tuple #[e.key, e.val]) :=
  ⟨(by rw [ho]; intro c e; cases e), fun A w ha hw => by
    have hmb := hw.mapAt hm
    have hib : w.heap[bi]? = some (.mapIter (some b) c (seen.push e.born) c) := by
      have := hw.hok.ok _ hi
      simpa [Ent.ok] using this
    have hg : (getObj bi).run X.P w = .ok (.mapIter (some b) c (seen.push e.born) c) w := by simp [getObj, Sem.run, hib]
    have hg2 : (getObj b).run X.P w = .ok (.map es c) w := MapKept.run_getObj_map hmb
    have hf : es.find? (·.born == e.born) = some e := by rw [← Array.find?_toList]; exact find_born e es.toList hn he
    have hl : (Instr.entry (.pointer (some ⟨bi, 0, none⟩))).run X.P w = .ok (.tuple #[e.key, e.val]) w := by
      simp only [Instr.entry, Sem.run_bind, hg, hg2, Result.andThen_ok, Array.back?_push, bne_self_eq_false, Bool.false_eq_true, if_false, hf]
      rfl
    simp [execOp, ho, ha.eval hx, hl]⟩
end
end Go.Proofs.YtelmlkdibcdebaaGreat
end
namespace Go.Proofs.YtelmlkdibcdebaaGreat
section
section
variable {X : Ctx} {E : Env} {H : Heap} {o : Oper} {t t' : TypeId} {x y : Operand}
abbrev byt (s : ByteArray) : List UInt8 := s.data.toList
theorem byt_len (s : ByteArray) : (byt s).length = s.size := by cases s; rfl
theorem byt_get {s : ByteArray} {i : Nat} {b : UInt8} (h : (byt s)[i]? = some b) : ∃ hi : i < s.size, s[i] = b := by
  obtain ⟨h1, h2⟩ := List.getElem?_eq_some_iff.1 h
  refine ⟨by rw [← byt_len]; exact h1, ?_⟩
  rw [← h2]; cases s; rfl
theorem R_lenStr (ho : o.op = .call { callee := .builtin .len, args := #[x], argTypes := #[t] }) (hu : X.P.underlying t = some .string) {s : ByteArray} (hx : Go.Proofs.YtelmlkdibcdebaaGreat.ev E x = some (.string s)) : Runs X o E H (.int .i64 (s.size : Int)) :=
  ⟨(by rw [ho]; intro c e; cases e), fun a w ha _ => by
    have hl := run_len_string (P := X.P) w t o.type s hu
    simp [execOp, ho, resolve, ha.eval hx, invoke, builtin, hl, goInt]⟩
theorem R_indexStr {k : IntKind} {i : Nat} {b : UInt8} {s : ByteArray} (ho : o.op = .index t x y) (hu : X.P.underlying t = some .string) (hx : Go.Proofs.YtelmlkdibcdebaaGreat.ev E x = some (.string s)) (hy : Go.Proofs.YtelmlkdibcdebaaGreat.ev E y = some (.int k (i : Int))) (hb : (byt s)[i]? = some b) : Runs X o E H (.int .u8 (b.toNat : Int)) :=
  ⟨(by rw [ho]; intro c e; cases e), fun a w ha _ => by
    obtain ⟨hi, rfl⟩ := byt_get hb
    have h : (Instr.index t (.string s) (.int k (i : Int))).run X.P w = .ok (.int .u8 (s[i].toNat : Int)) w := by
      rw [run_index_string (P := X.P) w t s k _ hu, dif_pos ⟨by omega, by omega⟩]
      simp
    simp [execOp, ho, ha.eval hx, ha.eval hy, h]⟩
theorem eqi_nilf {P : Program} (w : World) (d : Nat) (t : TypeId) (u1 u2 : Array TypeId) (u3 : Bool) (h : P.underlying t = some (.func u1 u2 u3)) :
    (Op.equalIn (d + 1) t .nilFunc .nilFunc).run P w = .ok true w := by
  simp [Op.equalIn, run_underlying h]
theorem R_nilFuncEq {u1 u2 : Array TypeId} {u3 : Bool} (ho : o.op = .binOp .eql t x (.const .nilFunc) t') (hu : X.P.underlying t = some (.func u1 u2 u3)) (hx : Go.Proofs.YtelmlkdibcdebaaGreat.ev E x = some .nilFunc) : Runs X o E H (.bool true) :=
  R_bin ho hx rfl (fun w => by simp [eqGuard]) fun w => by
    have h := eqi_nilf (P := X.P) w 9999 t u1 u2 u3 hu
    simp only [binOp, Op.equal, Op.maxDepth, Sem.run_bind, h, Result.andThen_ok, Sem.run_pure]
end
section
variable {X : Ctx} {E : Env} {H F : Heap} {o : Oper} {mt kt et : TypeId} {x y z : Operand} {b c : Nat} {es : Array MapEntry} {d : TypeDesc}
variable {κ α : Type} {ek : κ → Value} {ev : α → Value} {L : List (κ × α)}
theorem D_mapIns {k : κ} {v : α} (ho : o.op = .insert mt x y z) (hu : X.P.underlying mt = some (.map kt et)) (hk : X.P.underlying kt = some d) (hx : Go.Proofs.YtelmlkdibcdebaaGreat.ev E x = some (.map (some b))) (hy : Go.Proofs.YtelmlkdibcdebaaGreat.ev E y = some (ek k)) (hz : Go.Proofs.YtelmlkdibcdebaaGreat.ev E z = some (ev v)) (hp : Pull ⟨some b, .map es c⟩ H F) (hM : Mp d ek ev es L) (hin : k ∉ L.map (·.1)) :
    Does X o E H (fun _ H' => ∃ es' c', Mp d ek ev es' ((k, v) :: L) ∧ H' = ⟨some b, .map es' c'⟩ :: F) := by
  intro A w ha hw next Q kk
  refine ⟨about_true, ?_⟩
  rw [semAt_of (by rw [ho]; intro c e; cases e)]
  have hb := hw.mapAt (pull_mem hp)
  have h1 := (hM.none hin).1
  have hrun : (execOp A.eval o).run X.P w = .ok .skip { w with heap := w.heap.setIfInBounds b (.map (es.push { key := ek k, val := ev v, born := c }) (c + 1)) } := by
    simp [execOp, ho, ha.eval hx, ha.eval hy, ha.eval hz, Instr.mapUpdate, run_underlying hu, MapKept.run_getObj_map hb, MapKept.run_checkKey hk (hM.key k), MapKept.run_findKey hk h1, MapKept.run_setObj_map _ hb, Result.andThen]
  rw [hrun]
  exact kk undef _ _ ⟨_, _, hM.add v c hin, rfl⟩ (hw.turnMap hp)
end
end
end Go.Proofs.YtelmlkdibcdebaaGreat
section
set_option linter.unusedVariables false
set_option linter.unusedSimpArgs false
namespace Go.Proofs.YtelmlkdibcdebaaGreat
section
variable {κ α : Type} {P : Program} {kt : TypeId} {ek : κ → Value} {ev : α → Value} {es : Array MapEntry} {c : Nat} {L L' : List (κ × α)}
theorem Mk.size (h : Mk ek ev es c L) : es.size = L.length := by
  have := h.perm.length_eq
  simpa using this
theorem Mk.find2 (K : KeyOk P kt ek) (h : Mk ek ev es c L) {k : κ} {a : α} (hx : (k, a) ∈ L) (w : World) : ∃ (j : Nat) (e : MapEntry), (Instr.findKey kt (ek k) es.toList).run P w = .ok (some (j, ev a)) w ∧ es.toList[j]? = some e ∧ e.key = ek k ∧ e.val = ev a := by
  obtain ⟨r, h1, h2⟩ := K.find k es.toList w h.keys
  rcases h2 with ⟨_, h2⟩ | ⟨j, e, rfl, h2, h3⟩
  · obtain ⟨e, he, hk, _⟩ := h.has hx
    exact absurd hk (h2 e he)
  · obtain ⟨⟨k', b⟩, hy, e1, e2⟩ := h.back (List.mem_of_getElem? h2)
    obtain rfl := K.inj _ _ (e1.symm.trans h3)
    obtain rfl := key_uniq h.nodup hx hy
    exact ⟨j, e, by rw [h1, e2], h2, h3, e2⟩
theorem Mk.del [DecidableEq κ] (h : Mk ek ev es c L) {k : κ} {a : α} (hx : (k, a) ∈ L) {j : Nat} {e : MapEntry} (hj : es.toList[j]? = some e) (he : e.key = ek k) (hv : e.val = ev a) :
    Mk ek ev (es.eraseIdxIfInBounds j) c (delL L k) := by
  obtain ⟨s, t, hs, hl⟩ := perm_middle_split hj
  obtain ⟨A, B, rfl⟩ := List.append_of_mem hx
  have hnd := h.nodup
  have hne := split_ne hnd
  have hdel : delL (A ++ (k, a) :: B) k = A ++ B := by
    unfold delL
    rw [List.filter_append, List.filter_cons_of_neg (by simp)]
    rw [List.filter_eq_self.2 (fun x hx => by simpa using hne x (List.mem_append_left _ hx)), List.filter_eq_self.2 (fun x hx => by simpa using hne x (List.mem_append_right _ hx))]
  have hm : (es.eraseIdxIfInBounds j).toList = s ++ t := by
    rw [Array.toList_eraseIdxIfInBounds, hs]
    subst hl
    simp [List.eraseIdx_append_of_length_le]
  rw [hdel]
  refine ⟨?_, ?_, fun x hx => ?_, ?_⟩
  · rw [hm]
    have hp := h.perm
    rw [hs] at hp
    have p1 : ((s ++ e :: t).map fun e => (e.key, e.val)).Perm ((e.key, e.val) :: (s ++ t).map fun e => (e.key, e.val)) := (List.perm_middle (l₁ := s) (a := e) (l₂ := t)).map _
    have p2 : ((A ++ (k, a) :: B).map fun x : κ × α => (ek x.1, ev x.2)).Perm ((ek k, ev a) :: (A ++ B).map fun x => (ek x.1, ev x.2)) := (List.perm_middle (l₁ := A) (a := (k, a)) (l₂ := B)).map _
    have p3 := p1.symm.trans (hp.trans p2)
    rw [he, hv] at p3
    exact List.Perm.cons_inv p3
  · have := ((List.perm_middle (l₁ := A) (a := (k, a)) (l₂ := B)).map (fun x : κ × α => x.1)).nodup_iff.1 hnd
    rw [List.map_cons, List.nodup_cons] at this
    exact this.2
  · rw [hm] at hx
    refine h.born x ?_
    rw [hs]
    rcases List.mem_append.1 hx with hx | hx
    · exact List.mem_append_left _ hx
    · exact List.mem_append_right _ (List.mem_cons_of_mem _ hx)
  · have hb := h.bnd
    rw [hs] at hb
    rw [hm]
    have := ((List.perm_middle (l₁ := s) (a := e) (l₂ := t)).map (fun x : MapEntry => x.born)).nodup_iff.1 hb
    rw [List.map_cons, List.nodup_cons] at this
    exact this.2
end
section
variable {X : Ctx} {E : Env} {H F : Heap} {o : Oper} {κ α : Type} {ek : κ → Value} {ev : α → Value} {es : Array MapEntry} {c b : Nat} {L : List (κ × α)} {mt kt et : TypeId} {x y z : Operand}
theorem R_lookKT {k : κ} {a : α} (ho : o.op = .lookup mt x y true) (hu : X.P.underlying mt = some (.map kt et)) (K : KeyOk X.P kt ek) (hx : Go.Proofs.YtelmlkdibcdebaaGreat.ev E x = some (.map (some b))) (hy : Go.Proofs.YtelmlkdibcdebaaGreat.ev E y = some (ek k)) (hm : (⟨some b, .map es c⟩ : Ent) ∈ H) (hM : Mk ek ev es c L) (hin : (k, a) ∈ L) :
    Runs X o E H (.tuple #[ev a, .bool true]) :=
  ⟨(by rw [ho]; intro c e; cases e), fun A w ha hw => by
    obtain ⟨j, h1⟩ := hM.find K hin w
    have hl : (Instr.lookup mt (.map (some b)) (ek k) true).run X.P w = .ok (.tuple #[ev a, .bool true]) w := by
      simp [Instr.lookup, run_underlying hu, MapKept.run_getObj_map (hw.mapAt hm), K.chk, h1, Result.andThen]
    simp [execOp, ho, ha.eval hx, ha.eval hy, hl]⟩
theorem R_lookKF {k : κ} {zv : Value} (ho : o.op = .lookup mt x y true) (hu : X.P.underlying mt = some (.map kt et)) (K : KeyOk X.P kt ek) (hx : Go.Proofs.YtelmlkdibcdebaaGreat.ev E x = some (.map (some b))) (hy : Go.Proofs.YtelmlkdibcdebaaGreat.ev E y = some (ek k)) (hm : (⟨some b, .map es c⟩ : Ent) ∈ H) (hM : Mk ek ev es c L) (hin : k ∉ L.map (·.1))
    (hz : ∀ w, (zeroValue et).run X.P w = .ok zv w) : Runs X o E H (.tuple #[zv, .bool false]) :=
  ⟨(by rw [ho]; intro c e; cases e), fun A w ha hw => by
    have h1 := hM.none K hin w
    have hl : (Instr.lookup mt (.map (some b)) (ek k) true).run X.P w = .ok (.tuple #[zv, .bool false]) w := by
      simp [Instr.lookup, run_underlying hu, MapKept.run_getObj_map (hw.mapAt hm), K.chk, h1, hz, Result.andThen]
    simp [execOp, ho, ha.eval hx, ha.eval hy, hl]⟩
theorem D_deleteK [DecidableEq κ] {kt' : TypeId} {k : κ} {a : α} (ho : o.op = .call { callee := .builtin .delete, args := #[x, y], argTypes := #[mt, kt'] }) (hu : X.P.underlying mt = some (.map kt et)) (K : KeyOk X.P kt ek) (hx : Go.Proofs.YtelmlkdibcdebaaGreat.ev E x = some (.map (some b))) (hy : Go.Proofs.YtelmlkdibcdebaaGreat.ev E y = some (ek k)) (hp : Pull ⟨some b, .map es c⟩ H F) (hM : Mk ek ev es c L) (hin : (k, a) ∈ L) :
    Does X o E H (fun _ H' => ∃ es', Mk ek ev es' c (delL L k) ∧ H' = ⟨some b, .map es' c⟩ :: F) := by
  intro A w ha hw next Q kk
  refine ⟨about_true, ?_⟩
  rw [semAt_of (by rw [ho]; intro c e; cases e)]
  have hb := hw.mapAt (pull_mem hp)
  obtain ⟨j, e, h1, h2, h3, h4⟩ := hM.find2 K hin w
  have hd : (Builtin.delete_ #[mt, kt'] o.type #[.map (some b), ek k]).run X.P w = .ok (.tuple #[]) { w with heap := w.heap.setIfInBounds b (.map (es.eraseIdxIfInBounds j) c) } := by
    simp [Builtin.delete_, run_underlying hu, MapKept.run_getObj_map hb, K.chk, h1, MapKept.run_setObj_map _ hb, Result.andThen]
  have hrun : (execOp A.eval o).run X.P w = .ok (.value (.tuple #[])) { w with heap := w.heap.setIfInBounds b (.map (es.eraseIdxIfInBounds j) c) } := by
    simp [execOp, ho, resolve, ha.eval hx, ha.eval hy, invoke, builtin, hd]
  rw [hrun]
  exact kk _ _ _ ⟨_, hM.del hin h2 h3 h4, rfl⟩ (hw.turnMap hp)
variable {t : TypeId} {s : ByteArray}
end
end Go.Proofs.YtelmlkdibcdebaaGreat
end
section
set_option linter.unusedVariables false
set_option linter.unusedSimpArgs false
namespace Go.Proofs.YtelmlkdibcdebaaGreat
abbrev sVal (ob : Option Nat) (k n c : Nat) : Value := .slice (ob.map fun b => ⟨b, k, none⟩) n c
structure OwnS (ob : Option Nat) (k n c sz : Nat) (pre xs tl : List Value) : Prop where
  off : pre.length = k ∨ c = 0
  len : xs.length = n * sz
  cap : xs.length + tl.length = c * sz
  le : n ≤ c
  big : c ≤ 9223372036854775807
  nil : ob = none → c = 0 ∧ pre = []
theorem OwnS.empty (sz : Nat) : OwnS none 0 0 0 sz [] [] [] := ⟨.inl rfl, by simp, by simp, by simp, by simp, fun _ => ⟨rfl, rfl⟩⟩
theorem OwnS.of {ob : Option Nat} {n c sz : Nat} {xs tl : List Value} (h : Own ob n c sz xs tl) : OwnS ob 0 n c sz [] xs tl := ⟨.inl rfl, h.len, h.cap, h.le, h.big, fun e => ⟨h.nil e, rfl⟩⟩
section
variable {ob : Option Nat} {k n c sz : Nat} {pre xs tl : List Value}
theorem OwnS.some_of (h : OwnS ob k n c sz pre xs tl) (hn : 0 < n) : ∃ b, ob = some b := by
  cases ob with
  | some b => exact ⟨b, rfl⟩
  | none => have := (h.nil rfl).1; have := h.le; omega
theorem OwnS.at_ (h : OwnS ob k n c sz pre xs tl) (hn : 0 < n) : pre.length = k := by
  rcases h.off with e | e
  · exact e
  · have := h.le; omega
theorem OwnS.cut {ys zs : List Value} {m : Nat} (h : OwnS ob k n c sz pre xs tl) (hx : xs = ys ++ zs) (hy : ys.length = sz) (hn : n = m + 1) : OwnS ob (if c = 1 then k else k + sz) m (c - 1) sz (pre ++ ys) zs tl := by
  have h1 := h.len
  have h2 := h.cap
  have h3 := h.le
  have h4 := h.at_ (by omega)
  obtain ⟨d, rfl⟩ : ∃ d, c = d + 1 := ⟨c - 1, by omega⟩
  subst hx
  rw [List.length_append, hy, hn, Nat.add_mul, Nat.one_mul] at h1
  rw [List.length_append, hy, Nat.add_mul, Nat.one_mul] at h2
  rw [Nat.add_sub_cancel]
  refine ⟨?_, by omega, by omega, by omega, by have := h.big; omega, fun e => by have := (h.nil e).1; omega⟩
  by_cases e : d = 0
  · exact .inr e
  · left
    rw [if_neg (by omega), List.length_append, hy, h4]
theorem OwnS.get {α : Type} {enc : α → List Value} {T : List α} (hk : ∀ x, (enc x).length = sz) (h : OwnS ob k n c sz pre (T.flatMap enc) tl) {i : Nat} {x : α} (hx : T[i]? = some x) (hi : i < n) {j : Nat} (hj : j < sz) : (pre ++ (T.flatMap enc ++ tl))[k + i * sz + j]? = (enc x)[j]? := by
  have h4 := h.at_ (by omega)
  rw [Nat.add_assoc, List.getElem?_append_right (by omega), show k + (i * sz + j) - pre.length = i * sz + j from by omega]
  exact fm_get hk hx hj tl
end
section
variable {X : Ctx} {E : Env} {H : Heap} {o : Oper}
theorem R_indexS {t u : TypeId} {x y : Operand} {ob : Option Nat} {b k n c sz i : Nat} {kk : IntKind} (hob : ob = some b) (ho : o.op = .indexAddr t x y) (hu : X.P.underlying t = some (.slice u)) (hs : ∀ w, (sizeOf u).run X.P w = .ok sz w)
    (hx : ev E x = some (sVal ob k n c)) (hy : ev E y = some (.int kk (i : Int))) (hi : i < n) : Runs X o E H (.pointer (some ⟨b, k + i * sz, none⟩)) := by
  subst hob
  exact R_indexAddrN ho hu hs hx hy hi
theorem R_cut1 {t u : TypeId} {x y : Operand} {ob : Option Nat} {b k n m c sz : Nat} {kk : IntKind} (hob : ob = some b) (ho : o.op = .slice t x (some y) none none) (hu : X.P.underlying t = some (.slice u)) (hs : ∀ w, (sizeOf u).run X.P w = .ok sz w)
    (hx : ev E x = some (sVal ob k n c)) (hy : ev E y = some (.int kk 1)) (hn : n = m + 1) : Runs X o E H (sVal ob (if c = 1 then k else k + sz) m (c - 1)) := by
  subst hob hn
  have h := R_sliceFromK (m := 1) (H := H) ho hu hs hx hy (by omega)
  rw [Nat.one_mul] at h
  exact h
theorem R_lenS {t : TypeId} {x : Operand} {u : TypeId} {ob : Option Nat} {k n c : Nat} (ho : o.op = .call { callee := .builtin .len, args := #[x], argTypes := #[t] }) (hu : X.P.underlying t = some (.slice u)) (hx : ev E x = some (sVal ob k n c)) : Runs X o E H (.int .i64 (n : Int)) := R_len ho hu hx
theorem D_appendS {t e e2 : TypeId} {sz bytes k n c m mc b2 k2 : Nat} {zs pre xs tl cs2 news : List Value} {ob : Option Nat} {x y : Operand} {F : Heap}
    (ho : o.op = .call { callee := .builtin .append, args := #[x, y], argTypes := #[t, t] }) (hs : SI X.P t e sz bytes zs) (hx : ev E x = some (sVal ob k n c)) (hown : OwnS ob k n c sz pre xs tl) (hp : Pull ⟨ob, cl (pre ++ (xs ++ tl)) e⟩ H F)
    (hy : ev E y = some (.slice (some ⟨b2, k2, none⟩) m mc)) (hm : (⟨some b2, cl cs2 e2⟩ : Ent) ∈ H) (hat : At cs2 k2 news) (hl : news.length = m * sz) (h1 : news.all Value.oneCell' = true) (hm0 : 0 < m) (hroom : (n + m) * bytes ≤ 140737488355328) (h63 : n + m ≤ 9223372036854775807) :
    Does X o E H (fun v H' => ∃ ob' k' c' pre' tl', v = sVal ob' k' (n + m) c' ∧ OwnS ob' k' (n + m) c' sz pre' (xs ++ news) tl' ∧ H' = ⟨ob', cl (pre' ++ (xs ++ news ++ tl')) e⟩ :: F) := by
  intro a w ha hw next Q kk
  obtain ⟨g1, i, z, g2, g3, g4, g5, g6, g7, g8⟩ := hs
  refine ⟨about_true, ?_⟩
  rw [semAt_of (by rw [ho]; intro c e; cases e)]
  have hnews := cells_at hw hm hat
  have hexec : ∀ v w', (Builtin.append_ #[t, t] o.type #[sVal ob k n c, .slice (some ⟨b2, k2, none⟩) m mc]).run X.P w = .ok v w' → (execOp a.eval o).run X.P w = .ok (.value v) w' := fun v w' h => by
    simp [execOp, ho, resolve, ha.eval hx, ha.eval hy, invoke, builtin, h]
  have hl' : news.length = m * i.size := by rw [g4]; exact hl
  cases ob with
  | none =>
    obtain ⟨hc, hpre⟩ := hown.nil rfl
    have hn : n = 0 := by have := hown.le; omega
    subst hn; subst hc; subst hpre
    have hxs : xs = [] := List.eq_nil_of_length_eq_zero (by simpa using hown.len)
    subst hxs
    have hr := run_append_nil (P := X.P) w t o.type e i z g1 g2 g3 ⟨b2, k2, none⟩ m mc news hl' hnews hm0 (by omega) (by rw [g5]; simp only [Nat.zero_add] at hroom; omega)
    rw [hexec _ _ hr]
    obtain ⟨tl', e1, e2⟩ := grown_own (w := w) (n := 0) (m := m) (c := 0) (e := e) (xs := []) (news := news) (zs := zs) (by simp) hl g7 h63 w.heap.size
    simp only [Nat.zero_add, List.nil_append, Array.empty_append] at e1 e2
    rw [g6]
    rw [e1]
    refine kk _ _ _ ⟨some w.heap.size, 0, _, [], tl', ?_, OwnS.of (by simpa using e2), rfl⟩ (((hw.drop hp).drew).alloc (cl (news ++ tl') e))
    simp
  | some b =>
    have hb : w.heap[b]? = some (cl (pre ++ (xs ++ tl)) e) := by
      have := hw.hok.ok _ (pull_mem hp)
      simpa [Ent.ok] using this
    by_cases hfit : n + m ≤ c
    · have hk : pre.length = k := by
        rcases hown.off with e9 | e9
        · exact e9
        · omega
      have hlen : (xs ++ news).length = (n + m) * sz := by rw [List.length_append, hown.len, hl, Nat.add_mul]
      have h3 := hown.cap
      have h5 := Nat.mul_le_mul_right sz hfit
      rw [← hlen, ← h3, List.length_append] at h5
      have hfc := run_firstCells_some (P := X.P) w i.size m ⟨b2, k2, none⟩ m mc news hl' hnews
      obtain ⟨w', s1, s2, s3, s4, s5, s6, s7, s8⟩ := run_storeCells_at (P := X.P) (b := b) (e := e) (k + n * i.size) news 0 (pre ++ (xs ++ tl)) w hb (by rw [g4, ← hown.len]; simp only [List.length_append]; omega) (List.all_eq_true.1 h1)
      have hr : (Builtin.append_ #[t, t] o.type #[sVal (some b) k n c, .slice (some ⟨b2, k2, none⟩) m mc]).run X.P w = .ok (sVal (some b) k (n + m) c) w' := by
        simp [Builtin.append_, run_underlying g1, sizeOf, typeInfo, g2, Builtin.lenOf, hfit, hfc, add_at, s1]
      rw [hexec _ _ hr]
      have hput : putAt (pre ++ (xs ++ tl)) (k + n * i.size + 0) news = pre ++ (xs ++ news ++ tl.drop news.length) := by
        rw [g4, ← hown.len, ← hk, Nat.add_zero, putAt_append, show xs.length = xs.length + 0 from rfl, putAt_append, putAt_eq _ _ _ (by omega)]
        simp
      refine kk _ _ _ ⟨some b, k, c, pre, tl.drop news.length, rfl, ⟨.inl hk, hlen, ?_, hfit, hown.big, fun h => by cases h⟩, rfl⟩ ?_
      · simp only [List.length_append, List.length_drop]
        omega
      · rw [hput] at s3
        exact hw.turn hp s2 s3 s4 s5 s6 s7 s8
    · have holds : ∀ j u, xs[j]? = some u → w.cell? ((⟨b, k, none⟩ : Addr).add j) = some u :=
        cells_at hw (pull_mem hp) (fun j u hj => by
          have hlt := (List.getElem?_eq_some_iff.1 hj).1
          have hn : 0 < n := by
            rcases Nat.eq_zero_or_pos n with q | q
            · have := hown.len; rw [q, Nat.zero_mul] at this; omega
            · exact q
          have hk := hown.at_ hn
          rw [List.getElem?_append_right (by omega), show k + j - pre.length = j from by omega, List.getElem?_append_left hlt]
          exact hj)
      have hr := run_append_grow (P := X.P) w t o.type e i z g1 g2 g3 ⟨b, k, none⟩ n c xs (by rw [g4]; exact hown.len) holds ⟨b2, k2, none⟩ m mc news hl' hnews (by omega) (by omega) (growslice_fits (by omega) (by rw [g5]; exact hroom))
      rw [hexec _ _ hr]
      obtain ⟨tl', e1, e2⟩ := grown_own (w := w) (n := n) (m := m) (c := c) (e := e) (xs := xs) (news := news) (zs := zs) hown.len hl g7 h63 w.heap.size
      rw [g6, e1]
      exact kk _ _ _ ⟨some w.heap.size, 0, _, [], tl', rfl, OwnS.of e2, rfl⟩ (((hw.drop hp).drew).alloc (cl (xs ++ news ++ tl') e))
end
end Go.Proofs.YtelmlkdibcdebaaGreat
end
namespace Go.Proofs.YtelmlkdibcdebaaGreat
section
section
variable {P : Program} {b : Frame} {a : Act} {k : List Item} {cs : List Frame} {w : World}
end
theorem WM_skipF {X : Ctx} {ops : Array Oper} {p : Post} {Hq : Heap} {E : Env} {H F : Heap} {r : List (Nat × Bool)} {i : Nat} {o : Oper} {d : Nat} (ho : ops[i]? = some o) (hg : wantedE ops E o = some false) (hd : o.dst = some d) (hN : Nat.blt d X.N = true)
    (hq : Pulls Hq H F) (k : WM X ops p Hq r ((d, undef) :: E) H) : WM X ops p Hq ((i, false) :: r) E H := by
  intro a w ha hw
  simp only [MW, wpOpIn, ho, wantedE_spec ha hg, Bool.false_eq_true, if_false]
  exact ⟨about_true, (hw.perm hq.perm).left, fun w'' hb => k _ _ (by rw [hd]; exact ha.put d undef hN) (hw.bel hb)⟩
end
section
def PtW (ps : List (Nat × Nat × Value)) (w : World) : Prop := ∀ t ∈ ps, ∃ cs e, w.heap[t.1]? = some (cl cs e) ∧ cs[t.2.1]? = some t.2.2
inductive PtH (H : Heap) : List (Nat × Nat × Value) → Prop
  | nil : PtH H []
  | cons {b j : Nat} {v : Value} {cs : List Value} {e : TypeId} {ps : List (Nat × Nat × Value)} : (⟨some b, cl cs e⟩ : Ent) ∈ H → cs[j]? = some v → PtH H ps → PtH H ((b, j, v) :: ps)
theorem PtH.here {H H0 : Heap} {w0 w : World} {ps : List (Nat × Nat × Value)} (h : PtH H ps) (hw : HW H0 w0 H w) : PtW ps w := by
  induction h with
  | nil => intro t ht; cases ht
  | cons h1 h2 _ ih =>
    intro t ht
    rcases List.mem_cons.1 ht with rfl | ht
    · exact ⟨_, _, hw.hok.ok _ h1, h2⟩
    · exact ih t ht
theorem PtW.bel {ps : List (Nat × Nat × Value)} {w w' : World} (h : PtW ps w) (hb : Bel w w') : PtW ps w' := fun t ht => by
  obtain ⟨cs, e, h1, h2⟩ := h t ht
  exact ⟨cs, e, by rw [hb.block _ (Array.getElem?_eq_some_iff.1 h1).1]; exact h1, h2⟩
abbrev CX (X : Ctx) (ps : List (Nat × Nat × Value)) (Hq : Heap) (w : World) : Prop := HW X.H0 X.w0 Hq w ∧ PtW ps w
section
variable {X : Ctx} {ops : Array Oper} {p : Post} {Hq : Heap} {E : Env} {H F : Heap} {r : List (Nat × Tag)} {i : Nat} {o : Oper} {B : List Nat} {ps : List (Nat × Nat × Value)}
end
end
end Go.Proofs.YtelmlkdibcdebaaGreat
section
set_option linter.unusedVariables false
set_option linter.unusedSectionVars false
namespace Go.Proofs.YtelmlkdibcdebaaGreat
open Go.RowKit (Below)
section
variable (X : Ctx) (ops : Array Oper) (p : Post) (C C1 : World → Prop) (N : List Nat)
def AnyK : Nat → Array Bool → Act → World → Prop
  | 0, listed, a, w => Region.ready .any ops listed = [] ∧ p.nrm a w
  | fuel + 1, listed, a, w => (Region.ready .any ops listed = [] → p.nrm a w) ∧
    ∀ i ∈ Region.ready .any ops listed, wpOpIn (fen X.ro) 0 X.P ops p.toQ i (fun a' w' => C w' ∧ (N.contains i = false → C1 w → C1 w') ∧ ∀ w'', Bel w' w'' → AnyK fuel (listed.setIfInBounds i true) a' w'') a w
end
section
variable {X : Ctx} {ops : Array Oper} {p : Post} [NoPan p] {C C1 : World → Prop} {N : List Nat}
theorem AnyK.sound : ∀ (fuel : Nat) (listed : Array Bool) (a : Act) (w : World), AnyK X ops p C C1 N fuel listed a w → wpAnyIn (fen X.ro) 0 X.P .any ops p.toQ fuel listed a w
  | 0, _, _, _, h => h
  | fuel + 1, _, _, _, h => ⟨h.1, fun i hi => wpOpIn_mono (fun a' w' k => AnyK.sound fuel _ a' w' (k.2.2 w' (Bel.refl _))) (h.2 i hi)⟩
theorem AnyK.take {i : Nat} {oi : Oper} {v : Value} (h1b : ∀ w w', C1 w → Bel w w' → C1 w') (hCb : ∀ w w', C w → Bel w w' → C w') (hi : ops[i]? = some oi) (hsd : noSD ops = true) :
    ∀ (fuel : Nat) (listed : Array Bool) (a : Act) (w : World),
      (∀ j oj, ops[j]? = some oj → j ≠ i → listed.getD j true = false → (∀ e ∈ oj.after, Region.binds .any e = true → e.on ≠ i) → oi.apart ops oj = true) →
      i ∈ Region.ready .any ops listed → YieldsC X ops C oi v a → C w →
      (∀ w', Bel w w' → AnyK X ops p C C1 N fuel (listed.setIfInBounds i true) (a.put oi.dst v) w') → AnyK X ops p C C1 N (fuel + 1) listed a w := by
  intro fuel
  induction fuel with
  | zero =>
    intro listed a w _ hr hy hC H
    refine ⟨fun h => (by rw [h] at hr; cases hr), fun j hj => ?_⟩
    by_cases hji : j = i
    · subst hji
      exact hy.wpOp hi (noSD_sel hsd hi).2 hC fun w' hb => ⟨hCb w w' hC hb, fun _ h => h1b _ _ h hb, fun w'' hb' => H w'' (hb.trans' hb')⟩
    · have := ready_mono hj hji
      rw [(H w (Bel.refl _)).1] at this
      cases this
  | succ fuel ih =>
    intro listed a w hfree hr hy hC H
    refine ⟨fun h => (by rw [h] at hr; cases hr), fun j hj => ?_⟩
    by_cases hji : j = i
    · subst hji
      exact hy.wpOp hi (noSD_sel hsd hi).2 hC fun w' hb => ⟨hCb w w' hC hb, fun _ h => h1b _ _ h hb, fun w'' hb' => H w'' (hb.trans' hb')⟩
    · have h1 := (H w (Bel.refl _)).2 j (ready_mono hj hji)
      obtain ⟨hjun, oj, hoj, hall⟩ := mem_ready.1 hj
      have hnot : ∀ e ∈ oj.after, Region.binds .any e = true → e.on ≠ i := fun e he hb heq => by
        have h1 := hall e he hb
        have h0 := (mem_ready.1 hr).1
        rw [heq] at h1
        rcases Nat.lt_or_ge i listed.size with h' | h'
        · simp [h'] at h0 h1; rw [h0] at h1; cases h1
        · simp [Array.getElem?_eq_none h'] at h1
      have h2 := wpOpIn_putC hoj (hfree j oj hoj hji hjun hnot) (noSD_sel hsd hi).1 (noSD_sel hsd hoj).1 (noSD_sel hsd hoj).2 hy h1
      have hfree' : ∀ k ok, ops[k]? = some ok → k ≠ i → (listed.setIfInBounds j true).getD k true = false →
          (∀ e ∈ ok.after, Region.binds .any e = true → e.on ≠ i) → oi.apart ops ok = true := fun k ok hk hki hun hno => by
        refine hfree k ok hk hki ?_ hno
        by_cases hjk : j = k
        · subst hjk; exact hjun
        · rw [getD_set_ne true hjk] at hun; exact hun
      refine wpOpIn_mono (fun a' w' h3 => ⟨h3.2.1, h3.2.2.1, fun w'' hb => ?_⟩) h2
      refine ih (listed.setIfInBounds j true) a' w'' hfree' (ready_mono hr (Ne.symm hji)) h3.1 (hCb _ _ h3.2.1 hb) fun w3 hb3 => ?_
      rw [Array.setIfInBounds_comm _ _ hji]
      exact h3.2.2.2 w3 (hb.trans' hb3)
theorem AnyK.take1 {i : Nat} {oi : Oper} {v : Value} (h1b : ∀ w w', C1 w → Bel w w' → C1 w') (h1C : ∀ w, C1 w → C w) (hi : ops[i]? = some oi) (hsd : noSD ops = true)
    (hN : ∀ j oj, N.contains j = true → ops[j]? = some oj → ∃ n, reach ops i n j = true) :
    ∀ (fuel : Nat) (listed : Array Bool) (a : Act) (w : World), Closed ops listed →
      (∀ j oj, ops[j]? = some oj → j ≠ i → listed.getD j true = false → (∀ e ∈ oj.after, Region.binds .any e = true → e.on ≠ i) → oi.apart ops oj = true) →
      i ∈ Region.ready .any ops listed → YieldsC X ops C1 oi v a → C1 w →
      (∀ w', Bel w w' → AnyK X ops p C C1 N fuel (listed.setIfInBounds i true) (a.put oi.dst v) w') → AnyK X ops p C C1 N (fuel + 1) listed a w := by
  intro fuel
  induction fuel with
  | zero =>
    intro listed a w _ _ hr hy hC H
    refine ⟨fun h => (by rw [h] at hr; cases hr), fun j hj => ?_⟩
    by_cases hji : j = i
    · subst hji
      exact hy.wpOp hi (noSD_sel hsd hi).2 hC fun w' hb => ⟨h1C _ (h1b w w' hC hb), fun _ h => h1b _ _ h hb, fun w'' hb' => H w'' (hb.trans' hb')⟩
    · have := ready_mono hj hji
      rw [(H w (Bel.refl _)).1] at this
      cases this
  | succ fuel ih =>
    intro listed a w hcl hfree hr hy hC H
    refine ⟨fun h => (by rw [h] at hr; cases hr), fun j hj => ?_⟩
    by_cases hji : j = i
    · subst hji
      exact hy.wpOp hi (noSD_sel hsd hi).2 hC fun w' hb => ⟨h1C _ (h1b w w' hC hb), fun _ h => h1b _ _ h hb, fun w'' hb' => H w'' (hb.trans' hb')⟩
    · have h1 := (H w (Bel.refl _)).2 j (ready_mono hj hji)
      obtain ⟨hjun, oj, hoj, hall⟩ := mem_ready.1 hj
      have hnot : ∀ e ∈ oj.after, Region.binds .any e = true → e.on ≠ i := fun e he hb heq => by
        have h1 := hall e he hb
        have h0 := (mem_ready.1 hr).1
        rw [heq] at h1
        rcases Nat.lt_or_ge i listed.size with h' | h'
        · simp [h'] at h0 h1; rw [h0] at h1; cases h1
        · simp [Array.getElem?_eq_none h'] at h1
      have hjN : N.contains j = false := by
        cases hc : N.contains j with
        | false => rfl
        | true =>
          obtain ⟨n, hn⟩ := hN j oj hc hoj
          have h8 := hcl.reach i n j oj hoj (fun e he hb => getD_up (hall e he hb)) hn
          have h9 := (mem_ready.1 hr).1
          rw [h8] at h9; cases h9
      have h2 := wpOpIn_putC hoj (hfree j oj hoj hji hjun hnot) (noSD_sel hsd hi).1 (noSD_sel hsd hoj).1 (noSD_sel hsd hoj).2 hy h1
      have hfree' : ∀ k ok, ops[k]? = some ok → k ≠ i → (listed.setIfInBounds j true).getD k true = false →
          (∀ e ∈ ok.after, Region.binds .any e = true → e.on ≠ i) → oi.apart ops ok = true := fun k ok hk hki hun hno => by
        refine hfree k ok hk hki ?_ hno
        by_cases hjk : j = k
        · subst hjk; exact hjun
        · rw [getD_set_ne true hjk] at hun; exact hun
      refine wpOpIn_mono (fun a' w' h3 => ⟨h3.2.1, h3.2.2.1, fun w'' hb => ?_⟩) h2
      refine ih (listed.setIfInBounds j true) a' w'' (hcl.step hj) hfree' (ready_mono hr (Ne.symm hji)) h3.1 (h1b _ _ (h3.2.2.1 hjN hC) hb) fun w3 hb3 => ?_
      rw [Array.setIfInBounds_comm _ _ hji]
      exact h3.2.2.2 w3 (hb.trans' hb3)
def MK (X : Ctx) (ops : Array Oper) (p : Post) (C1 C : World → Prop) (N : List Nat) : List (Nat × Bool) → Act → World → Prop
  | [], a, w => p.nrm a w
  | (i, true) :: r, a, w => ∃ o v, ops[i]? = some o ∧ YieldsC X ops C o v a ∧ ∀ w', Bel w w' → MK X ops p C1 C N r (a.put o.dst v) w'
  | (i, false) :: r, a, w => wpOpIn (fen X.ro) 0 X.P ops p.toQ i (fun a' w' => C w' ∧ (N.contains i = false → C1 w → C1 w') ∧ ∀ w'', Bel w' w'' → MK X ops p C1 C N r a' w'') a w
theorem MK.anyK (h1b : ∀ w w', C1 w → Bel w w' → C1 w') (hCb : ∀ w w', C w → Bel w w' → C w') (hsd : noSD ops = true) : ∀ (l : List (Nat × Bool)) (listed : Array Bool) (a : Act) (w : World), orderB ops l listed = true → C w → MK X ops p C1 C N l a w →
    AnyK X ops p C C1 N l.length listed a w
  | [], listed, a, w, hB, _, h => ⟨by simpa [orderB] using hB, h⟩
  | (i, true) :: r, listed, a, w, hB, hC, h => by
    simp only [orderB, cond_true, Bool.and_eq_true, List.contains_iff_mem] at hB
    obtain ⟨⟨h1, h2⟩, h3⟩ := hB
    obtain ⟨o, v, ho, hy, hk⟩ := h
    exact AnyK.take h1b hCb ho hsd r.length listed a w (Region.free_spec ho h2) h1 hy hC fun w' hb => MK.anyK h1b hCb hsd r _ _ w' h3 (hCb w w' hC hb) (hk w' hb)
  | (i, false) :: r, listed, a, w, hB, hC, h => by
    simp only [orderB, cond_false, Bool.and_eq_true, beq_iff_eq] at hB
    obtain ⟨h1, h3⟩ := hB
    refine ⟨fun e => (by rw [h1] at e; cases e), fun j hj => ?_⟩
    rw [h1, List.mem_singleton] at hj
    subst hj
    exact wpOpIn_mono (fun a' w' hk => ⟨hk.1, hk.2.1, fun w'' hb => MK.anyK h1b hCb hsd r _ _ w'' h3 (hCb _ _ hk.1 hb) (hk.2.2 w'' hb)⟩) h
def MY (X : Ctx) (ops : Array Oper) (p : Post) (C1 C : World → Prop) (N : List Nat) (r : List (Nat × Bool)) : List (Nat × Bool) → Act → World → Prop
  | [], a, w => MK X ops p C1 C N r a w
  | (i, true) :: es, a, w => ∃ o v, ops[i]? = some o ∧ YieldsC X ops C1 o v a ∧ ∀ w', Bel w w' → MY X ops p C1 C N r es (a.put o.dst v) w'
  | (i, false) :: es, a, w => ∃ o v, ops[i]? = some o ∧ YieldsC X ops C o v a ∧ ∀ w', Bel w w' → MY X ops p C1 C N r es (a.put o.dst v) w'
theorem MY.anyK (r : List (Nat × Bool)) (h1b : ∀ w w', C1 w → Bel w w' → C1 w') (h1C : ∀ w, C1 w → C w) (hCb : ∀ w w', C w → Bel w w' → C w') (hsd : noSD ops = true) :
    ∀ (es : List (Nat × Bool)) (listed : Array Bool) (a : Act) (w : World), Closed ops listed → orderE ops N r es listed = true → C1 w → MY X ops p C1 C N r es a w → AnyK X ops p C C1 N (es.length + r.length) listed a w
  | [], listed, a, w, _, hB, hC, h => by
    simp only [List.length_nil, Nat.zero_add]
    exact MK.anyK h1b hCb hsd r listed a w hB (h1C w hC) h
  | (i, true) :: es, listed, a, w, hcl, hB, hC, h => by
    simp only [orderE, Bool.and_eq_true, List.contains_iff_mem, Bool.not_true, Bool.false_or] at hB
    obtain ⟨⟨⟨h1, h2⟩, h3⟩, h4⟩ := hB
    obtain ⟨o, v, ho, hy, hk⟩ := h
    rw [show ((i, true) :: es).length + r.length = (es.length + r.length) + 1 from by simp only [List.length_cons]; omega]
    exact AnyK.take1 h1b h1C ho hsd (waitsFor_spec h3) _ listed a w hcl (Region.free_spec ho h2) h1 hy hC fun w' hb => MY.anyK r h1b h1C hCb hsd es _ _ w' (hcl.step h1) h4 (h1b w w' hC hb) (hk w' hb)
  | (i, false) :: es, listed, a, w, hcl, hB, hC, h => by
    simp only [orderE, Bool.and_eq_true, List.contains_iff_mem] at hB
    obtain ⟨⟨⟨h1, h2⟩, _⟩, h4⟩ := hB
    obtain ⟨o, v, ho, hy, hk⟩ := h
    rw [show ((i, false) :: es).length + r.length = (es.length + r.length) + 1 from by simp only [List.length_cons]; omega]
    exact AnyK.take h1b hCb ho hsd _ listed a w (Region.free_spec ho h2) h1 hy (h1C w hC) fun w' hb => MY.anyK r h1b h1C hCb hsd es _ _ w' (hcl.step h1) h4 (h1b w w' hC hb) (hk w' hb)
end
def WYE (X : Ctx) (ops : Array Oper) (p : Post) (ps : List (Nat × Nat × Value)) (Hq : Heap) (N : List Nat) (r es : List (Nat × Bool)) (E : Env) (H : Heap) : Prop := ∀ a w, AE X E a → HW X.H0 X.w0 H w → MY X ops p (CX X ps Hq) (fun w => HW X.H0 X.w0 Hq w) N r es a w
def WY (X : Ctx) (ops : Array Oper) (p : Post) (ps : List (Nat × Nat × Value)) (Hq : Heap) (N : List Nat) (r : List (Nat × Bool)) (E : Env) (H : Heap) : Prop := ∀ a w, AE X E a → HW X.H0 X.w0 H w → MK X ops p (CX X ps Hq) (fun w => HW X.H0 X.w0 Hq w) N r a w
section
variable {X : Ctx} {ops : Array Oper} {p : Post} {Hq : Heap} {E : Env} {H F : Heap} {r es : List (Nat × Bool)} {i : Nat} {o : Oper} {ps : List (Nat × Nat × Value)} {N : List Nat}
theorem WC_drawY [NoPan p] {id : Nat} {l : List Oper} (xs : Heap) (ps : List (Nat × Nat × Value)) (N : List Nat) (es ord : List (Nat × Bool)) (hm : X.P.follows .mixedOrders = true) (hsd : noSD l.toArray = true) (hlen : es.length + ord.length = l.length)
    (hB : orderE l.toArray N ord es (Array.replicate l.length false) = true) (hq : Pulls xs H Hq) (hp : PtH H ps) (h : WYE X l.toArray p ps Hq N ord es E H) : WC X (.region id l.toArray true) p E H := by
  intro a w ha hw
  refine wpIn_region_any hm ?_
  have hb : Bel w { w with drawn := w.drawn + 1 } := Bel.drew' w
  have hw1 := hw.bel hb
  have h1 := MY.anyK (X := X) (p := p) (N := N) (C1 := CX X ps Hq) (C := fun w => HW X.H0 X.w0 Hq w) ord (fun _ _ h b => ⟨h.1.bel b, h.2.bel b⟩) (fun _ h => h.1) (fun _ _ h b => h.bel b) hsd es _ a _ (closed0 l) hB ⟨pulls_rest hq hw1, hp.here hw1⟩ (h a _ ha hw1)
  rw [hlen] at h1
  have := AnyK.sound _ _ _ _ h1
  simpa using this
theorem WYE_rest (h : WY X ops p ps Hq N r E H) : WYE X ops p ps Hq N r [] E H := h
theorem WYE_early {d : Nat} {t : TypeId} {x : Operand} {b j : Nat} {v : Value} (ho : ops[i]? = some o) (hg : wantedE ops E o = some true) (hd : o.dst = some d) (hN : Nat.blt d X.N = true) (hop : o.op = .load t x) (ht : Sc X.P t) (hx : ev E x = some (.pointer (some ⟨b, j, none⟩))) (hm : (b, j, v) ∈ ps)
    (k : WYE X ops p ps Hq N r es ((d, v) :: E) H) : WYE X ops p ps Hq N r ((i, true) :: es) E H := fun a w ha hw =>
  ⟨o, v, ho, .inl ⟨wantedE_spec ha hg, fun w' hw' => .inl (by
    obtain ⟨cs, e, h1, h2⟩ := hw'.2 _ hm
    have hc : w'.cell? ⟨b, j, none⟩ = some v := by simp only [World.cell?, h1, cl]; simpa using h2
    simp [execOp, hop, ha.eval hx, Instr.loadAt, Instr.sureAddr, loadVar, (ht w').1, hc])⟩, fun w' hb => k _ _ (by rw [hd]; exact ha.put d v hN) (hw.bel hb)⟩
theorem WYE_val {d : Nat} {v : Value} (ho : ops[i]? = some o) (hg : wantedE ops E o = some true) (hd : o.dst = some d) (hN : Nat.blt d X.N = true) (h : Runs X o E Hq v)
    (k : WYE X ops p ps Hq N r es ((d, v) :: E) H) : WYE X ops p ps Hq N r ((i, false) :: es) E H := fun a w ha hw =>
  ⟨o, v, ho, .inl ⟨wantedE_spec ha hg, fun w' hw' => .inl (h.2 a w' ha hw')⟩, fun w' hb => k _ _ (by rw [hd]; exact ha.put d v hN) (hw.bel hb)⟩
theorem WY_nil (h : WQ X p.nrm E H) : WY X ops p ps Hq N [] E H := h
theorem WY_val {d : Nat} {v : Value} (ho : ops[i]? = some o) (hg : wantedE ops E o = some true) (hd : o.dst = some d) (hN : Nat.blt d X.N = true) (h : Runs X o E Hq v)
    (k : WY X ops p ps Hq N r ((d, v) :: E) H) : WY X ops p ps Hq N ((i, true) :: r) E H := fun a w ha hw =>
  ⟨o, v, ho, .inl ⟨wantedE_spec ha hg, fun w' hw' => .inl (h.2 a w' ha hw')⟩, fun w' hb => k _ _ (by rw [hd]; exact ha.put d v hN) (hw.bel hb)⟩
theorem WY_do {d : Nat} {R : Value → Heap → Prop} (ho : ops[i]? = some o) (hg : wantedE ops E o = some true) (hd : o.dst = some d) (hN : Nat.blt d X.N = true) (h : Does X o E H R)
    (k : ∀ v H', R v H' → (∃ F, Pulls Hq H' F) ∧ (N.contains i = true ∨ PtH H' ps) ∧ WY X ops p ps Hq N r ((d, v) :: E) H') : WY X ops p ps Hq N ((i, false) :: r) E H := by
  intro a w ha hw
  simp only [MK, wpOpIn, ho, wantedE_spec ha hg, if_true]
  refine h a w ha hw _ _ fun v H' w' hr hw' => ?_
  obtain ⟨⟨F, hq⟩, hs, k2⟩ := k v H' hr
  refine ⟨(hw'.perm hq.perm).left, fun hf _ => ?_, fun w'' hb => k2 _ _ (by rw [hd]; exact ha.put d v hN) (hw'.bel hb)⟩
  rcases hs with hs | hs
  · rw [hf] at hs; cases hs
  · exact ⟨(hw'.perm hq.perm).left, hs.here hw'⟩
theorem WY_do0 {R : Value → Heap → Prop} (ho : ops[i]? = some o) (hg : wantedE ops E o = some true) (hd : o.dst = none) (h : Does X o E H R)
    (k : ∀ v H', R v H' → (∃ F, Pulls Hq H' F) ∧ (N.contains i = true ∨ PtH H' ps) ∧ WY X ops p ps Hq N r E H') : WY X ops p ps Hq N ((i, false) :: r) E H := by
  intro a w ha hw
  simp only [MK, wpOpIn, ho, wantedE_spec ha hg, if_true]
  refine h a w ha hw _ _ fun v H' w' hr hw' => ?_
  obtain ⟨⟨F, hq⟩, hs, k2⟩ := k v H' hr
  refine ⟨(hw'.perm hq.perm).left, fun hf _ => ?_, fun w'' hb => k2 _ _ (by rw [hd]; exact ha.put0 v) (hw'.bel hb)⟩
  rcases hs with hs | hs
  · rw [hf] at hs; cases hs
  · exact ⟨(hw'.perm hq.perm).left, hs.here hw'⟩
end
end Go.Proofs.YtelmlkdibcdebaaGreat
end
namespace Go.Proofs.YtelmlkdibcdebaaGreat
section
section
variable {X : Ctx} {E : Env} {H : Heap} {o : Oper} {ob : Option Nat} {b : Nat}
theorem R_idxO {t u : TypeId} {x y : Operand} {n c sz i : Nat} {kk : IntKind} (hob : ob = some b) (ho : o.op = .indexAddr t x y) (hu : X.P.underlying t = some (.slice u)) (hs : ∀ w, (sizeOf u).run X.P w = .ok sz w)
    (hx : ev E x = some (slV ob n c)) (hy : ev E y = some (.int kk (i : Int))) (hi : i < n) : Runs X o E H (.pointer (some ⟨b, 0 + i * sz, none⟩)) := by
  subst hob
  exact R_indexAddrN ho hu hs hx hy hi
theorem R_loadO {t : TypeId} {x : Operand} {k : Nat} {cs : List Value} {e : TypeId} {v : Value} (hob : ob = some b) (ho : o.op = .load t x) (ht : Sc X.P t) (hx : ev E x = some (.pointer (some ⟨b, k, none⟩)))
    (hm : (⟨ob, cl cs e⟩ : Ent) ∈ H) (hv : cs[k]? = some v) : Runs X o E H v := by
  subst hob
  exact R_load ho ht hx hm hv
theorem R_loadAO {t : TypeId} {x : Operand} {k n : Nat} {cs : List Value} {e : TypeId} {vs : List Value} (hob : ob = some b) (ho : o.op = .load t x) (ht : Ag X.P t n) (hx : ev E x = some (.pointer (some ⟨b, k, none⟩)))
    (hm : (⟨ob, cl cs e⟩ : Ent) ∈ H) (hn : vs.length = n) (hv : At cs k vs) : Runs X o E H (.agg vs.toArray) := by
  subst hob
  exact R_loadA ho ht hx hm hn hv
end
end
section
theorem followsMixed : Tryz.prog.follows .mixedOrders = true := by kernel_rfl
theorem ag28 : Ag Tryz.prog 28 7 := fun w => ⟨Tryz.isAgg28 w, Tryz.sizeOf28 w⟩
theorem ag30 : Ag Tryz.prog 30 14 := fun w => ⟨Tryz.isAgg30 w, Tryz.sizeOf30 w⟩
theorem ag43 : Ag Tryz.prog 43 6 := fun w => ⟨Tryz.isAgg43 w, Tryz.sizeOf43 w⟩
theorem ag63 : Ag Tryz.prog 63 5 := fun w => ⟨Tryz.isAgg63 w, Tryz.sizeOf63 w⟩
theorem ag125 : Ag Tryz.prog 125 5 := fun w => ⟨Tryz.isAgg125 w, Tryz.sizeOf125 w⟩
theorem ag132 : Ag Tryz.prog 132 3 := fun w => ⟨Tryz.isAgg132 w, Tryz.sizeOf132 w⟩
theorem ag133 : Ag Tryz.prog 133 192 := fun w => ⟨Tryz.isAgg133 w, Tryz.sizeOf133 w⟩
theorem ag138 : Ag Tryz.prog 138 2 := fun w => ⟨Tryz.isAgg138 w, Tryz.sizeOf138 w⟩
theorem ag143 : Ag Tryz.prog 143 3 := fun w => ⟨Tryz.isAgg143 w, Tryz.sizeOf143 w⟩
theorem ag187 : Ag Tryz.prog 187 5 := fun w => ⟨Tryz.isAgg187 w, Tryz.sizeOf187 w⟩
theorem ag232 : Ag Tryz.prog 232 3 := fun w => ⟨Tryz.isAgg232 w, Tryz.sizeOf232 w⟩
theorem fa28_0 : FldAt Tryz.prog 28 0 0 := FldAt.mk Tryz.underlying28 rfl rfl Tryz.sizeOf25 (by decide)
theorem fa28_1 : FldAt Tryz.prog 28 1 1 := FldAt.mk Tryz.underlying28 rfl rfl Tryz.sizeOf25 (by decide)
theorem fa28_2 : FldAt Tryz.prog 28 2 2 := FldAt.mk Tryz.underlying28 rfl rfl Tryz.sizeOf3 (by decide)
theorem fa28_3 : FldAt Tryz.prog 28 3 3 := FldAt.mk Tryz.underlying28 rfl rfl Tryz.sizeOf3 (by decide)
theorem fa28_4 : FldAt Tryz.prog 28 4 4 := FldAt.mk Tryz.underlying28 rfl rfl Tryz.sizeOf3 (by decide)
theorem fa28_5 : FldAt Tryz.prog 28 5 5 := FldAt.mk Tryz.underlying28 rfl rfl Tryz.sizeOf3 (by decide)
theorem fa28_6 : FldAt Tryz.prog 28 6 6 := FldAt.mk Tryz.underlying28 rfl rfl Tryz.sizeOf26 (by decide)
theorem fa30_0 : FldAt Tryz.prog 30 0 0 := FldAt.mk Tryz.underlying30 rfl rfl Tryz.sizeOf22 (by decide)
theorem fa30_1 : FldAt Tryz.prog 30 1 1 := FldAt.mk Tryz.underlying30 rfl rfl Tryz.sizeOf23 (by decide)
theorem fa30_2 : FldAt Tryz.prog 30 2 2 := FldAt.mk Tryz.underlying30 rfl rfl Tryz.sizeOf3 (by decide)
theorem fa30_3 : FldAt Tryz.prog 30 3 3 := FldAt.mk Tryz.underlying30 rfl rfl Tryz.sizeOf25 (by decide)
theorem fa30_4 : FldAt Tryz.prog 30 4 4 := FldAt.mk Tryz.underlying30 rfl rfl Tryz.sizeOf3 (by decide)
theorem fa30_5 : FldAt Tryz.prog 30 5 5 := FldAt.mk Tryz.underlying30 rfl rfl Tryz.sizeOf3 (by decide)
theorem fa30_6 : FldAt Tryz.prog 30 6 6 := FldAt.mk Tryz.underlying30 rfl rfl Tryz.sizeOf25 (by decide)
theorem fa30_7 : FldAt Tryz.prog 30 7 7 := FldAt.mk Tryz.underlying30 rfl rfl Tryz.sizeOf28 (by decide)
theorem fa43_0 : FldAt Tryz.prog 43 0 0 := FldAt.mk Tryz.underlying43 rfl rfl Tryz.sizeOf3 (by decide)
theorem fa43_1 : FldAt Tryz.prog 43 1 1 := FldAt.mk Tryz.underlying43 rfl rfl Tryz.sizeOf3 (by decide)
theorem fa43_2 : FldAt Tryz.prog 43 2 2 := FldAt.mk Tryz.underlying43 rfl rfl Tryz.sizeOf25 (by decide)
theorem fa43_3 : FldAt Tryz.prog 43 3 3 := FldAt.mk Tryz.underlying43 rfl rfl Tryz.sizeOf25 (by decide)
theorem fa43_4 : FldAt Tryz.prog 43 4 4 := FldAt.mk Tryz.underlying43 rfl rfl Tryz.sizeOf9 (by decide)
theorem fa43_5 : FldAt Tryz.prog 43 5 5 := FldAt.mk Tryz.underlying43 rfl rfl Tryz.sizeOf4 (by decide)
theorem fa63_0 : FldAt Tryz.prog 63 0 0 := FldAt.mk Tryz.underlying63 rfl rfl Tryz.sizeOf61 (by decide)
theorem fa63_1 : FldAt Tryz.prog 63 1 1 := FldAt.mk Tryz.underlying63 rfl rfl Tryz.sizeOf3 (by decide)
theorem fa68_0 : FldAt Tryz.prog 68 0 0 := FldAt.mk Tryz.underlying68 rfl rfl Tryz.sizeOf55 (by decide)
theorem fa68_1 : FldAt Tryz.prog 68 1 1 := FldAt.mk Tryz.underlying68 rfl rfl Tryz.sizeOf56 (by decide)
theorem fa68_2 : FldAt Tryz.prog 68 2 2 := FldAt.mk Tryz.underlying68 rfl rfl Tryz.sizeOf28 (by decide)
theorem fa68_3 : FldAt Tryz.prog 68 3 9 := FldAt.mk Tryz.underlying68 rfl rfl Tryz.sizeOf25 (by decide)
theorem fa68_4 : FldAt Tryz.prog 68 4 10 := FldAt.mk Tryz.underlying68 rfl rfl Tryz.sizeOf66 (by decide)
theorem fa68_5 : FldAt Tryz.prog 68 5 11 := FldAt.mk Tryz.underlying68 rfl rfl Tryz.sizeOf58 (by decide)
theorem fa90_0 : FldAt Tryz.prog 90 0 0 := FldAt.mk Tryz.underlying90 rfl rfl Tryz.sizeOf3 (by decide)
theorem fa90_1 : FldAt Tryz.prog 90 1 1 := FldAt.mk Tryz.underlying90 rfl rfl Tryz.sizeOf9 (by decide)
theorem fa90_2 : FldAt Tryz.prog 90 2 2 := FldAt.mk Tryz.underlying90 rfl rfl Tryz.sizeOf25 (by decide)
theorem fa90_3 : FldAt Tryz.prog 90 3 3 := FldAt.mk Tryz.underlying90 rfl rfl Tryz.sizeOf3 (by decide)
theorem fa90_4 : FldAt Tryz.prog 90 4 4 := FldAt.mk Tryz.underlying90 rfl rfl Tryz.sizeOf49 (by decide)
theorem fa90_5 : FldAt Tryz.prog 90 5 5 := FldAt.mk Tryz.underlying90 rfl rfl Tryz.sizeOf25 (by decide)
theorem fa90_6 : FldAt Tryz.prog 90 6 6 := FldAt.mk Tryz.underlying90 rfl rfl Tryz.sizeOf3 (by decide)
theorem fa90_7 : FldAt Tryz.prog 90 7 7 := FldAt.mk Tryz.underlying90 rfl rfl Tryz.sizeOf3 (by decide)
theorem fa90_8 : FldAt Tryz.prog 90 8 8 := FldAt.mk Tryz.underlying90 rfl rfl Tryz.sizeOf3 (by decide)
theorem fa120_0 : FldAt Tryz.prog 120 0 0 := FldAt.mk Tryz.underlying120 rfl rfl Tryz.sizeOf114 (by decide)
theorem fa120_1 : FldAt Tryz.prog 120 1 1 := FldAt.mk Tryz.underlying120 rfl rfl Tryz.sizeOf118 (by decide)
theorem fa120_2 : FldAt Tryz.prog 120 2 2 := FldAt.mk Tryz.underlying120 rfl rfl Tryz.sizeOf3 (by decide)
theorem fa120_3 : FldAt Tryz.prog 120 3 3 := FldAt.mk Tryz.underlying120 rfl rfl Tryz.sizeOf3 (by decide)
theorem fa120_4 : FldAt Tryz.prog 120 4 4 := FldAt.mk Tryz.underlying120 rfl rfl Tryz.sizeOf117 (by decide)
theorem fa120_5 : FldAt Tryz.prog 120 5 5 := FldAt.mk Tryz.underlying120 rfl rfl Tryz.sizeOf25 (by decide)
theorem fa125_0 : FldAt Tryz.prog 125 0 0 := FldAt.mk Tryz.underlying125 rfl rfl Tryz.sizeOf3 (by decide)
theorem fa125_1 : FldAt Tryz.prog 125 1 1 := FldAt.mk Tryz.underlying125 rfl rfl Tryz.sizeOf3 (by decide)
theorem fa125_2 : FldAt Tryz.prog 125 2 2 := FldAt.mk Tryz.underlying125 rfl rfl Tryz.sizeOf3 (by decide)
theorem fa125_3 : FldAt Tryz.prog 125 3 3 := FldAt.mk Tryz.underlying125 rfl rfl Tryz.sizeOf4 (by decide)
theorem fa125_4 : FldAt Tryz.prog 125 4 4 := FldAt.mk Tryz.underlying125 rfl rfl Tryz.sizeOf121 (by decide)
theorem fa132_0 : FldAt Tryz.prog 132 0 0 := FldAt.mk Tryz.underlying132 rfl rfl Tryz.sizeOf130 (by decide)
theorem fa132_1 : FldAt Tryz.prog 132 1 1 := FldAt.mk Tryz.underlying132 rfl rfl Tryz.sizeOf3 (by decide)
theorem fa132_2 : FldAt Tryz.prog 132 2 2 := FldAt.mk Tryz.underlying132 rfl rfl Tryz.sizeOf25 (by decide)
theorem fa136_0 : FldAt Tryz.prog 136 0 0 := FldAt.mk Tryz.underlying136 rfl rfl Tryz.sizeOf3 (by decide)
theorem fa136_1 : FldAt Tryz.prog 136 1 1 := FldAt.mk Tryz.underlying136 rfl rfl Tryz.sizeOf3 (by decide)
theorem fa136_2 : FldAt Tryz.prog 136 2 2 := FldAt.mk Tryz.underlying136 rfl rfl Tryz.sizeOf25 (by decide)
theorem fa136_3 : FldAt Tryz.prog 136 3 3 := FldAt.mk Tryz.underlying136 rfl rfl Tryz.sizeOf25 (by decide)
theorem fa136_4 : FldAt Tryz.prog 136 4 4 := FldAt.mk Tryz.underlying136 rfl rfl Tryz.sizeOf133 (by decide)
theorem fa136_5 : FldAt Tryz.prog 136 5 196 := FldAt.mk Tryz.underlying136 rfl rfl Tryz.sizeOf127 (by decide)
theorem fa136_6 : FldAt Tryz.prog 136 6 197 := FldAt.mk Tryz.underlying136 rfl rfl Tryz.sizeOf129 (by decide)
theorem fa136_7 : FldAt Tryz.prog 136 7 198 := FldAt.mk Tryz.underlying136 rfl rfl Tryz.sizeOf134 (by decide)
theorem fa138_0 : FldAt Tryz.prog 138 0 0 := FldAt.mk Tryz.underlying138 rfl rfl Tryz.sizeOf3 (by decide)
theorem fa138_1 : FldAt Tryz.prog 138 1 1 := FldAt.mk Tryz.underlying138 rfl rfl Tryz.sizeOf3 (by decide)
theorem fa143_0 : FldAt Tryz.prog 143 0 0 := FldAt.mk Tryz.underlying143 rfl rfl Tryz.sizeOf141 (by decide)
theorem fa143_1 : FldAt Tryz.prog 143 1 1 := FldAt.mk Tryz.underlying143 rfl rfl Tryz.sizeOf3 (by decide)
theorem fa143_2 : FldAt Tryz.prog 143 2 2 := FldAt.mk Tryz.underlying143 rfl rfl Tryz.sizeOf3 (by decide)
theorem fa151_0 : FldAt Tryz.prog 151 0 0 := FldAt.mk Tryz.underlying151 rfl rfl Tryz.sizeOf3 (by decide)
theorem fa151_1 : FldAt Tryz.prog 151 1 1 := FldAt.mk Tryz.underlying151 rfl rfl Tryz.sizeOf3 (by decide)
theorem fa168_0 : FldAt Tryz.prog 168 0 0 := FldAt.mk Tryz.underlying168 rfl rfl Tryz.sizeOf24 (by decide)
theorem fa168_1 : FldAt Tryz.prog 168 1 1 := FldAt.mk Tryz.underlying168 rfl rfl Tryz.sizeOf25 (by decide)
theorem fa187_0 : FldAt Tryz.prog 187 0 0 := FldAt.mk Tryz.underlying187 rfl rfl Tryz.sizeOf185 (by decide)
theorem fa187_1 : FldAt Tryz.prog 187 1 1 := FldAt.mk Tryz.underlying187 rfl rfl Tryz.sizeOf25 (by decide)
theorem fa187_2 : FldAt Tryz.prog 187 2 2 := FldAt.mk Tryz.underlying187 rfl rfl Tryz.sizeOf3 (by decide)
theorem fa187_3 : FldAt Tryz.prog 187 3 3 := FldAt.mk Tryz.underlying187 rfl rfl Tryz.sizeOf3 (by decide)
theorem fa187_4 : FldAt Tryz.prog 187 4 4 := FldAt.mk Tryz.underlying187 rfl rfl Tryz.sizeOf3 (by decide)
theorem fa189_0 : FldAt Tryz.prog 189 0 0 := FldAt.mk Tryz.underlying189 rfl rfl Tryz.sizeOf3 (by decide)
theorem fa189_1 : FldAt Tryz.prog 189 1 1 := FldAt.mk Tryz.underlying189 rfl rfl Tryz.sizeOf3 (by decide)
theorem fa189_2 : FldAt Tryz.prog 189 2 2 := FldAt.mk Tryz.underlying189 rfl rfl Tryz.sizeOf25 (by decide)
theorem fa189_3 : FldAt Tryz.prog 189 3 3 := FldAt.mk Tryz.underlying189 rfl rfl Tryz.sizeOf25 (by decide)
theorem fa189_4 : FldAt Tryz.prog 189 4 4 := FldAt.mk Tryz.underlying189 rfl rfl Tryz.sizeOf3 (by decide)
theorem fa189_5 : FldAt Tryz.prog 189 5 5 := FldAt.mk Tryz.underlying189 rfl rfl Tryz.sizeOf187 (by decide)
theorem fa192_0 : FldAt Tryz.prog 192 0 0 := FldAt.mk Tryz.underlying192 rfl rfl Tryz.sizeOf24 (by decide)
theorem fa192_1 : FldAt Tryz.prog 192 1 1 := FldAt.mk Tryz.underlying192 rfl rfl Tryz.sizeOf24 (by decide)
theorem fa192_2 : FldAt Tryz.prog 192 2 2 := FldAt.mk Tryz.underlying192 rfl rfl Tryz.sizeOf24 (by decide)
theorem fa194_0 : FldAt Tryz.prog 194 0 0 := FldAt.mk Tryz.underlying194 rfl rfl Tryz.sizeOf192 (by decide)
theorem fa194_1 : FldAt Tryz.prog 194 1 3 := FldAt.mk Tryz.underlying194 rfl rfl Tryz.sizeOf190 (by decide)
theorem fa232_0 : FldAt Tryz.prog 232 0 0 := FldAt.mk Tryz.underlying232 rfl rfl Tryz.sizeOf3 (by decide)
theorem fa232_1 : FldAt Tryz.prog 232 1 1 := FldAt.mk Tryz.underlying232 rfl rfl Tryz.sizeOf24 (by decide)
theorem fa232_2 : FldAt Tryz.prog 232 2 2 := FldAt.mk Tryz.underlying232 rfl rfl Tryz.sizeOf24 (by decide)
theorem pl28 : Places Tryz.prog 28 [(0, 1), (1, 1), (2, 1), (3, 1), (4, 1), (5, 1), (6, 1)] := ⟨_, Tryz.underlying28, fun w => by simp [Tryz.sizeOf25, Tryz.sizeOf26, Tryz.sizeOf3]⟩
theorem pl30 : Places Tryz.prog 30 [(0, 1), (1, 1), (2, 1), (3, 1), (4, 1), (5, 1), (6, 1), (7, 7)] := ⟨_, Tryz.underlying30, fun w => by simp [Tryz.sizeOf22, Tryz.sizeOf23, Tryz.sizeOf25, Tryz.sizeOf28, Tryz.sizeOf3]⟩
theorem pl63 : Places Tryz.prog 63 [(0, 1), (1, 1), (2, 1), (3, 1), (4, 1)] := ⟨_, Tryz.underlying63, fun w => by simp [Tryz.sizeOf3, Tryz.sizeOf34, Tryz.sizeOf61]⟩
theorem pl68 : Places Tryz.prog 68 [(0, 1), (1, 1), (2, 7), (9, 1), (10, 1), (11, 1)] := ⟨_, Tryz.underlying68, fun w => by simp [Tryz.sizeOf25, Tryz.sizeOf28, Tryz.sizeOf55, Tryz.sizeOf56, Tryz.sizeOf58, Tryz.sizeOf66]⟩
theorem pl90 : Places Tryz.prog 90 [(0, 1), (1, 1), (2, 1), (3, 1), (4, 1), (5, 1), (6, 1), (7, 1), (8, 1)] := ⟨_, Tryz.underlying90, fun w => by simp [Tryz.sizeOf25, Tryz.sizeOf3, Tryz.sizeOf49, Tryz.sizeOf9]⟩
theorem pl120 : Places Tryz.prog 120 [(0, 1), (1, 1), (2, 1), (3, 1), (4, 1), (5, 1)] := ⟨_, Tryz.underlying120, fun w => by simp [Tryz.sizeOf114, Tryz.sizeOf117, Tryz.sizeOf118, Tryz.sizeOf25, Tryz.sizeOf3]⟩
theorem pl125 : Places Tryz.prog 125 [(0, 1), (1, 1), (2, 1), (3, 1), (4, 1)] := ⟨_, Tryz.underlying125, fun w => by simp [Tryz.sizeOf121, Tryz.sizeOf3, Tryz.sizeOf4]⟩
theorem pl132 : Places Tryz.prog 132 [(0, 1), (1, 1), (2, 1)] := ⟨_, Tryz.underlying132, fun w => by simp [Tryz.sizeOf130, Tryz.sizeOf25, Tryz.sizeOf3]⟩
theorem pl136 : Places Tryz.prog 136 [(0, 1), (1, 1), (2, 1), (3, 1), (4, 192), (196, 1), (197, 1), (198, 1)] := ⟨_, Tryz.underlying136, fun w => by simp [Tryz.sizeOf127, Tryz.sizeOf129, Tryz.sizeOf133, Tryz.sizeOf134, Tryz.sizeOf25, Tryz.sizeOf3]⟩
theorem pl138 : Places Tryz.prog 138 [(0, 1), (1, 1)] := ⟨_, Tryz.underlying138, fun w => by simp [Tryz.sizeOf3]⟩
theorem pl143 : Places Tryz.prog 143 [(0, 1), (1, 1), (2, 1)] := ⟨_, Tryz.underlying143, fun w => by simp [Tryz.sizeOf141, Tryz.sizeOf3]⟩
theorem pl151 : Places Tryz.prog 151 [(0, 1), (1, 1)] := ⟨_, Tryz.underlying151, fun w => by simp [Tryz.sizeOf3]⟩
theorem pl168 : Places Tryz.prog 168 [(0, 1), (1, 1)] := ⟨_, Tryz.underlying168, fun w => by simp [Tryz.sizeOf24, Tryz.sizeOf25]⟩
theorem pl187 : Places Tryz.prog 187 [(0, 1), (1, 1), (2, 1), (3, 1), (4, 1)] := ⟨_, Tryz.underlying187, fun w => by simp [Tryz.sizeOf185, Tryz.sizeOf25, Tryz.sizeOf3]⟩
theorem pl189 : Places Tryz.prog 189 [(0, 1), (1, 1), (2, 1), (3, 1), (4, 1), (5, 5)] := ⟨_, Tryz.underlying189, fun w => by simp [Tryz.sizeOf187, Tryz.sizeOf25, Tryz.sizeOf3]⟩
theorem pl194 : Places Tryz.prog 194 [(0, 3), (3, 1)] := ⟨_, Tryz.underlying194, fun w => by simp [Tryz.sizeOf190, Tryz.sizeOf192]⟩
theorem pl232 : Places Tryz.prog 232 [(0, 1), (1, 1), (2, 1)] := ⟨_, Tryz.underlying232, fun w => by simp [Tryz.sizeOf24, Tryz.sizeOf3]⟩
theorem sc3 : Sc Tryz.prog 3 := fun w => ⟨Tryz.isAgg3 w, Tryz.sizeOf3 w⟩
theorem sc4 : Sc Tryz.prog 4 := fun w => ⟨Tryz.isAgg4 w, Tryz.sizeOf4 w⟩
theorem sc9 : Sc Tryz.prog 9 := fun w => ⟨Tryz.isAgg9 w, Tryz.sizeOf9 w⟩
theorem sc22 : Sc Tryz.prog 22 := fun w => ⟨Tryz.isAgg22 w, Tryz.sizeOf22 w⟩
theorem sc23 : Sc Tryz.prog 23 := fun w => ⟨Tryz.isAgg23 w, Tryz.sizeOf23 w⟩
theorem sc24 : Sc Tryz.prog 24 := fun w => ⟨Tryz.isAgg24 w, Tryz.sizeOf24 w⟩
theorem sc25 : Sc Tryz.prog 25 := fun w => ⟨Tryz.isAgg25 w, Tryz.sizeOf25 w⟩
theorem sc26 : Sc Tryz.prog 26 := fun w => ⟨Tryz.isAgg26 w, Tryz.sizeOf26 w⟩
theorem sc34 : Sc Tryz.prog 34 := fun w => ⟨Tryz.isAgg34 w, Tryz.sizeOf34 w⟩
theorem sc49 : Sc Tryz.prog 49 := fun w => ⟨Tryz.isAgg49 w, Tryz.sizeOf49 w⟩
theorem sc55 : Sc Tryz.prog 55 := fun w => ⟨Tryz.isAgg55 w, Tryz.sizeOf55 w⟩
theorem sc56 : Sc Tryz.prog 56 := fun w => ⟨Tryz.isAgg56 w, Tryz.sizeOf56 w⟩
theorem sc58 : Sc Tryz.prog 58 := fun w => ⟨Tryz.isAgg58 w, Tryz.sizeOf58 w⟩
theorem sc61 : Sc Tryz.prog 61 := fun w => ⟨Tryz.isAgg61 w, Tryz.sizeOf61 w⟩
theorem sc66 : Sc Tryz.prog 66 := fun w => ⟨Tryz.isAgg66 w, Tryz.sizeOf66 w⟩
theorem sc79 : Sc Tryz.prog 79 := fun w => ⟨Tryz.isAgg79 w, Tryz.sizeOf79 w⟩
theorem sc87 : Sc Tryz.prog 87 := fun w => ⟨Tryz.isAgg87 w, Tryz.sizeOf87 w⟩
theorem sc97 : Sc Tryz.prog 97 := fun w => ⟨Tryz.isAgg97 w, Tryz.sizeOf97 w⟩
theorem sc114 : Sc Tryz.prog 114 := fun w => ⟨Tryz.isAgg114 w, Tryz.sizeOf114 w⟩
theorem sc117 : Sc Tryz.prog 117 := fun w => ⟨Tryz.isAgg117 w, Tryz.sizeOf117 w⟩
theorem sc118 : Sc Tryz.prog 118 := fun w => ⟨Tryz.isAgg118 w, Tryz.sizeOf118 w⟩
theorem sc121 : Sc Tryz.prog 121 := fun w => ⟨Tryz.isAgg121 w, Tryz.sizeOf121 w⟩
theorem sc127 : Sc Tryz.prog 127 := fun w => ⟨Tryz.isAgg127 w, Tryz.sizeOf127 w⟩
theorem sc129 : Sc Tryz.prog 129 := fun w => ⟨Tryz.isAgg129 w, Tryz.sizeOf129 w⟩
theorem sc130 : Sc Tryz.prog 130 := fun w => ⟨Tryz.isAgg130 w, Tryz.sizeOf130 w⟩
theorem sc134 : Sc Tryz.prog 134 := fun w => ⟨Tryz.isAgg134 w, Tryz.sizeOf134 w⟩
theorem sc141 : Sc Tryz.prog 141 := fun w => ⟨Tryz.isAgg141 w, Tryz.sizeOf141 w⟩
theorem sc185 : Sc Tryz.prog 185 := fun w => ⟨Tryz.isAgg185 w, Tryz.sizeOf185 w⟩
theorem sc190 : Sc Tryz.prog 190 := fun w => ⟨Tryz.isAgg190 w, Tryz.sizeOf190 w⟩
set_option linter.unusedSimpArgs false in
theorem eqin63_10000 (a0 b0 : Int) (a1 b1 : Int) (a2 b2 : Int) (a3 b3 : Int) (a4 b4 : Int) (w : World) : (Op.equalIn 10000 63 (.agg #[.int .i64 a0, .int .i64 a1, .int .i64 a2, .int .i64 a3, .int .i64 a4]) (.agg #[.int .i64 b0, .int .i64 b1, .int .i64 b2, .int .i64 b3, .int .i64 b4])).run Tryz.prog w = .ok (decide (a0 = b0 ∧ a1 = b1 ∧ a2 = b2 ∧ a3 = b3 ∧ a4 = b4)) w := by
 rw [run_equalIn_struct w 9999 63 _ _ (by simp [Program.fieldsOf, Tryz.underlying63]) Tryz.stoodInHeld63]
 by_cases h0 : a0 = b0 <;> by_cases h1 : a1 = b1 <;> by_cases h2 : a2 = b2 <;> by_cases h3 : a3 = b3 <;> by_cases h4 : a4 = b4 <;> simp [Program.fieldsOf, Tryz.underlying63, Op.eqFields, part, Tryz.isAgg3, Tryz.isAgg34, Tryz.isAgg61, run_equalIn_int w 9998 3 .i64 .i64 _ _ Tryz.underlying3, run_equalIn_int w 9998 34 .i64 .i64 _ _ Tryz.underlying34, run_equalIn_int w 9998 61 .i64 .i64 _ _ Tryz.underlying61, h0, h1, h2, h3, h4]
theorem seq63 (a0 b0 : Int) (a1 b1 : Int) (a2 b2 : Int) (a3 b3 : Int) (a4 b4 : Int) (w : World) : (binOp .eql 63 (.agg #[.int .i64 a0, .int .i64 a1, .int .i64 a2, .int .i64 a3, .int .i64 a4]) (.agg #[.int .i64 b0, .int .i64 b1, .int .i64 b2, .int .i64 b3, .int .i64 b4])).run Tryz.prog w = .ok (.bool (decide (a0 = b0 ∧ a1 = b1 ∧ a2 = b2 ∧ a3 = b3 ∧ a4 = b4))) w := by
 rw [run_eql_struct, eqin63_10000]
 rfl
theorem R_seq63 {X : Ctx} {E : Env} {H : Heap} {o : Oper} {x y : Operand} {t' : TypeId} {a0 b0 : Int} {a1 b1 : Int} {a2 b2 : Int} {a3 b3 : Int} {a4 b4 : Int} (hP : X.P = Tryz.prog) (ho : o.op = .binOp .eql 63 x y t') (hx : ev E x = some (.agg #[.int .i64 a0, .int .i64 a1, .int .i64 a2, .int .i64 a3, .int .i64 a4])) (hy : ev E y = some (.agg #[.int .i64 b0, .int .i64 b1, .int .i64 b2, .int .i64 b3, .int .i64 b4])) : Runs X o E H (.bool (decide (a0 = b0 ∧ a1 = b1 ∧ a2 = b2 ∧ a3 = b3 ∧ a4 = b4))) :=
 R_bin ho hx hy (fun w => by rw [hP]; exact run_eqGuard_agg w _ 63 x y _ _ Tryz.eqGuardType63) (fun w => by rw [hP]; exact seq63 a0 b0 a1 b1 a2 b2 a3 b3 a4 b4 w)
theorem inf23 : Tryz.prog.info? 3 = some Tryz.t3 := by kernel_rfl
theorem si23 : SI Tryz.prog 23 3 1 8 [.int .i64 0] := ⟨Tryz.underlying23, Tryz.t3, _, inf23, rfl, rfl, rfl, rfl, rfl, by decide⟩
theorem inf56 : Tryz.prog.info? 79 = some Tryz.t79 := by kernel_rfl
theorem si56 : SI Tryz.prog 56 79 1 8 [.pointer none] := ⟨Tryz.underlying56, Tryz.t79, _, inf56, rfl, rfl, rfl, rfl, rfl, by decide⟩
theorem inf58 : Tryz.prog.info? 63 = some Tryz.t63 := by kernel_rfl
theorem si58 : SI Tryz.prog 58 63 5 40 [.int .i64 0, .int .i64 0, .int .i64 0, .int .i64 0, .int .i64 0] := ⟨Tryz.underlying58, Tryz.t63, _, inf58, rfl, rfl, rfl, rfl, rfl, by decide⟩
theorem inf97 : Tryz.prog.info? 87 = some Tryz.t87 := by kernel_rfl
theorem si97 : SI Tryz.prog 97 87 1 8 [.pointer none] := ⟨Tryz.underlying97, Tryz.t87, _, inf97, rfl, rfl, rfl, rfl, rfl, by decide⟩
theorem inf118 : Tryz.prog.info? 125 = some Tryz.t125 := by kernel_rfl
theorem si118 : SI Tryz.prog 118 125 5 40 [.int .i64 0, .int .i64 0, .int .i64 0, .bool false, .pointer none] := ⟨Tryz.underlying118, Tryz.t125, _, inf118, rfl, rfl, rfl, rfl, rfl, by decide⟩
theorem inf134 : Tryz.prog.info? 143 = some Tryz.t143 := by kernel_rfl
theorem si134 : SI Tryz.prog 134 143 3 24 [.int .i64 0, .int .i64 0, .int .i64 0] := ⟨Tryz.underlying134, Tryz.t143, _, inf134, rfl, rfl, rfl, rfl, rfl, by decide⟩
theorem zv25 : Zv Tryz.prog 25 [.int .u64 0] := ⟨_, rfl, Tryz.zeroValue25⟩
theorem zv28 : Zv Tryz.prog 28 [.int .u64 0, .int .u64 0, .int .i64 0, .int .i64 0, .int .i64 0, .int .i64 0, .int .u32 0] := ⟨_, rfl, Tryz.zeroValue28⟩
theorem zv30 : Zv Tryz.prog 30 [.int .i64 0, .slice none 0 0, .int .i64 0, .int .u64 0, .int .i64 0, .int .i64 0, .int .u64 0, .int .u64 0, .int .u64 0, .int .i64 0, .int .i64 0, .int .i64 0, .int .i64 0, .int .u32 0] := ⟨_, rfl, Tryz.zeroValue30⟩
theorem zv34 : Zv Tryz.prog 34 [.int .i64 0] := ⟨_, rfl, Tryz.zeroValue34⟩
theorem zv43 : Zv Tryz.prog 43 [.int .i64 0, .int .i64 0, .int .u64 0, .int .u64 0, .string ByteArray.empty, .bool false] := ⟨_, rfl, Tryz.zeroValue43⟩
theorem zv63 : Zv Tryz.prog 63 [.int .i64 0, .int .i64 0, .int .i64 0, .int .i64 0, .int .i64 0] := ⟨_, rfl, Tryz.zeroValue63⟩
theorem zv68 : Zv Tryz.prog 68 [.pointer none, .slice none 0 0, .int .u64 0, .int .u64 0, .int .i64 0, .int .i64 0, .int .i64 0, .int .i64 0, .int .u32 0, .int .u64 0, .map none, .slice none 0 0] := ⟨_, rfl, Tryz.zeroValue68⟩
theorem zv90 : Zv Tryz.prog 90 [.int .i64 0, .string ByteArray.empty, .int .u64 0, .int .i64 0, .int .i64 0, .int .u64 0, .int .i64 0, .int .i64 0, .int .i64 0] := ⟨_, rfl, Tryz.zeroValue90⟩
theorem zv120 : Zv Tryz.prog 120 [.nilFunc, .slice none 0 0, .int .i64 0, .int .i64 0, .map none, .int .u64 0] := ⟨_, rfl, Tryz.zeroValue120⟩
theorem zv125 : Zv Tryz.prog 125 [.int .i64 0, .int .i64 0, .int .i64 0, .bool false, .pointer none] := ⟨_, rfl, Tryz.zeroValue125⟩
theorem zv132 : Zv Tryz.prog 132 [.int .i64 0, .int .i64 0, .int .u64 0] := ⟨_, rfl, Tryz.zeroValue132⟩
theorem zv136 : Zv Tryz.prog 136 ([.int .i64 0, .int .i64 0, .int .u64 0, .int .u64 0] ++ (List.replicate 64 [.int .i64 0, .int .i64 0, .int .u64 0]).flatten ++ [.pointer none, .map none, .slice none 0 0]) := ⟨_, by kernel_rfl, Tryz.zeroValue136⟩
theorem zv138 : Zv Tryz.prog 138 [.int .i64 0, .int .i64 0] := ⟨_, rfl, Tryz.zeroValue138⟩
theorem zv143 : Zv Tryz.prog 143 [.int .i64 0, .int .i64 0, .int .i64 0] := ⟨_, rfl, Tryz.zeroValue143⟩
theorem zv151 : Zv Tryz.prog 151 [.int .i64 0, .int .i64 0] := ⟨_, rfl, Tryz.zeroValue151⟩
theorem zv168 : Zv Tryz.prog 168 [.int .u64 0, .int .u64 0] := ⟨_, rfl, Tryz.zeroValue168⟩
theorem zv187 : Zv Tryz.prog 187 [.int .i64 0, .int .u64 0, .int .i64 0, .int .i64 0, .int .i64 0] := ⟨_, rfl, Tryz.zeroValue187⟩
theorem zv189 : Zv Tryz.prog 189 [.int .i64 0, .int .i64 0, .int .u64 0, .int .u64 0, .int .i64 0, .int .i64 0, .int .u64 0, .int .i64 0, .int .i64 0, .int .i64 0] := ⟨_, rfl, Tryz.zeroValue189⟩
theorem zv194 : Zv Tryz.prog 194 [.int .u64 0, .int .u64 0, .int .u64 0, .map none] := ⟨_, rfl, Tryz.zeroValue194⟩
theorem zv232 : Zv Tryz.prog 232 [.int .i64 0, .int .u64 0, .int .u64 0] := ⟨_, rfl, Tryz.zeroValue232⟩
end
structure Nd where
 v : Int
 before : Nat
 next : Nat
abbrev ekQ (n : Nat) : Value := .int .u64 (n : Int)
abbrev evQ (x : Nd) : Value := .agg #[.int .i64 x.v, .int .u64 (x.before : Int), .int .u64 (x.next : Int)]
theorem ekQ_key (k : Nat) : MapKept.IsKey (.int .u64) (ekQ k) := rfl
theorem ekQ_inj (a b : Nat) (h : ekQ a = ekQ b) : a = b := by
 simp only [ekQ, Value.int.injEq] at h; omega
def hd (q : Nat) : List (Nat × Int) → Nat
 | [] => q
 | (t, _) :: _ => t
def lst (p : Nat) : List (Nat × Int) → Nat
 | [] => p
 | (t, _) :: r => lst t r
def nds (p q : Nat) : List (Nat × Int) → List (Nat × Nd)
 | [] => []
 | (t, v) :: r => (t, ⟨v, p, hd q r⟩) :: nds t q r
theorem hd_append (q : Nat) : ∀ (A B : List (Nat × Int)), hd q (A ++ B) = hd (hd q B) A
 | [], _ => rfl
 | (_, _) :: _, _ => rfl
theorem lst_append (p : Nat) : ∀ (A B : List (Nat × Int)), lst p (A ++ B) = lst (lst p A) B
 | [], _ => rfl
 | (t, _) :: r, B => lst_append t r B
theorem nds_append (q : Nat) : ∀ (A B : List (Nat × Int)) (p : Nat), nds p q (A ++ B) = nds p (hd q B) A ++ nds (lst p A) q B
 | [], _, _ => rfl
 | (t, v) :: r, B, p => by
  simp only [List.cons_append, nds, lst, nds_append q r B t, hd_append]
theorem nds_keys (q : Nat) : ∀ (l : List (Nat × Int)) (p : Nat), (nds p q l).map (·.1) = l.map (·.1)
 | [], _ => rfl
 | (t, v) :: r, p => by simp only [nds, List.map_cons, nds_keys q r t]
theorem nds_len (p q : Nat) (l : List (Nat × Int)) : (nds p q l).length = l.length := by
 have := congrArg List.length (nds_keys q l p)
 simpa using this
theorem lst_mem : ∀ (l : List (Nat × Int)) (p : Nat), l ≠ [] → lst p l ∈ l.map (·.1)
 | [], _, h => absurd rfl h
 | [(t, v)], p, _ => by simp [lst]
 | (t, v) :: x :: r, p, _ => by
  have := lst_mem (x :: r) t (by simp)
  exact List.mem_cons_of_mem _ this
theorem lst_in (q : Nat) : ∀ (l : List (Nat × Int)) (p : Nat), l ≠ [] → ∃ w bq, (lst p l, (⟨w, bq, q⟩ : Nd)) ∈ nds p q l
 | [], _, h => absurd rfl h
 | [(t, v)], p, _ => ⟨v, p, List.mem_cons_self ..⟩
 | (t, v) :: x :: r, p, _ => by
  obtain ⟨w, bq, h⟩ := lst_in q (x :: r) t (by simp)
  exact ⟨w, bq, List.mem_cons_of_mem _ h⟩
theorem hd_in (q : Nat) (p : Nat) : ∀ (l : List (Nat × Int)), l ≠ [] → ∃ w nq, (hd q l, (⟨w, p, nq⟩ : Nd)) ∈ nds p q l
 | [], h => absurd rfl h
 | (t, v) :: r, _ => ⟨v, hd q r, List.mem_cons_self ..⟩
theorem setL_append {A B : List (Nat × Nd)} (k : Nat) (a : Nd) : setL (A ++ B) k a = setL A k a ++ setL B k a := List.map_append
theorem setL_out {A : List (Nat × Nd)} {k : Nat} {a : Nd} (h : k ∉ A.map (·.1)) : setL A k a = A := setL_same fun x hx e => h (List.mem_map.2 ⟨x, hx, e⟩)
theorem setL_last (q q' : Nat) : ∀ (l : List (Nat × Int)) (p : Nat) (w : Int) (bq : Nat), l ≠ [] → (l.map (·.1)).Nodup → (lst p l, (⟨w, bq, q⟩ : Nd)) ∈ nds p q l → setL (nds p q l) (lst p l) ⟨w, bq, q'⟩ = nds p q' l
 | [], _, _, _, h, _, _ => absurd rfl h
 | [(t, v)], p, w, bq, _, _, hm => by
  simp only [nds, lst, hd, List.mem_singleton, Prod.mk.injEq, Nd.mk.injEq, true_and, and_true] at hm
  obtain ⟨rfl, rfl⟩ := hm
  simp [nds, lst, hd, setL]
 | (t, v) :: x :: r, p, w, bq, _, hn, hm => by
  rw [List.map_cons, List.nodup_cons] at hn
  have hne : t ≠ lst t (x :: r) := fun e => hn.1 (by
   have := lst_mem (x :: r) t (by simp)
   rw [← e] at this; exact this)
  have hm2 : (lst t (x :: r), (⟨w, bq, q⟩ : Nd)) ∈ nds t q (x :: r) := by
   rcases List.mem_cons.1 hm with e | h
   ·exact absurd (congrArg Prod.fst e).symm hne
   ·exact h
  have ih := setL_last q q' (x :: r) t w bq (by simp) hn.2 hm2
  show setL ((t, ⟨v, p, hd q (x :: r)⟩) :: nds t q (x :: r)) (lst t (x :: r)) ⟨w, bq, q'⟩ = (t, ⟨v, p, hd q' (x :: r)⟩) :: nds t q' (x :: r)
  have e1 : ∀ Y, setL ((t, (⟨v, p, hd q (x :: r)⟩ : Nd)) :: Y) (lst t (x :: r)) ⟨w, bq, q'⟩ = (t, ⟨v, p, hd q (x :: r)⟩) :: setL Y (lst t (x :: r)) ⟨w, bq, q'⟩ := fun Y => by
   show (if t = lst t (x :: r) then _ else _) :: _ = _
   rw [if_neg hne]; rfl
  rw [e1, ih]
  rfl
theorem setL_head (p p' q : Nat) (l : List (Nat × Int)) (w : Int) (nq : Nat) (hl : l ≠ []) (hn : (l.map (·.1)).Nodup) (hm : (hd q l, (⟨w, p, nq⟩ : Nd)) ∈ nds p q l) : setL (nds p q l) (hd q l) ⟨w, p', nq⟩ = nds p' q l := by
 cases l with
 | nil => exact absurd rfl hl
 | cons x r =>
  obtain ⟨t, v⟩ := x
  rw [List.map_cons, List.nodup_cons] at hn
  have hnr : t ∉ (nds t q r).map (·.1) := by rw [nds_keys]; exact hn.1
  have e : v = w ∧ hd q r = nq := by
   rcases List.mem_cons.1 hm with e | h
   ·have := congrArg Prod.snd e
    simp only [Nd.mk.injEq] at this
    exact ⟨this.1.symm, this.2.2.symm⟩
   ·exact absurd (List.mem_map.2 ⟨_, h, rfl⟩) hnr
  obtain ⟨rfl, rfl⟩ := e
  show (if t = t then _ else _) :: setL (nds t q r) t _ = _
  rw [if_pos rfl, setL_out hnr]
  rfl
theorem delL_mid (A B : List (Nat × Int)) (t : Nat) (v : Int) (hn : ((A ++ (t, v) :: B).map (·.1)).Nodup) : delL (nds 0 0 (A ++ (t, v) :: B)) t = nds 0 t A ++ nds t 0 B := by
 have hA : ∀ x ∈ nds 0 t A, x.1 ≠ t := fun x hx e => by
  have h1 : x.1 ∈ A.map (·.1) := by rw [← nds_keys t A 0]; exact List.mem_map.2 ⟨x, hx, rfl⟩
  rw [e] at h1
  rw [List.map_append, List.map_cons, List.nodup_append] at hn
  exact hn.2.2 t h1 t (List.mem_cons_self ..) rfl
 have hB : ∀ x ∈ nds t 0 B, x.1 ≠ t := fun x hx e => by
  have h1 : x.1 ∈ B.map (·.1) := by rw [← nds_keys 0 B t]; exact List.mem_map.2 ⟨x, hx, rfl⟩
  rw [e] at h1
  rw [List.map_append, List.map_cons, List.nodup_append] at hn
  exact (List.nodup_cons.1 hn.2.1).1 h1
 rw [nds_append]
 unfold delL
 rw [List.filter_append]
 show List.filter _ (nds 0 t A) ++ List.filter _ ((t, _) :: nds t 0 B) = _
 rw [List.filter_cons_of_neg (by simp), List.filter_eq_self.2 (fun x hx => by simpa using hA x hx), List.filter_eq_self.2 (fun x hx => by simpa using hB x hx)]
theorem hd_ne {q q' : Nat} {l : List (Nat × Int)} (h : l ≠ []) : hd q l = hd q' l := by
 cases l with
 | nil => exact absurd rfl h
 | cons x r => rfl
theorem lst_ne {q q' : Nat} {l : List (Nat × Int)} (h : l ≠ []) : lst q l = lst q' l := by
 cases l with
 | nil => exact absurd rfl h
 | cons x r => rfl
structure Qk (l : List (Nat × Int)) (g : Nat) : Prop where
 pos : ∀ x ∈ l, 1 ≤ x.1 ∧ x.1 ≤ g
 ord : l.Pairwise fun a b => a.1 < b.1
theorem Qk.empty (g : Nat) : Qk [] g := ⟨fun x h => (by cases h), .nil⟩
theorem Qk.nodup {l : List (Nat × Int)} {g : Nat} (h : Qk l g) : (l.map (·.1)).Nodup := by
 rw [List.Nodup, List.pairwise_map]
 exact h.ord.imp fun h => Nat.ne_of_lt h
theorem Qk.push {l : List (Nat × Int)} {g : Nat} (h : Qk l g) (v : Int) : Qk (l ++ [(g + 1, v)]) (g + 1) := by
 refine ⟨fun x hx => ?_, List.pairwise_append.2 ⟨h.ord, by simp, fun a ha b hb => ?_⟩⟩
 ·rcases List.mem_append.1 hx with hx | hx
  ·have := h.pos x hx; omega
  ·rw [List.mem_singleton] at hx; subst hx; dsimp only; omega
 ·rw [List.mem_singleton] at hb; subst hb
  have := h.pos a ha; dsimp only; omega
theorem Qk.rem {A B : List (Nat × Int)} {x : Nat × Int} {g : Nat} (h : Qk (A ++ x :: B) g) : Qk (A ++ B) g := by
 refine ⟨fun y hy => h.pos y ?_, h.ord.sublist (List.Sublist.append_left (List.sublist_cons_self x B) A)⟩
 rcases List.mem_append.1 hy with hy | hy
 ·exact List.mem_append_left _ hy
 ·exact List.mem_append_right _ (List.mem_cons_of_mem _ hy)
theorem Qk.hd0 {l : List (Nat × Int)} {g : Nat} (h : Qk l g) : hd 0 l = 0 ↔ l = [] := by
 cases l with
 | nil => simp [hd]
 | cons x r =>
  have := (h.pos x (List.mem_cons_self ..)).1
  obtain ⟨t, v⟩ := x
  simp only [hd]
  constructor
  ·intro e; dsimp only at this; omega
  ·intro e; cases e
theorem Qk.lst0 {l : List (Nat × Int)} {g : Nat} (h : Qk l g) : lst 0 l = 0 ↔ l = [] := by
 by_cases e : l = []
 ·subst e; simp [lst]
 ·have hm := lst_mem l 0 e
  obtain ⟨x, hx, hx2⟩ := List.mem_map.1 hm
  have := (h.pos x hx).1
  constructor
  ·intro e2; omega
  ·intro e2; exact absurd e2 e
theorem Qk.left {A B : List (Nat × Int)} {g : Nat} (h : Qk (A ++ B) g) : Qk A g := ⟨fun x hx => h.pos x (List.mem_append_left _ hx), (List.pairwise_append.1 h.ord).1⟩
theorem Qk.right {A B : List (Nat × Int)} {g : Nat} (h : Qk (A ++ B) g) : Qk B g := ⟨fun x hx => h.pos x (List.mem_append_right _ hx), (List.pairwise_append.1 h.ord).2.1⟩
theorem Qk.tail {x : Nat × Int} {B : List (Nat × Int)} {g : Nat} (h : Qk (x :: B) g) : Qk B g := ⟨fun y hy => h.pos y (List.mem_cons_of_mem _ hy), (List.pairwise_cons.1 h.ord).2⟩
theorem Qk.new {l : List (Nat × Int)} {g : Nat} (h : Qk l g) : g + 1 ∉ (nds 0 0 l).map (·.1) := by
 rw [nds_keys]
 intro hm
 obtain ⟨x, hx, e⟩ := List.mem_map.1 hm
 have := (h.pos x hx).2
 omega
theorem push_list {l : List (Nat × Int)} {g : Nat} (h : Qk l g) (v : Int) {w : Int} {bq : Nat} (hl : l ≠ []) (hin : (lst 0 l, (⟨w, bq, 0⟩ : Nd)) ∈ nds 0 0 l) :
  (setL ((g + 1, ⟨v, lst 0 l, 0⟩) :: nds 0 0 l) (lst 0 l) ⟨w, bq, g + 1⟩).Perm (nds 0 0 (l ++ [(g + 1, v)])) := by
 have hne : g + 1 ≠ lst 0 l := fun e => h.new (by rw [nds_keys, e]; exact lst_mem l 0 hl)
 have e1 : setL ((g + 1, (⟨v, lst 0 l, 0⟩ : Nd)) :: nds 0 0 l) (lst 0 l) ⟨w, bq, g + 1⟩ = (g + 1, ⟨v, lst 0 l, 0⟩) :: setL (nds 0 0 l) (lst 0 l) ⟨w, bq, g + 1⟩ := by
  show (if g + 1 = lst 0 l then _ else _) :: _ = _
  rw [if_neg hne]; rfl
 rw [e1, setL_last 0 (g + 1) l 0 w bq hl h.nodup hin, nds_append]
 exact (List.perm_append_comm (l₁ := [(g + 1, (⟨v, lst 0 l, 0⟩ : Nd))]))
abbrev encI (v : Int) : List Value := [.int .i64 v]
abbrev ivs (l : List Int) : List Value := l.flatMap encI
theorem encI1 (v : Int) : (encI v).length = 1 := rfl
theorem ivs_len (l : List Int) : (ivs l).length = l.length := by rw [fm_length encI1]; omega
def cmpI (a b : Int) : Int := if a < b then -1 else if b < a then 1 else 0
def orL : List Int → Int
 | [] => 0
 | x :: r => if x ≠ 0 then x else orL r
theorem orL_drop {l : List Int} : ∀ {k : Nat}, (∀ v ∈ l.take k, v = 0) → orL l = orL (l.drop k) := by
 induction l with
 | nil => intro k _; simp [orL]
 | cons x r ih =>
  intro k h
  cases k with
  | zero => rfl
  | succ k =>
   have h0 : x = 0 := h x (by simp)
   rw [orL, if_neg (by rw [h0]; simp), List.drop_succ_cons]
   exact ih fun v hv => h v (by simp [hv])
theorem orL_hit {l : List Int} {k : Nat} {x : Int} (h : ∀ v ∈ l.take k, v = 0) (hx : l[k]? = some x) (hn : x ≠ 0) : orL l = x := by
 rw [orL_drop h]
 obtain ⟨h1, h2⟩ := List.getElem?_eq_some_iff.1 hx
 rw [List.drop_eq_getElem_cons h1, h2, orL, if_pos hn]
theorem orL_none {l : List Int} {k : Nat} (h : ∀ v ∈ l.take k, v = 0) (hk : l.length ≤ k) : orL l = 0 := by
 rw [orL_drop h, List.drop_eq_nil_of_le hk]; rfl
theorem take_next {α : Type} {l : List α} {k : Nat} {x : α} (h : l[k]? = some x) : l.take (k + 1) = l.take k ++ [x] := by
 obtain ⟨h2, rfl⟩ := List.getElem?_eq_some_iff.1 h
 rw [List.take_append_getElem]
theorem getE {α : Type} {T : List α} {i : Nat} (h : i < T.length) : ∃ x, T[i]? = some x := ⟨_, List.getElem?_eq_getElem h⟩
def idxF (p : Int → Bool) : List Int → Int
 | [] => -1
 | x :: r => if p x = true then 0 else if idxF p r = -1 then -1 else idxF p r + 1
theorem idxF_hit {p : Int → Bool} {x : Int} : ∀ {l : List Int} {k : Nat}, (∀ v ∈ l.take k, p v = false) → l[k]? = some x → p x = true → idxF p l = k
 | [], k, _, hx, _ => by simp at hx
 | y :: r, 0, _, hx, hp => by simp at hx; subst hx; simp [idxF, hp]
 | y :: r, k + 1, h, hx, hp => by
  have h1 : p y = false := h y (by simp)
  have ih := idxF_hit (l := r) (k := k) (fun v hv => h v (by simp [hv])) (by simpa using hx) hp
  rw [idxF, if_neg (by rw [h1]; simp), ih, if_neg (by omega)]; omega
theorem idxF_none {p : Int → Bool} : ∀ {l : List Int}, (∀ v ∈ l, p v = false) → idxF p l = -1
 | [], _ => rfl
 | y :: r, h => by
  rw [idxF, if_neg (by rw [h y (by simp)]; simp), if_pos (idxF_none fun v hv => h v (by simp [hv]))]
theorem take_ne {α : Type} {l : List α} {k : Nat} (h1 : 1 ≤ k) (h2 : k ≤ l.length) : l.take k ≠ [] := fun e => by
 have := congrArg List.length e
 rw [List.length_take, List.length_nil] at this
 omega
def sel (q : Int → Int → Bool) : List Int → Int
 | [] => 0
 | x :: r => r.foldl (fun m a => if q a m = true then a else m) x
theorem sel_next (q : Int → Int → Bool) {l : List Int} (h : l ≠ []) (a : Int) : sel q (l ++ [a]) = if q a (sel q l) = true then a else sel q l := by
 cases l with
 | nil => exact absurd rfl h
 | cons x r =>
  show (r ++ [a]).foldl _ x = _
  rw [List.foldl_append]; rfl
theorem sel_mem (q : Int → Int → Bool) : ∀ {l : List Int}, l ≠ [] → sel q l ∈ l
 | [], h => absurd rfl h
 | x :: r, _ => by
  show r.foldl _ x ∈ x :: r
  have key : ∀ (r : List Int) (x : Int), r.foldl (fun m a => if q a m = true then a else m) x = x ∨ r.foldl (fun m a => if q a m = true then a else m) x ∈ r := by
   intro r
   induction r with
   | nil => intro x; exact .inl rfl
   | cons y r ih =>
    intro x
    rw [List.foldl_cons]
    rcases ih (if q y x = true then y else x) with e | e
    ·rw [e]
     split
     ·exact .inr (List.mem_cons_self ..)
     ·exact .inl rfl
    ·exact .inr (List.mem_cons_of_mem _ e)
  rcases key r x with e | e
  ·rw [e]; exact List.mem_cons_self ..
  ·exact List.mem_cons_of_mem _ e
theorem sel_congr {q q' : Int → Int → Bool} : ∀ {l : List Int}, (∀ a ∈ l, ∀ b ∈ l, q a b = q' a b) → sel q l = sel q' l
 | [], _ => rfl
 | x :: r, h => by
  show r.foldl _ x = r.foldl _ x
  have key : ∀ (s : List Int) (y : Int), (∀ v ∈ s, v ∈ x :: r) → y ∈ x :: r → s.foldl (fun m a => if q a m = true then a else m) y = s.foldl (fun m a => if q' a m = true then a else m) y := by
   intro s
   induction s with
   | nil => intro y _ _; rfl
   | cons z s ih =>
    intro y hs hy
    rw [List.foldl_cons, List.foldl_cons, h z (hs z (by simp)) y hy]
    refine ih _ (fun v hv => hs v (by simp [hv])) ?_
    split
    ·exact hs z (by simp)
    ·exact hy
  exact key r x (fun v hv => by simp [hv]) (by simp)
structure SelW where
 i : Nat
 m : Int
end Go.Proofs.YtelmlkdibcdebaaGreat
