/-
  Slice expressions.
-/
import Derived.WalkKit
import Derived.TacticsIn
import Derived.OrdersIn
import Derived.RangeFuncRecord
import Derived.RangeFuncCalls
import Derived.KernelRfl
import Derived.Deep.LoopGhost
import Derived.ProofKit
import Derived.OpenShut
import Derived.Carry
import Derived.ReadAgain
import Derived.Lib.SmallJoins
import Derived.Deep.Slices
import Derived.RangeFuncLeaves
import Derived.Test.YtkcfgglmlogjbaaGreatRows
import Derived.Lib.MinMax
import Derived.MapKept
import GoSem.Extern.MapsClone
section
namespace Go.Proofs.YtkcfgglmlogjbaaGreat
/-- The fence of all our walks: everything is let in; 'ro': the record of the loop whose round this is. -/
def fen (ro : Option Nat) : Fence := { Fence.wide with round := ro }
abbrev Env := List (Nat × Value)
def gtE : Env → Nat → Option Value
  | [], _ => none
  | (k, v) :: E, s => bif Nat.beq k s then some v else gtE E s
theorem get_cons (k : Nat) (v : Value) (E : Env) (s : Nat) : gtE ((k, v) :: E) s = if k = s then some v else gtE E s := by
  simp only [gtE]
  by_cases h : k = s
  · subst h; simp
  · have hb : Nat.beq k s = false := by simpa [← Nat.beq_eq] using h
    rw [hb, if_neg h]; rfl
/-- A block that is known: its number (none: the array of a nil slice) and what it is. -/
structure Ent where
  b : Option Nat
  o : Obj
abbrev Heap := List Ent
def cl (cs : List Value) (e : TypeId) : Obj := .cells cs.toArray e (0, 0)
def Ent.ok (x : Ent) (w : World) : Prop :=
  match x.b with
  | some b => w.heap[b]? = some x.o
  | none => ∃ e, x.o = cl [] e
def keys (H : Heap) : List Nat := H.filterMap Ent.b
structure HOK (H : Heap) (w : World) : Prop where
  nodup : (keys H).Nodup
  ok : ∀ x ∈ H, x.ok w
structure HW (H0 : Heap) (w0 : World) (H : Heap) (w : World) : Prop where
  hok : HOK H w
  os : w.os = w0.os
  tape : w.tape = w0.tape
  output : w.output = w0.output
  size : w0.heap.size ≤ w.heap.size
  kept : ∀ k, k < w0.heap.size → k ∉ keys H0 → w.heap[k]? = w0.heap[k]?
  own : ∀ k ∈ keys H, k ∈ keys H0 ∨ w0.heap.size ≤ k
  dr : w0.drawn ≤ w.drawn
theorem HW.start {H : Heap} {w : World} (h : HOK H w) : HW H w H w :=
  ⟨h, rfl, rfl, rfl, Nat.le_refl _, fun _ _ _ => rfl, fun _ hk => .inl hk, Nat.le_refl _⟩
theorem mem_keys {H : Heap} {k : Nat} : k ∈ keys H ↔ ∃ x ∈ H, x.b = some k := by
  simp [keys, List.mem_filterMap]
theorem HOK.lt {H : Heap} {w : World} (h : HOK H w) {k : Nat} (hk : k ∈ keys H) : k < w.heap.size := by
  obtain ⟨x, hx, hb⟩ := mem_keys.1 hk
  have := h.ok x hx
  simp only [Ent.ok, hb] at this
  exact (Array.getElem?_eq_some_iff.1 this).1
theorem keys_append (A B : Heap) : keys (A ++ B) = keys A ++ keys B := by simp [keys, List.filterMap_append]
theorem keys_perm {A B : Heap} (h : A.Perm B) : (keys A).Perm (keys B) := h.filterMap _
theorem HOK.perm {A B : Heap} {w : World} (h : HOK A w) (p : A.Perm B) : HOK B w :=
  ⟨(keys_perm p).nodup_iff.1 h.nodup, fun x hx => h.ok x (p.mem_iff.2 hx)⟩
theorem HW.perm {H0 A B : Heap} {w0 w : World} (h : HW H0 w0 A w) (p : A.Perm B) : HW H0 w0 B w :=
  ⟨h.hok.perm p, h.os, h.tape, h.output, h.size, h.kept, fun k hk => h.own k ((keys_perm p).mem_iff.2 hk), h.dr⟩
theorem HOK.left {A B : Heap} {w : World} (h : HOK (A ++ B) w) : HOK A w :=
  ⟨by have := h.nodup; rw [keys_append] at this; exact (List.nodup_append.1 this).1, fun x hx => h.ok x (List.mem_append_left _ hx)⟩
theorem HW.left {H0 A B : Heap} {w0 w : World} (h : HW H0 w0 (A ++ B) w) : HW H0 w0 A w :=
  ⟨h.hok.left, h.os, h.tape, h.output, h.size, h.kept, fun k hk => h.own k (by rw [keys_append]; exact List.mem_append_left _ hk), h.dr⟩
/-- **THE FRAME.** -/
theorem HW.frame {H0 H Hp F H' : Heap} {w0 w w' : World} (h : HW H0 w0 H w) (p : H.Perm (Hp ++ F)) (c : HW Hp w H' w') : HW H0 w0 (H' ++ F) w' := by
  have h1 := h.perm p
  have hlt : ∀ k ∈ keys F, k < w.heap.size := fun k hk => h1.hok.lt (by rw [keys_append]; exact List.mem_append_right _ hk)
  have hnd := h1.hok.nodup
  rw [keys_append, List.nodup_append] at hnd
  obtain ⟨-, hF, hdis⟩ := hnd
  refine ⟨⟨?_, ?_⟩, c.os.trans h.os, c.tape.trans h.tape, c.output.trans h.output, Nat.le_trans h.size c.size, ?_, ?_, Nat.le_trans h.dr c.dr⟩
  · rw [keys_append, List.nodup_append]
    refine ⟨c.hok.nodup, hF, fun x hx y hy e => ?_⟩
    subst e
    rcases c.own x hx with h2 | h2
    · exact hdis x h2 x hy rfl
    · have := hlt x hy; omega
  · intro x hx
    rcases List.mem_append.1 hx with hx | hx
    · exact c.hok.ok x hx
    · have h2 := h1.hok.ok x (List.mem_append_right _ hx)
      cases hb : x.b with
      | none => simp only [Ent.ok, hb] at h2 ⊢; exact h2
      | some b =>
        simp only [Ent.ok, hb] at h2 ⊢
        have hbF : b ∈ keys F := mem_keys.2 ⟨x, hx, hb⟩
        rw [c.kept b (hlt b hbF) (fun hp => hdis b hp b hbF rfl)]
        exact h2
  · intro k hk hn
    rw [c.kept k (Nat.lt_of_lt_of_le hk h.size) ?_, h.kept k hk hn]
    intro hp
    rcases h1.own k (by rw [keys_append]; exact List.mem_append_left _ hp) with h2 | h2
    · exact hn h2
    · omega
  · intro k hk
    rw [keys_append] at hk
    rcases List.mem_append.1 hk with hk | hk
    · rcases c.own k hk with h2 | h2
      · exact h1.own k (by rw [keys_append]; exact List.mem_append_left _ h2)
      · right; have := h.size; omega
    · exact h1.own k (by rw [keys_append]; exact List.mem_append_right _ hk)
/-- Entry x is taken out of a heap. -/
inductive Pull (x : Ent) : Heap → Heap → Prop
  | head {l : Heap} : Pull x (x :: l) l
  | tail {y : Ent} {l l' : Heap} : Pull x l l' → Pull x (y :: l) (y :: l')
inductive Pulls : Heap → Heap → Heap → Prop
  | nil {H : Heap} : Pulls [] H H
  | cons {x : Ent} {xs H H1 H2 : Heap} : Pull x H H1 → Pulls xs H1 H2 → Pulls (x :: xs) H H2
  | all {H : Heap} : Pulls H H []
  | skip {y : Ent} {xs H F : Heap} : Pulls xs H F → Pulls xs (y :: H) (y :: F)
  | ofPerm {xs H F : Heap} : H.Perm (xs ++ F) → Pulls xs H F
theorem Pull.perm {x : Ent} {H H1 : Heap} (h : Pull x H H1) : H.Perm (x :: H1) := by
  induction h with
  | head => exact .refl _
  | tail _ ih => exact (List.Perm.cons _ ih).trans (.swap _ _ _)
theorem Pulls.perm {xs H F : Heap} (h : Pulls xs H F) : H.Perm (xs ++ F) := by
  induction h with
  | nil => exact .refl _
  | cons h _ ih => exact h.perm.trans (.cons _ ih)
  | all => simp
  | skip _ ih => exact (List.Perm.cons _ ih).trans List.perm_middle.symm
  | ofPerm h => exact h
/-- What stays the same through a walk: the program, the round, the frame's size, its deferred calls, and where it began. -/
structure Ctx where
  P : Program
  ro : Option Nat
  N : Nat
  D : List Deferred
  H0 : Heap
  w0 : World
structure AE (X : Ctx) (E : Env) (a : Act) : Prop where
  size : a.tmps.size = X.N
  defers : a.defers = X.D
  env : ∀ s v, gtE E s = some v → a.tmps[s]? = some v
def ev (E : Env) : Operand → Option Value
  | .tmp t => gtE E t
  | .const v => some v
  | .global g => some (.pointer (some ⟨g, 0, none⟩))
  | .func f => some (.func (.func f) #[] #[])
theorem AE.eval {X : Ctx} {E : Env} {a : Act} (h : AE X E a) {x : Operand} {v : Value} (hx : ev E x = some v) : a.eval x = v := by
  cases x with
  | tmp t =>
    have := h.env t v hx
    simp [Act.eval, Array.getD_eq_getD_getElem?, this]
  | const c => simpa [ev, Act.eval] using hx
  | global g => simpa [ev, Act.eval] using hx
  | func f => simpa [ev, Act.eval] using hx
theorem AE.put {X : Ctx} {E : Env} {a : Act} (h : AE X E a) (d : Nat) (v : Value) (hd : Nat.blt d X.N = true) : AE X ((d, v) :: E) (a.put (some d) v) := by
  have hd' : d < X.N := by simpa [Nat.blt_eq] using hd
  refine ⟨by simpa [Act.put] using h.size, h.defers, fun s u hs => ?_⟩
  rw [get_cons] at hs
  simp only [Act.put]
  by_cases e : d = s
  · subst e
    rw [if_pos rfl] at hs
    have : d < a.tmps.size := by rw [h.size]; exact hd'
    simpa [this] using hs
  · rw [if_neg e] at hs
    rw [Array.getElem?_setIfInBounds_ne e]
    exact h.env s u hs
theorem AE.put0 {X : Ctx} {E : Env} {a : Act} (h : AE X E a) (v : Value) : AE X E (a.put none v) := h
def evs (E : Env) : List Operand → Option (List Value)
  | [] => some []
  | x :: xs => match ev E x, evs E xs with
    | some v, some vs => some (v :: vs)
    | _, _ => none
theorem AE.evals {X : Ctx} {E : Env} {a : Act} (h : AE X E a) : ∀ {xs : List Operand} {vs : List Value}, evs E xs = some vs → xs.map a.eval = vs
  | [], vs, hx => by simp [evs] at hx; simp [hx]
  | x :: xs, vs, hx => by
    simp only [evs] at hx
    split at hx
    · rename_i v vs' h1 h2
      cases hx
      simp [h.eval h1, h.evals h2]
    · cases hx
/-- One environment says no more than another. -/
inductive Le : Env → Env → Prop
  | nil {E : Env} : Le [] E
  | cons {s : Nat} {v v' : Value} {E' E : Env} : gtE E s = some v' → v' = v → Le E' E → Le ((s, v) :: E') E
theorem Le.get {E' E : Env} (h : Le E' E) : ∀ s v, gtE E' s = some v → gtE E s = some v := by
  induction h with
  | nil => intro s v hs; simp [gtE] at hs
  | cons h1 h2 _ ih =>
    intro s v hs
    rw [get_cons] at hs
    split at hs
    · rename_i e; subst e; cases hs; rw [h1, h2]
    · exact ih s v hs
def Lq (E' E : Env) : Prop := ∀ s v, gtE E' s = some v → gtE E s = some v
theorem Le.lq {E' E : Env} (h : Le E' E) : Lq E' E := h.get
theorem Lq.refl (E : Env) : Lq E E := fun _ _ h => h
theorem AE.le {X : Ctx} {E' E : Env} {a : Act} (h : AE X E a) (l : Lq E' E) : AE X E' a := ⟨h.size, h.defers, fun s v hs => h.env s v (l s v hs)⟩
theorem any_beq (ds : List Nat) (k : Nat) : ds.any (Nat.beq k) = true ↔ k ∈ ds := by
  rw [List.any_eq_true]
  constructor
  · rintro ⟨x, hx, e⟩
    rw [Nat.beq_eq] at e
    exact e ▸ hx
  · intro h
    exact ⟨k, h, by rw [Nat.beq_eq]⟩
/-- What is left of an environment when some slots are forgotten. -/
def dropE (ds : List Nat) : Env → Env
  | [] => []
  | (k, v) :: E => bif ds.any (Nat.beq k) then dropE ds E else (k, v) :: dropE ds E
theorem get_dropE (ds : List Nat) : ∀ (E : Env) (s : Nat), gtE (dropE ds E) s = if s ∈ ds then none else gtE E s
  | [], s => by simp [dropE, gtE]
  | (k, v) :: E, s => by
    have ih := get_dropE ds E s
    simp only [dropE]
    have hk : ds.any (Nat.beq k) = decide (k ∈ ds) := by
      rw [Bool.eq_iff_iff, any_beq]; simp
    rw [hk]
    by_cases h : k ∈ ds
    · simp only [h, decide_true, cond_true, ih, get_cons]
      by_cases e : k = s
      · subst e; simp [h]
      · rw [if_neg e]
    · simp only [h, decide_false, cond_false, get_cons, ih]
      by_cases e : k = s
      · subst e; simp [h]
      · simp only [if_neg e]
theorem get_append : ∀ (A B : Env) (s : Nat), gtE (A ++ B) s = (gtE A s).or (gtE B s)
  | [], B, s => by simp [gtE]
  | (k, v) :: A, B, s => by
    simp only [List.cons_append, get_cons, get_append A B s]
    split <;> simp
/-- Only slots out of ds have been written. -/
inductive Pushed (ds : List Nat) (B : Env) : Env → Prop
  | refl : Pushed ds B B
  | push {d : Nat} {v : Value} {E : Env} : ds.any (Nat.beq d) = true → Pushed ds B E → Pushed ds B ((d, v) :: E)
theorem Pushed.get {ds : List Nat} {B E : Env} (h : Pushed ds B E) (s : Nat) (hs : s ∉ ds) : gtE E s = gtE B s := by
  induction h with
  | refl => rfl
  | push h1 _ ih =>
    rename_i d v E
    rw [get_cons, if_neg, ih]
    intro e; subst e
    apply hs
    exact (any_beq _ _).1 h1
theorem le_frame {ds : List Nat} {A A' E0 E : Env} (hp : Pushed ds (A ++ dropE ds E0) E) (hA : ∀ s ∈ A.map (·.1), s ∈ ds) (hl : Lq A' E) : Lq (A' ++ dropE ds E0) E := by
  intro s v hs
  rw [get_append] at hs
  cases h : gtE A' s with
  | some u => rw [h] at hs; simp at hs; subst hs; exact hl s u h
  | none =>
    rw [h, get_dropE] at hs
    by_cases hm : s ∈ ds
    · simp [hm] at hs
    · simp only [hm, if_false, Option.none_or] at hs
      rw [hp.get s hm, get_append, get_dropE, if_neg hm, hs]
      have : gtE A s = none := by
        clear hp hl
        induction A with
        | nil => rfl
        | cons x A ih =>
          obtain ⟨k, u⟩ := x
          rw [get_cons, if_neg, ih (fun t ht => hA t (by simp at ht ⊢; exact .inr ht))]
          intro e; subst e; exact hm (hA k (by simp))
      rw [this]; rfl
/-! ### Posts -/
structure Post where
  nrm : Act → World → Prop
  ret : Act → World → Prop
  ex : Nat → Act → World → Prop
  pan : List PanicEntry → Act → World → Prop := fun _ _ _ => False
def Post.toQ (p : Post) : Exit → Act → World → Prop
  | .normal => p.nrm
  | .ret => p.ret
  | .exit id => p.ex id
  | .panic ch => p.pan ch
  | _ => fun _ _ => False
/-- Posts of parts: each names the outer one once. -/
def Post.seq (X : Ctx) (y : Code) (p : Post) : Post := { p with nrm := fun a w => y.wpIn (fen X.ro) 0 X.P p.toQ a w }
def Post.blk (id : Nat) (p : Post) : Post := { p with ex := fun i => bif Nat.beq i id then p.nrm else p.ex i }
def Post.to (K : Act → World → Prop) (p : Post) : Post := { p with nrm := K }
/-- A part of a function that does not panic. -/
class NoPan (p : Post) : Prop where
  pan : ∀ ch a w, ¬ p.pan ch a w
instance {n r : Act → World → Prop} {e : Nat → Act → World → Prop} : NoPan { nrm := n, ret := r, ex := e } := ⟨fun _ _ _ h => h⟩
instance {X : Ctx} {y : Code} {p : Post} [h : NoPan p] : NoPan (Post.seq X y p) := ⟨h.pan⟩
instance {id : Nat} {p : Post} [h : NoPan p] : NoPan (Post.blk id p) := ⟨h.pan⟩
instance {K : Act → World → Prop} {p : Post} [h : NoPan p] : NoPan (Post.to K p) := ⟨h.pan⟩
/-- What is asked where it panics does not look at the slots. -/
class PanSt (p : Post) : Prop where
  pan : ∀ ch a w d v, p.pan ch (a.put d v) w → p.pan ch a w
instance {p : Post} [h : NoPan p] : PanSt p := ⟨fun ch _ w _ _ q => (h.pan ch _ w q).elim⟩
theorem PanSt.seq {X : Ctx} {y : Code} {p : Post} (h : PanSt p) : PanSt (Post.seq X y p) := ⟨h.pan⟩
theorem PanSt.blk {id : Nat} {p : Post} (h : PanSt p) : PanSt (Post.blk id p) := ⟨h.pan⟩
theorem PanSt.to {K : Act → World → Prop} {p : Post} (h : PanSt p) : PanSt (Post.to K p) := ⟨h.pan⟩
def WQ (X : Ctx) (K : Act → World → Prop) (E : Env) (H : Heap) : Prop := ∀ a w, AE X E a → HW X.H0 X.w0 H w → K a w
def WC (X : Ctx) (c : Code) (p : Post) (E : Env) (H : Heap) : Prop := ∀ a w, AE X E a → HW X.H0 X.w0 H w → c.wpIn (fen X.ro) 0 X.P p.toQ a w
def WL (X : Ctx) (ops : Array Oper) (p : Post) (l : List Oper) (E : Env) (H : Heap) : Prop := ∀ a w, AE X E a → HW X.H0 X.w0 H w → wpListIn (fen X.ro) 0 X.P ops p.toQ l a w
section rules
variable {X : Ctx} {p : Post} {E : Env} {H : Heap}
theorem WQ_code {y : Code} (h : WC X y p E H) : WQ X (fun a w => y.wpIn (fen X.ro) 0 X.P p.toQ a w) E H := h
theorem WC_seq {x y : Code} (h : WC X x (Post.seq X y p) E H) : WC X (.seq x y) p E H :=
  fun a w ha hw => wpIn_seq (wpIn_mono (h a w ha hw) fun e a w q => by cases e <;> exact q)
theorem WC_skip (h : WQ X p.nrm E H) : WC X .skip p E H := fun a w ha hw => wpIn_skip (h a w ha hw)
theorem WC_ret (h : WQ X p.ret E H) : WC X .ret p E H := fun a w ha hw => wpIn_ret (h a w ha hw)
theorem WC_exit {id : Nat} (h : WQ X (p.ex id) E H) : WC X (.exit id) p E H := fun a w ha hw => wpIn_exit (h a w ha hw)
theorem WC_block {id : Nat} {c : Code} (h : WC X c (Post.blk id p) E H) : WC X (.block id c) p E H :=
  fun a w ha hw => wpIn_block (wpIn_mono (h a w ha hw) fun e a w q => by
    cases e with
    | exit i =>
      simp only [Exit.inBlock]
      by_cases hi : i = id
      · subst hi; simpa [Post.toQ, Post.blk] using q
      · have hb : Nat.beq i id = false := by simpa [← Nat.beq_eq] using hi
        rw [if_neg hi]
        simpa [Post.toQ, Post.blk, hb] using q
    | normal => exact q
    | ret => exact q
    | goto => exact q
    | panic => exact q
    | outgrown => exact q)
theorem WC_T {c : Operand} {x y : Code} (hc : ev E c = some (.bool true)) (h : WC X x p E H) : WC X (.cond c x y) p E H :=
  fun a w ha hw => wpIn_cond_true (ha.eval hc) (h a w ha hw)
theorem WC_F {c : Operand} {x y : Code} (hc : ev E c = some (.bool false)) (h : WC X y p E H) : WC X (.cond c x y) p E H :=
  fun a w ha hw => wpIn_cond_false (ha.eval hc) (h a w ha hw)
theorem WC_if {c : Operand} {x y : Code} {b : Bool} (hc : ev E c = some (.bool b)) (h1 : b = true → WC X x p E H) (h2 : b = false → WC X y p E H) : WC X (.cond c x y) p E H :=
  fun a w ha hw => wpIn_cond_split (ha.eval hc) (fun e => h1 e a w ha hw) (fun e => h2 e a w ha hw)
theorem WC_dec {c : Operand} {x y : Code} {q : Prop} [Decidable q] (hc : ev E c = some (.bool (decide q))) (h1 : q → WC X x p E H) (h2 : ¬ q → WC X y p E H) : WC X (.cond c x y) p E H :=
  WC_if hc (fun e => h1 (of_decide_eq_true e)) (fun e => h2 (of_decide_eq_false e))
theorem WC_dT {c : Operand} {x y : Code} {q : Prop} [Decidable q] (hc : ev E c = some (.bool (decide q))) (hq : q) (h : WC X x p E H) : WC X (.cond c x y) p E H :=
  WC_dec hc (fun _ => h) (fun e => absurd hq e)
theorem WC_dF {c : Operand} {x y : Code} {q : Prop} [Decidable q] (hc : ev E c = some (.bool (decide q))) (hq : ¬ q) (h : WC X y p E H) : WC X (.cond c x y) p E H :=
  WC_dec hc (fun e => absurd e hq) (fun _ => h)
theorem WC_region {id : Nat} {l : List Oper} (h : WL X l.toArray p l E H) : WC X (.region id l.toArray false) p E H :=
  fun a w ha hw => wpIn_region_lit (h a w ha hw)
theorem WL_nil {ops : Array Oper} (h : WQ X p.nrm E H) : WL X ops p [] E H := fun a w ha hw => h a w ha hw
theorem wpIn_loop_ghost {F : Fence} {n : Nat} {P : Program} {Q : Exit → Act → World → Prop} {a : Act} {w : World} {c : Code} (I : Nat → Act → World → Prop) (n₀ : Nat) (h₀ : I n₀ a w)
    (round : ∀ m a w, I m a w → c.wpIn F n P (Exit.then (fun a' w' => ∃ m', m' < m ∧ I m' a' w') Q) a w) : (Code.loop c).wpIn F n P Q a w := by
  refine wpIn_loop (fun a w => ∃ m, I m a w) (fun a w => leastOf (fun m => I m a w)) ⟨n₀, h₀⟩ ?_
  intro a w hI
  refine wpIn_mono (round _ a w (leastOf_spec hI).1) ?_
  intro e a' w' hq
  cases e with
  | normal =>
    obtain ⟨m', hlt, hI'⟩ := hq
    exact show (∃ m, I m a' w') ∧ leastOf (fun m => I m a' w') < leastOf (fun m => I m a w) from ⟨⟨m', hI'⟩, Nat.lt_of_le_of_lt ((leastOf_spec ⟨m', hI'⟩).2 m' hI') hlt⟩
  | exit id => exact hq
  | goto l => exact hq
  | ret => exact hq
  | panic ch => exact hq
  | outgrown => exact hq
/-- What a round of a loop hands on. -/
def Next (X : Ctx) {G : Type} (I : G → Prop) (EI : G → Env) (HI : G → Heap) (μ : G → Nat) (m : Nat) (a : Act) (w : World) : Prop :=
  ∃ g, I g ∧ μ g < m ∧ AE X (EI g) a ∧ HW X.H0 X.w0 (HI g) w
theorem WC_loop {G : Type} {body : Code} (I : G → Prop) (EI : G → Env) (HI : G → Heap) (μ : G → Nat) {F : Heap} (g0 : G) (h0 : I g0) (l : Lq (EI g0) E) (q : Pulls (HI g0) H F)
    (round : ∀ g, I g → WC X body (Post.to (Next X I EI HI μ (μ g)) p) (EI g) (HI g)) : WC X (.loop body) p E H :=
  fun a w ha hw => by
    refine wpIn_loop_ghost (fun m a w => ∃ g, μ g = m ∧ I g ∧ AE X (EI g) a ∧ HW X.H0 X.w0 (HI g) w) (μ g0) ⟨g0, rfl, h0, ha.le l, (hw.perm q.perm).left⟩ ?_
    rintro m a w ⟨g, rfl, hg, ha, hw⟩
    refine wpIn_mono (round g hg a w ha hw) ?_
    intro e a' w' hq
    cases e with
    | normal => obtain ⟨g', h1, h2, h3, h4⟩ := hq; exact ⟨μ g', h2, g', rfl, h1, h3, h4⟩
    | _ => exact hq
def subB (A : Env) (ds : List Nat) : Bool := A.all fun x => ds.any (Nat.beq x.1)
theorem subB_spec {A : Env} {ds : List Nat} (h : subB A ds = true) : ∀ s ∈ A.map (·.1), s ∈ ds := by
  intro s hs
  obtain ⟨x, hx, rfl⟩ := List.mem_map.1 hs
  have := List.all_eq_true.1 h x hx
  exact (any_beq _ _).1 this
/-- A loop: 'ds': the slots that a round writes; EI: what is said of some of them; HI: what turns; all else stays. -/
theorem WC_loopF {G : Type} {body : Code} (ds : List Nat) (I : G → Prop) (EI : G → Env) (HI : G → Heap) (μ : G → Nat) {F : Heap} (g0 : G) (h0 : I g0) (l : Lq (EI g0) E) (q : Pulls (HI g0) H F)
    (round : ∀ g, I g → WC X body (Post.to (Next X I (fun g => EI g ++ dropE ds E) (fun g => HI g ++ F) μ (μ g)) p) (EI g ++ dropE ds E) (HI g ++ F)) : WC X (.loop body) p E H := by
  intro a w ha hw
  refine WC_loop (E := EI g0 ++ dropE ds E) (H := HI g0 ++ F) (F := []) I (fun g => EI g ++ dropE ds E) (fun g => HI g ++ F) μ g0 h0 ?_ .all round a w (ha.le ?_) (hw.perm q.perm)
  · exact Lq.refl _
  · intro s v hs
    rw [get_append] at hs
    cases h : gtE (EI g0) s with
    | some u => rw [h] at hs; simp at hs; subst hs; exact l s u h
    | none =>
      rw [h, get_dropE] at hs
      by_cases hm : s ∈ ds
      · simp [hm] at hs
      · simpa [hm] using hs
/-- The same, HI telling all that is held. -/
theorem WC_loopH {G : Type} {body : Code} (ds : List Nat) (I : G → Prop) (EI : G → Env) (HI : G → Heap) (μ : G → Nat) {F : Heap} (g0 : G) (h0 : I g0) (l : Lq (EI g0) E) (q : Pulls (HI g0) H F)
    (round : ∀ g, I g → WC X body (Post.to (Next X I (fun g => EI g ++ dropE ds E) HI μ (μ g)) p) (EI g ++ dropE ds E) (HI g)) : WC X (.loop body) p E H := by
  intro a w ha hw
  refine WC_loop (E := EI g0 ++ dropE ds E) (H := HI g0) (F := []) I (fun g => EI g ++ dropE ds E) HI μ g0 h0 ?_ .all round a w (ha.le ?_) (hw.perm q.perm).left
  · exact Lq.refl _
  · intro s v hs
    rw [get_append] at hs
    cases h : gtE (EI g0) s with
    | some u => rw [h] at hs; simp at hs; subst hs; exact l s u h
    | none =>
      rw [h, get_dropE] at hs
      by_cases hm : s ∈ ds
      · simp [hm] at hs
      · simpa [hm] using hs
theorem WQ_nextH {G : Type} {ds : List Nat} {E0 : Env} {I : G → Prop} {EI : G → Env} {HI : G → Heap} {μ : G → Nat} {m : Nat} {F : Heap} {gg : G} (g : G) (hI : I g) (hm : μ g < m) (l : Lq (EI g) E) (hp : Pushed ds (EI gg ++ dropE ds E0) E)
    (hs : subB (EI gg) ds = true) (q : Pulls (HI g) H F) : WQ X (Next X I (fun g => EI g ++ dropE ds E0) HI μ m) E H :=
  fun _ _ ha hw => ⟨g, hI, hm, ha.le (le_frame hp (subB_spec hs) l), (hw.perm q.perm).left⟩
theorem WQ_nextF {G : Type} {ds : List Nat} {E0 : Env} {I : G → Prop} {EI : G → Env} {HI : G → Heap} {μ : G → Nat} {m : Nat} {F0 F : Heap} {gg : G} (g : G) (hI : I g) (hm : μ g < m) (l : Lq (EI g) E) (hp : Pushed ds (EI gg ++ dropE ds E0) E)
    (hs : subB (EI gg) ds = true) (q : Pulls (HI g ++ F0) H F) : WQ X (Next X I (fun g => EI g ++ dropE ds E0) (fun g => HI g ++ F0) μ m) E H :=
  fun _ _ ha hw => ⟨g, hI, hm, ha.le (le_frame hp (subB_spec hs) l), (hw.perm q.perm).left⟩
end rules
/-! ### Operations -/
/-- A quiet operation: one value, and nothing turns. -/
def Runs (X : Ctx) (o : Oper) (E : Env) (H : Heap) (v : Value) : Prop :=
  (∀ c, o.op ≠ .defer c) ∧ ∀ a w, AE X E a → HW X.H0 X.w0 H w → (execOp a.eval o).run X.P w = .ok (.value v) w
/-- Any operation that goes on. -/
def Does (X : Ctx) (o : Oper) (E : Env) (H : Heap) (R : Value → Heap → Prop) : Prop :=
  ∀ a w, AE X E a → HW X.H0 X.w0 H w → ∀ (next : Act → World → Prop) (Q : Exit → Act → World → Prop),
    (∀ v H' w', R v H' → HW X.H0 X.w0 H' w' → next (a.put o.dst v) w') → o.wpIn (fen X.ro) 0 X.P a w next Q
theorem about_true {ro : Option Nat} {P : Program} {o : Oper} {w : World} {a : Act} : ∀ f, o.about P w a.eval = some f → (fen ro).fn f := fun _ _ => trivial
theorem Runs.does {X : Ctx} {o : Oper} {E : Env} {H : Heap} {v : Value} (h : Runs X o E H v) : Does X o E H (fun u H' => u = v ∧ H' = H) := by
  intro a w ha hw next Q k
  refine ⟨about_true, ?_⟩
  rw [Oper.semAt_eq _ _ _ h.1, h.2 a w ha hw]
  exact k v H w ⟨rfl, rfl⟩ hw
def wantedE (ops : Array Oper) (E : Env) (o : Oper) : Option Bool :=
  match o.guard with
  | none => some true
  | some (j, b) => match (ops[j]?).bind (·.dst) with
    | none => some false
    | some d => match gtE E d with
      | none => none
      | some (.bool c) => some (c == b)
      | some _ => some false
theorem wantedE_spec {X : Ctx} {ops : Array Oper} {E : Env} {o : Oper} {a : Act} {t : Bool} (ha : AE X E a) (h : wantedE ops E o = some t) : Region.wanted o (yielded ops a.tmps) = t := by
  unfold wantedE at h
  unfold Region.wanted
  cases hg : o.guard with
  | none => simp only [hg] at h ⊢; simpa using h
  | some x =>
    obtain ⟨j, b⟩ := x
    simp only [hg] at h ⊢
    unfold yielded
    cases hd : (ops[j]?).bind (·.dst) with
    | none => simp only [hd] at h; simp only [Option.bind_none]; simpa using h
    | some d =>
      simp only [hd] at h
      cases he : gtE E d with
      | none => simp [he] at h
      | some v =>
        have h1 := ha.env d v he
        simp only [Option.bind_some, h1]
        cases v <;> simp_all
section steps
variable {X : Ctx} {p : Post} {E : Env} {H : Heap} {ops : Array Oper} {o : Oper} {rest : List Oper}
theorem WL_do {d : Nat} {R : Value → Heap → Prop} (hg : wantedE ops E o = some true) (hd : o.dst = some d) (hN : Nat.blt d X.N = true) (h : Does X o E H R)
    (k : ∀ v H', R v H' → WL X ops p rest ((d, v) :: E) H') : WL X ops p (o :: rest) E H := by
  intro a w ha hw
  unfold wpListIn
  rw [if_pos (wantedE_spec ha hg)]
  exact h a w ha hw _ _ fun v H' w' hr hw' => k v H' hr _ _ (by rw [hd]; exact ha.put d v hN) hw'
theorem WL_do0 {R : Value → Heap → Prop} (hg : wantedE ops E o = some true) (hd : o.dst = none) (h : Does X o E H R)
    (k : ∀ v H', R v H' → WL X ops p rest E H') : WL X ops p (o :: rest) E H := by
  intro a w ha hw
  unfold wpListIn
  rw [if_pos (wantedE_spec ha hg)]
  exact h a w ha hw _ _ fun v H' w' hr hw' => k v H' hr _ _ (by rw [hd]; exact ha.put0 v) hw'
theorem WL_val {d : Nat} {v : Value} (hg : wantedE ops E o = some true) (hd : o.dst = some d) (hN : Nat.blt d X.N = true) (h : Runs X o E H v)
    (k : WL X ops p rest ((d, v) :: E) H) : WL X ops p (o :: rest) E H :=
  WL_do hg hd hN h.does fun u H' ⟨hu, hH⟩ => by rw [hu, hH]; exact k
theorem WL_skip {d : Nat} (hg : wantedE ops E o = some false) (hd : o.dst = some d) (hN : Nat.blt d X.N = true) (k : WL X ops p rest ((d, undef) :: E) H) : WL X ops p (o :: rest) E H := by
  intro a w ha hw
  unfold wpListIn
  rw [if_neg (by rw [wantedE_spec ha hg]; simp)]
  exact ⟨about_true, k _ _ (by rw [hd]; exact ha.put d undef hN) hw⟩
theorem WL_split {s : Nat} {b : Bool} {l : List Oper} (h : gtE E s = some (.bool b)) (h1 : b = true → WL X ops p l ((s, .bool true) :: E) H) (h2 : b = false → WL X ops p l ((s, .bool false) :: E) H) : WL X ops p l E H := by
  have key : ∀ (c : Bool), b = c → ∀ a, AE X E a → AE X ((s, .bool c) :: E) a := fun c hc a ha => ⟨ha.size, ha.defers, fun t v ht => by
    rw [get_cons] at ht
    split at ht
    · rename_i e; subst e; cases ht; rw [← hc]; exact ha.env _ _ h
    · exact ha.env _ _ ht⟩
  intro a w ha hw
  cases hb : b with
  | true => exact h1 hb a w (key true hb a ha) hw
  | false => exact h2 hb a w (key false hb a ha) hw
theorem WL_splitD {s : Nat} {q : Prop} [Decidable q] {l : List Oper} (h : gtE E s = some (.bool (decide q))) (h1 : q → WL X ops p l ((s, .bool true) :: E) H) (h2 : ¬ q → WL X ops p l ((s, .bool false) :: E) H) : WL X ops p l E H :=
  WL_split h (fun e => h1 (of_decide_eq_true e)) (fun e => h2 (of_decide_eq_false e))
/-- A slot's value said otherwise. -/
theorem WL_set {s : Nat} {v v' : Value} {l : List Oper} (h : gtE E s = some v') (he : v' = v) (k : WL X ops p l ((s, v) :: E) H) : WL X ops p l E H := by
  subst he
  intro a w ha hw
  refine k a w ⟨ha.size, ha.defers, fun t v ht => ?_⟩ hw
  rw [get_cons] at ht
  split at ht
  · rename_i e; subst e; cases ht; exact ha.env _ _ h
  · exact ha.env _ _ ht
theorem WC_set {s : Nat} {v v' : Value} {c : Code} (h : gtE E s = some v') (he : v' = v) (k : WC X c p ((s, v) :: E) H) : WC X c p E H := by
  subst he
  intro a w ha hw
  refine k a w ⟨ha.size, ha.defers, fun t v ht => ?_⟩ hw
  rw [get_cons] at ht
  split at ht
  · rename_i e; subst e; cases ht; exact ha.env _ _ h
  · exact ha.env _ _ ht
end steps
/-! ### Short words for the steps that every walk asks for -/
theorem plZ {x : Ent} {H F : Heap} (h : Pull x H F := by repeat (first | exact Pull.head | apply Pull.tail)) : Pull x H F := h
theorem pqZ {A H F : Heap} (h : Pulls A H F := by repeat (first | exact Pulls.nil | exact Pulls.all | (apply Pulls.cons; (repeat (first | exact Pull.head | apply Pull.tail))) | apply Pulls.skip)) : Pulls A H F := h
theorem mmZ {x : Ent} {H : Heap} (h : x ∈ H := by repeat (first | exact List.Mem.head _ | refine List.Mem.tail _ ?_)) : x ∈ H := h
theorem leZ {A E : Env} (h : Le A E := by repeat (first | exact Le.nil | refine Le.cons rfl (by first | rfl | (congr 1; omega)) ?_)) : Lq A E := h.lq
theorem psZ {ds : List Nat} {B E : Env} (h : Pushed ds B E := by repeat (first | exact Pushed.refl | refine Pushed.push rfl ?_)) : Pushed ds B E := h
end Go.Proofs.YtkcfgglmlogjbaaGreat
end
section
namespace Go.Proofs.YtkcfgglmlogjbaaGreat
section
variable {X : Ctx} {E : Env} {H : Heap} {o : Oper}
theorem Runs.of {v : Value} (h0 : ∀ c, o.op ≠ .defer c) (h : ∀ a w, AE X E a → HW X.H0 X.w0 H w → (execOp a.eval o).run X.P w = .ok (.value v) w) : Runs X o E H v := ⟨h0, h⟩
theorem R_move {x : Operand} {v : Value} (ho : o.op = .move x) (h : ev E x = some v) : Runs X o E H v :=
  ⟨(by rw [ho]; intro c e; cases e), fun a w ha _ => by simp [execOp, ho, ha.eval h]⟩
theorem R_assign {x : Operand} {v : Value} (ho : o.op = .assign x) (h : ev E x = some v) : Runs X o E H v :=
  ⟨(by rw [ho]; intro c e; cases e), fun a w ha _ => by simp [execOp, ho, ha.eval h]⟩
theorem R_pickT {c x y : Operand} {v : Value} (ho : o.op = .pick c x y) (hc : ev E c = some (.bool true)) (h : ev E x = some v) : Runs X o E H v :=
  ⟨(by rw [ho]; intro c e; cases e), fun a w ha _ => by simp [execOp, ho, ha.eval h, ha.eval hc, asBool]⟩
theorem R_pickF {c x y : Operand} {v : Value} (ho : o.op = .pick c x y) (hc : ev E c = some (.bool false)) (h : ev E y = some v) : Runs X o E H v :=
  ⟨(by rw [ho]; intro c e; cases e), fun a w ha _ => by simp [execOp, ho, ha.eval h, ha.eval hc, asBool]⟩
theorem R_nilCheck {x : Operand} {ad : Addr} (ho : o.op = .nilCheck x) (h : ev E x = some (.pointer (some ad))) : Runs X o E H (.pointer (some ad)) :=
  ⟨(by rw [ho]; intro c e; cases e), fun a w ha _ => by simp [execOp, ho, ha.eval h]⟩
theorem R_not {t : TypeId} {x : Operand} {b : Bool} (ho : o.op = .unOp .not t x) (h : ev E x = some (.bool b)) : Runs X o E H (.bool (!b)) :=
  ⟨(by rw [ho]; intro c e; cases e), fun a w ha _ => by simp [execOp, ho, ha.eval h, Op.unary]⟩
theorem R_notD {t : TypeId} {x : Operand} {q : Prop} [Decidable q] (ho : o.op = .unOp .not t x) (h : ev E x = some (.bool (decide q))) : Runs X o E H (.bool (decide (¬ q))) :=
  ⟨(by rw [ho]; intro c e; cases e), fun a w ha _ => by simp [execOp, ho, ha.eval h, Op.unary]⟩
/-! integers -/
theorem R_arith {op : BinOp} {t t' : TypeId} {x y : Operand} {k : IntKind} {m n r : Int} (ho : o.op = .binOp op t x y t') (hx : ev E x = some (.int k m)) (hy : ev E y = some (.int k n))
    (hr : ∀ w, (binOp op t (.int k m) (.int k n)).run X.P w = .ok (.int k r) w) : Runs X o E H (.int k r) :=
  ⟨(by rw [ho]; intro c e; cases e), fun a w ha _ => by
    simp only [execOp, ho, ha.eval hx, ha.eval hy]
    simp [go_sem, hr]⟩
theorem wrap64_in {n : Int} (h1 : -9223372036854775808 ≤ n) (h2 : n ≤ 9223372036854775807) : IntKind.i64.wrap n = n := IntWalk.i64_in n ⟨h1, h2⟩
theorem R_add {t t' : TypeId} {x y : Operand} {m n : Int} (ho : o.op = .binOp .add t x y t') (hx : ev E x = some (.int .i64 m)) (hy : ev E y = some (.int .i64 n))
    (h : -9223372036854775808 ≤ m + n ∧ m + n ≤ 9223372036854775807) : Runs X o E H (.int .i64 (m + n)) :=
  R_arith ho hx hy fun w => by simp [go_sem, Op.intArith, wrap64_in h.1 h.2]
theorem R_sub {t t' : TypeId} {x y : Operand} {m n : Int} (ho : o.op = .binOp .sub t x y t') (hx : ev E x = some (.int .i64 m)) (hy : ev E y = some (.int .i64 n))
    (h : -9223372036854775808 ≤ m - n ∧ m - n ≤ 9223372036854775807) : Runs X o E H (.int .i64 (m - n)) :=
  R_arith ho hx hy fun w => by simp [go_sem, Op.intArith, wrap64_in h.1 h.2]
theorem R_addW {t t' : TypeId} {x y : Operand} {k : IntKind} {m n : Int} (ho : o.op = .binOp .add t x y t') (hx : ev E x = some (.int k m)) (hy : ev E y = some (.int k n)) :
    Runs X o E H (.int k (k.wrap (m + n))) := R_arith ho hx hy fun w => by simp [go_sem, Op.intArith]
theorem R_subW {t t' : TypeId} {x y : Operand} {k : IntKind} {m n : Int} (ho : o.op = .binOp .sub t x y t') (hx : ev E x = some (.int k m)) (hy : ev E y = some (.int k n)) :
    Runs X o E H (.int k (k.wrap (m - n))) := R_arith ho hx hy fun w => by simp [go_sem, Op.intArith]
theorem R_mulW {t t' : TypeId} {x y : Operand} {k : IntKind} {m n : Int} (ho : o.op = .binOp .mul t x y t') (hx : ev E x = some (.int k m)) (hy : ev E y = some (.int k n)) :
    Runs X o E H (.int k (k.wrap (m * n))) := R_arith ho hx hy fun w => by simp [go_sem, Op.intArith]
theorem R_cmp {op : BinOp} {t t' : TypeId} {x y : Operand} {k : IntKind} {m n : Int} {r : Bool} (ho : o.op = .binOp op t x y t') (hx : ev E x = some (.int k m)) (hy : ev E y = some (.int k n))
    (hr : ∀ w, (binOp op t (.int k m) (.int k n)).run X.P w = .ok (.bool r) w) : Runs X o E H (.bool r) :=
  ⟨(by rw [ho]; intro c e; cases e), fun a w ha _ => by
    simp only [execOp, ho, ha.eval hx, ha.eval hy]
    simp [go_sem, hr]⟩
theorem R_lss {t t' : TypeId} {x y : Operand} {k : IntKind} {m n : Int} (ho : o.op = .binOp .lss t x y t') (hx : ev E x = some (.int k m)) (hy : ev E y = some (.int k n)) : Runs X o E H (.bool (decide (m < n))) :=
  R_cmp ho hx hy fun w => by simp [go_sem]
theorem R_leq {t t' : TypeId} {x y : Operand} {k : IntKind} {m n : Int} (ho : o.op = .binOp .leq t x y t') (hx : ev E x = some (.int k m)) (hy : ev E y = some (.int k n)) : Runs X o E H (.bool (decide (m ≤ n))) :=
  R_cmp ho hx hy fun w => by simp [go_sem]
theorem R_gtr {t t' : TypeId} {x y : Operand} {k : IntKind} {m n : Int} (ho : o.op = .binOp .gtr t x y t') (hx : ev E x = some (.int k m)) (hy : ev E y = some (.int k n)) : Runs X o E H (.bool (decide (n < m))) :=
  R_cmp ho hx hy fun w => by simp [go_sem]
theorem R_geq {t t' : TypeId} {x y : Operand} {k : IntKind} {m n : Int} (ho : o.op = .binOp .geq t x y t') (hx : ev E x = some (.int k m)) (hy : ev E y = some (.int k n)) : Runs X o E H (.bool (decide (n ≤ m))) :=
  R_cmp ho hx hy fun w => by simp [go_sem]
theorem R_eql {t t' : TypeId} {x y : Operand} {k : IntKind} {m n : Int} (ho : o.op = .binOp .eql t x y t') (hx : ev E x = some (.int k m)) (hy : ev E y = some (.int k n)) : Runs X o E H (.bool (decide (m = n))) :=
  R_cmp ho hx hy fun w => by
    have e : (m == n) = decide (m = n) := by rw [Bool.eq_iff_iff]; simp
    simp [go_sem, e]
theorem R_neq {t t' : TypeId} {x y : Operand} {k : IntKind} {m n : Int} (ho : o.op = .binOp .neq t x y t') (hx : ev E x = some (.int k m)) (hy : ev E y = some (.int k n)) : Runs X o E H (.bool (decide (m ≠ n))) :=
  R_cmp ho hx hy fun w => by
    have e : (m != n) = decide (m ≠ n) := by rw [Bool.eq_iff_iff]; simp
    simp [go_sem, e]
/-! other comparisons -/
theorem R_bin {op : BinOp} {t t' : TypeId} {x y : Operand} {u v r : Value} (ho : o.op = .binOp op t x y t') (hx : ev E x = some u) (hy : ev E y = some v)
    (hg : ∀ w, (eqGuard op t x y u v).run X.P w = .ok () w) (hr : ∀ w, (binOp op t u v).run X.P w = .ok r w) : Runs X o E H r :=
  ⟨(by rw [ho]; intro c e; cases e), fun a w ha _ => by
    simp only [execOp, ho, ha.eval hx, ha.eval hy]
    simp [hg, hr]⟩
theorem eqi_slice {P : Program} (w : World) (d : Nat) (t u : TypeId) (a : Option Addr) (n c : Nat) (h : P.underlying t = some (.slice u)) : (Op.equalIn (d + 1) t (.slice a n c) (.slice none 0 0)).run P w = .ok a.isNone w := by
  cases a <;> simp [Op.equalIn, run_underlying h]
theorem R_ptrEqNil {t t' : TypeId} {x : Operand} {ad : Option Addr} {u : TypeId} (ho : o.op = .binOp .eql t x (.const (.pointer none)) t') (hu : X.P.underlying t = some (.pointer u))
    (hx : ev E x = some (.pointer ad)) : Runs X o E H (.bool ad.isNone) :=
  R_bin ho hx rfl (fun w => by simp [go_sem]) fun w => by
    have h1 : X.P.pointee t = u := by simp [Program.pointee, hu]
    rw [run_eql_pointer_nil w t ad (by rw [h1]; exact hu)]
theorem R_ptrNeNil {t t' : TypeId} {x : Operand} {ad : Option Addr} {u : TypeId} (ho : o.op = .binOp .neq t x (.const (.pointer none)) t') (hu : X.P.underlying t = some (.pointer u))
    (hx : ev E x = some (.pointer ad)) : Runs X o E H (.bool (!ad.isNone)) :=
  R_bin ho hx rfl (fun w => by simp [go_sem]) fun w => by
    have h1 : X.P.pointee t = u := by simp [Program.pointee, hu]
    rw [run_neq_pointer_nil w t ad (by rw [h1]; exact hu)]
theorem R_sliceEqNil {t t' : TypeId} {x : Operand} {ad : Option Addr} {n c : Nat} {u : TypeId} (ho : o.op = .binOp .eql t x (.const (.slice none 0 0)) t') (hu : X.P.underlying t = some (.slice u))
    (hx : ev E x = some (.slice ad n c)) : Runs X o E H (.bool ad.isNone) :=
  R_bin ho hx rfl (fun w => by simp [go_sem]) fun w => by
    have h := eqi_slice (P := X.P) w 9999 t u ad n c hu
    simp only [binOp, Op.equal, Op.maxDepth, Sem.run_bind, h, Result.andThen_ok, Sem.run_pure]
def FldAt (P : Program) (s : TypeId) (f off : Nat) : Prop := ∀ a w, (Instr.fieldAt s (.pointer (some a)) f).run P w = .ok (.pointer (some (a.add off))) w
theorem FldAt.mk {P : Program} {s : TypeId} {fs : Array Field} {f off n : Nat} {fl : Field} (hu : P.underlying s = some (.struct fs)) (hf : fs[f]? = some fl) (ho : fl.offset = off)
    (hz : ∀ w, (sizeOf fl.type).run P w = .ok n w) (hn : n ≠ 0) : FldAt P s f off := fun a w => by
  simp [Instr.fieldAt, run_underlying hu, hf, Instr.sureAddr, fieldPlace, hz, hn, ho]
def Sc (P : Program) (t : TypeId) : Prop := ∀ w, (isAgg t).run P w = .ok false w ∧ (sizeOf t).run P w = .ok 1 w
def Ag (P : Program) (t : TypeId) (n : Nat) : Prop := ∀ w, (isAgg t).run P w = .ok true w ∧ (sizeOf t).run P w = .ok n w
def Zv (P : Program) (t : TypeId) (zs : List Value) : Prop := ∃ z, z.cells = zs.toArray ∧ ∀ w, (zeroValue t).run P w = .ok z w
theorem add_at (b k n : Nat) : (Addr.add ⟨b, k, none⟩ n) = ⟨b, k + n, none⟩ := by
  unfold Addr.add; split <;> simp_all
theorem R_fieldAddr {s : TypeId} {x : Operand} {f b k off : Nat} (ho : o.op = .fieldAddr s x f) (hf : FldAt X.P s f off) (hx : ev E x = some (.pointer (some ⟨b, k, none⟩))) :
    Runs X o E H (.pointer (some ⟨b, k + off, none⟩)) :=
  ⟨(by rw [ho]; intro c e; cases e), fun a w ha _ => by simp [execOp, ho, ha.eval hx, hf ⟨b, k, none⟩ w, add_at]⟩
/-! ### Reading -/
theorem cell_of {H0 : Heap} {w0 w : World} {b : Nat} {cs : List Value} {e : TypeId} (hw : HW H0 w0 H w) (hm : (⟨some b, cl cs e⟩ : Ent) ∈ H) (j : Nat) : w.cell? ⟨b, j, none⟩ = cs[j]? := by
  have := hw.hok.ok _ hm
  simp only [Ent.ok, cl] at this
  simp [World.cell?, this]
theorem R_load {t : TypeId} {x : Operand} {b k : Nat} {cs : List Value} {e : TypeId} {v : Value} (ho : o.op = .load t x) (ht : Sc X.P t) (hx : ev E x = some (.pointer (some ⟨b, k, none⟩)))
    (hm : (⟨some b, cl cs e⟩ : Ent) ∈ H) (hv : cs[k]? = some v) : Runs X o E H v :=
  ⟨(by rw [ho]; intro c e; cases e), fun a w ha hw => by
    have hc := cell_of hw hm k
    rw [hv] at hc
    simp [execOp, ho, ha.eval hx, Instr.loadAt, Instr.sureAddr, loadVar, (ht w).1, hc]⟩
/-- 'vs' lie in 'cs' from place k on. -/
def At (cs : List Value) (k : Nat) (vs : List Value) : Prop := ∀ j v, vs[j]? = some v → cs[k + j]? = some v
theorem At.nil {cs : List Value} {k : Nat} : At cs k [] := fun j v h => by simp at h
theorem At.cons {c : Value} {cs vs : List Value} (h : At cs 0 vs) : At (c :: cs) 0 (c :: vs) := fun j v hj => by
  cases j with
  | zero => simpa using hj
  | succ j => have := h j v (by simpa using hj); simpa using this
theorem At.succ {c : Value} {cs vs : List Value} {k : Nat} (h : At cs k vs) : At (c :: cs) (k + 1) vs := fun j v hj => by
  have := h j v hj
  rw [show k + 1 + j = (k + j) + 1 from by omega]
  simpa using this
theorem At.all {cs : List Value} : At cs 0 cs := fun j v h => by simpa using h
theorem R_loadA {t : TypeId} {x : Operand} {b k n : Nat} {cs : List Value} {e : TypeId} {vs : List Value} (ho : o.op = .load t x) (ht : Ag X.P t n) (hx : ev E x = some (.pointer (some ⟨b, k, none⟩)))
    (hm : (⟨some b, cl cs e⟩ : Ent) ∈ H) (hn : vs.length = n) (hv : At cs k vs) : Runs X o E H (.agg vs.toArray) :=
  ⟨(by rw [ho]; intro c e; cases e), fun a w ha hw => by
    have hl := run_loadCells_list (P := X.P) w ⟨b, k, none⟩ vs (fun j v hj => by rw [add_at, cell_of hw hm]; exact hv j v hj)
    simp [execOp, ho, ha.eval hx, Instr.loadAt, Instr.sureAddr, loadVar, (ht w).1, (ht w).2, ← hn, hl]⟩
end
/-! ### Heaps that turn -/
section
variable {X : Ctx}
theorem HW.cons_lt {H : Heap} {w : World} (hw : HOK H w) {k : Nat} (hk : w.heap.size ≤ k) : k ∉ keys H := fun h => by have := hw.lt h; omega
/-- A new block. -/
theorem HW.alloc {H0 H : Heap} {w0 w : World} (hw : HW H0 w0 H w) (ob : Obj) : HW H0 w0 (⟨some w.heap.size, ob⟩ :: H) (w.alloc ob) := by
  refine ⟨⟨?_, ?_⟩, hw.os, hw.tape, hw.output, by have := hw.size; simp; omega, ?_, ?_, hw.dr⟩
  · simp only [keys, List.filterMap_cons, List.nodup_cons]
    exact ⟨HW.cons_lt hw.hok (Nat.le_refl _), hw.hok.nodup⟩
  · intro x hx
    rcases List.mem_cons.1 hx with rfl | hx
    · exact World.alloc_heap_new w ob
    · have := hw.hok.ok x hx
      cases hb : x.b with
      | none => simp only [Ent.ok, hb] at this ⊢; exact this
      | some b =>
        simp only [Ent.ok, hb] at this ⊢
        have hlt := hw.hok.lt (mem_keys.2 ⟨x, hx, hb⟩)
        rw [← this]
        exact RowKit.Below.heap_alloc _ _ _ hlt
  · intro k hk hn
    rw [RowKit.Below.heap_alloc _ _ _ (Nat.lt_of_lt_of_le hk hw.size)]
    exact hw.kept k hk hn
  · intro k hk
    simp only [keys, List.filterMap_cons, List.mem_cons] at hk
    rcases hk with rfl | hk
    · right; exact hw.size
    · exact hw.own k hk
/-- A block of the heap becomes another object. -/
theorem HW.turn {H0 H F : Heap} {w0 w w' : World} {b : Nat} {ob ob' : Obj} (hw : HW H0 w0 H w) (hp : Pull ⟨some b, ob⟩ H F) (h1 : w'.heap.size = w.heap.size) (h2 : w'.heap[b]? = some ob')
    (h3 : ∀ k, k ≠ b → w'.heap[k]? = w.heap[k]?) (h4 : w'.os = w.os) (h5 : w'.tape = w.tape) (h6 : w'.output = w.output) (h7 : w'.drawn = w.drawn := by rfl) : HW H0 w0 (⟨some b, ob'⟩ :: F) w' := by
  have hw1 := hw.perm hp.perm
  have hnd := hw1.hok.nodup
  simp only [keys, List.filterMap_cons, List.nodup_cons] at hnd
  have hbk : b ∈ keys (⟨some b, ob⟩ :: F) := by simp [keys]
  refine ⟨⟨?_, ?_⟩, h4.trans hw.os, h5.trans hw.tape, h6.trans hw.output, by have := hw.size; omega, ?_, ?_, h7 ▸ hw.dr⟩
  · simp only [keys, List.filterMap_cons, List.nodup_cons]; exact hnd
  · intro x hx
    rcases List.mem_cons.1 hx with rfl | hx2
    · simpa [Ent.ok] using h2
    · have := hw1.hok.ok x (List.mem_cons_of_mem _ hx2)
      cases hb : x.b with
      | none => simp only [Ent.ok, hb] at this ⊢; exact this
      | some c =>
        simp only [Ent.ok, hb] at this ⊢
        have hne : c ≠ b := fun e => hnd.1 (by subst e; exact List.mem_filterMap.2 ⟨x, hx2, hb⟩)
        rw [h3 c hne]; exact this
  · intro k hk hn
    have hkb : k ≠ b := by
      intro e; subst e
      rcases hw1.own k hbk with h | h
      · exact hn h
      · omega
    rw [h3 k hkb]; exact hw.kept k hk hn
  · intro k hk
    have : k ∈ keys (⟨some b, ob⟩ :: F) := by simpa [keys] using hk
    exact hw1.own k this
end
/-- vs are put into cs from place k on. -/
def putAt : List Value → Nat → List Value → List Value
  | [], _, _ => []
  | c :: cs, 0, [] => c :: cs
  | _ :: cs, 0, v :: vs => v :: putAt cs 0 vs
  | c :: cs, k + 1, vs => c :: putAt cs k vs
theorem putAt_nil : ∀ (cs : List Value) (k : Nat), putAt cs k [] = cs
  | [], _ => by simp [putAt]
  | c :: cs, 0 => by simp [putAt]
  | c :: cs, k + 1 => by simp [putAt, putAt_nil cs k]
theorem putAt_cons : ∀ (cs : List Value) (k : Nat) (v : Value) (vs : List Value), putAt cs k (v :: vs) = putAt (cs.set k v) (k + 1) vs
  | [], _, _, _ => by simp [putAt]
  | c :: cs, 0, v, vs => by simp [putAt]
  | c :: cs, k + 1, v, vs => by simp [putAt, putAt_cons cs k v vs]
theorem putAt_eq : ∀ (cs : List Value) (k : Nat) (vs : List Value), k + vs.length ≤ cs.length → putAt cs k vs = cs.take k ++ vs ++ cs.drop (k + vs.length)
  | [], k, vs, h => by
    have : vs = [] := by simp at h; exact h.2
    subst this; simp [putAt]
  | c :: cs, 0, [], _ => by simp [putAt]
  | c :: cs, 0, v :: vs, h => by
    have := putAt_eq cs 0 vs (by simp at h; omega)
    simp [putAt, this]
  | c :: cs, k + 1, vs, h => by
    have := putAt_eq cs k vs (by simp at h; omega)
    simp only [putAt, this, List.take_succ_cons, List.cons_append]
    rw [show k + 1 + vs.length = (k + vs.length) + 1 from by omega, List.drop_succ_cons]
theorem run_store_at {P : Program} {w : World} {b : Nat} {cs : List Value} {e : TypeId} {k : Nat} {v : Value} (hb : w.heap[b]? = some (cl cs e)) (hk : k < cs.length) (hv : v.oneCell' = true) :
    (store ⟨b, k, none⟩ v).run P w = .ok () (w.setCell ⟨b, k, none⟩ v) ∧ (w.setCell ⟨b, k, none⟩ v).heap[b]? = some (cl (cs.set k v) e) := by
  have hc : w.cell? ⟨b, k, none⟩ = some cs[k] := by simp [World.cell?, hb, cl, hk]
  have hf : w.frozen? ⟨b, k, none⟩ = false := by simp [World.frozen?, hb, cl]
  refine ⟨by rw [run_store _ _ _ _ _ hv]; simp [hc, hf], ?_⟩
  have := heap_setCell_same w b k cs.toArray e v hb
  rw [this]; simp [cl]
/-- A store of several cells. -/
theorem run_storeCells_at {P : Program} {b : Nat} {e : TypeId} (k0 : Nat) : ∀ (vs : List Value) (i : Nat) (cs : List Value) (w : World), w.heap[b]? = some (cl cs e) → k0 + i + vs.length ≤ cs.length → (∀ v ∈ vs, v.oneCell' = true) →
    ∃ w', (storeCells ⟨b, k0, none⟩ vs i).run P w = .ok () w' ∧ w'.heap.size = w.heap.size ∧ w'.heap[b]? = some (cl (putAt cs (k0 + i) vs) e) ∧ (∀ k, k ≠ b → w'.heap[k]? = w.heap[k]?) ∧
      w'.os = w.os ∧ w'.tape = w.tape ∧ w'.output = w.output ∧ w'.drawn = w.drawn
  | [], i, cs, w, hb, _, _ => ⟨w, by simp [storeCells], rfl, by rw [putAt_nil]; exact hb, fun _ _ => rfl, rfl, rfl, rfl, rfl⟩
  | v :: vs, i, cs, w, hb, hl, hv => by
    simp only [List.length_cons] at hl
    obtain ⟨h1, h2⟩ := run_store_at (P := P) hb (k := k0 + i) (by omega) (hv v (by simp))
    obtain ⟨w', g1, g2, g3, g4, g5, g6, g7, g8⟩ := run_storeCells_at (P := P) k0 vs (i + 1) (cs.set (k0 + i) v) _ h2 (by simp; omega) (fun u hu => hv u (List.mem_cons_of_mem _ hu))
    refine ⟨w', ?_, by rw [g2]; simp, ?_, fun k hk => by rw [g4 k hk]; exact RowKit.Below.heap_setCell _ _ _ _ hk, g5, g6, g7, g8⟩
    · simp only [storeCells, Sem.run_bind, add_at, h1, Result.andThen_ok, g1]
    · rw [g3, putAt_cons, Nat.add_assoc]
section
variable {X : Ctx} {E : Env} {H : Heap} {o : Oper}
theorem semAt_of {ro : Option Nat} {ρ : Operand → Value} (h : ∀ c, o.op ≠ .defer c) : o.semAt ro ρ = execOp ρ o := Oper.semAt_eq ro ρ o h
theorem D_alloc {t : TypeId} {zs : List Value} (ho : o.op = .alloc t) (hz : Zv X.P t zs) :
    Does X o E H (fun v H' => ∃ b, v = .pointer (some ⟨b, 0, none⟩) ∧ H' = ⟨some b, cl zs t⟩ :: H) := by
  intro a w ha hw next Q k
  obtain ⟨z, h1, h2⟩ := hz
  refine ⟨about_true, ?_⟩
  rw [semAt_of (by rw [ho]; intro c e; cases e)]
  have hrun : (execOp a.eval o).run X.P w = .ok (.value (.pointer (some ⟨w.heap.size, 0, none⟩))) (w.alloc (cl zs t)) := by
    simp [execOp, ho, Instr.alloc, h2 w, newVar, newRow, h1, cl]
  rw [hrun]
  exact k _ _ _ ⟨_, rfl, rfl⟩ (hw.alloc _)
theorem D_box {t : TypeId} {x : Operand} {v : Value} {cs : List Value} (ho : o.op = .box t x) (hx : ev E x = some v) (hc : v.cells.toList = cs) :
    Does X o E H (fun v H' => ∃ b, v = .pointer (some ⟨b, 0, none⟩) ∧ H' = ⟨some b, cl cs t⟩ :: H) := by
  intro a w ha hw next Q k
  refine ⟨about_true, ?_⟩
  rw [semAt_of (by rw [ho]; intro c e; cases e)]
  have hrun : (execOp a.eval o).run X.P w = .ok (.value (.pointer (some ⟨w.heap.size, 0, none⟩))) (w.alloc (cl cs t)) := by
    simp [execOp, ho, Instr.box, newVar, newRow, ha.eval hx, cl, ← hc]
  rw [hrun]
  exact k _ _ _ ⟨_, rfl, rfl⟩ (hw.alloc _)
theorem D_store {t : TypeId} {x y : Operand} {b k n : Nat} {v : Value} {cs vs : List Value} {e : TypeId} {F : Heap} (ho : o.op = .store t x y) (hs : ∀ w, (sizeOf t).run X.P w = .ok n w)
    (hx : ev E x = some (.pointer (some ⟨b, k, none⟩))) (hy : ev E y = some v) (hv : v.cells.toList = vs) (hn : vs.length = n) (h1 : vs.all Value.oneCell' = true)
    (hp : Pull ⟨some b, cl cs e⟩ H F) (hk : k + n ≤ cs.length) : Does X o E H (fun _ H' => H' = ⟨some b, cl (putAt cs k vs) e⟩ :: F) := by
  intro a w ha hw next Q kk
  refine ⟨about_true, ?_⟩
  rw [semAt_of (by rw [ho]; intro c e; cases e)]
  have hb : w.heap[b]? = some (cl cs e) := by
    have := (hw.perm hp.perm).hok.ok _ (List.mem_cons_self ..)
    simpa [Ent.ok] using this
  obtain ⟨w', g1, g2, g3, g4, g5, g6, g7, g8⟩ := run_storeCells_at (P := X.P) (b := b) (e := e) k vs 0 cs w hb (by omega) (List.all_eq_true.1 h1)
  have hsz : v.cells.size = n := by rw [← Array.length_toList, hv, hn]
  have hrun : (execOp a.eval o).run X.P w = .ok .skip w' := by
    simp [execOp, ho, Instr.storeAt, Instr.sureAddr, storeVar, ha.eval hx, ha.eval hy, hs, hsz, hv, g1]
  rw [hrun]
  exact kk undef _ _ rfl (hw.turn hp g2 g3 g4 g5 g6 g7 g8)
end
/-! ### Contracts and calls -/
def Enters (P : Program) (f : FuncId) : Prop := ∀ args w, (callFunc f args).run P w = .ok (.enter f args) w
theorem Enters.mk {P : Program} {f : FuncId} {fn : Func} {c : Code} (hf : P.funcs[f]? = some fn) (hname : (fn.name == "runtime.NumGoroutine") = false) (hb : fn.body = some c) : Enters P f := by
  intro args w
  have h1 : fn.name ≠ "runtime.NumGoroutine" := by simpa using hname
  simp [callFunc, hf, h1, hb, mark]
/-- **A CONTRACT**: in every memory that holds H, the function returns; what it returns, and what then lies at H's blocks and in new ones, 'post' tells; nothing else has turned. -/
structure Spec (P : Program) (f : FuncId) (args : List Value) (H : Heap) (post : Value → Heap → Prop) : Prop where
  enters : Enters P f
  calls : ∀ w, HOK H w → CallsIn Fence.wide 0 P f args.toArray w (fun e w' => ∃ v H', e = .returned v ∧ post v H' ∧ HW H w H' w')
theorem Spec.mono {P : Program} {f : FuncId} {args : List Value} {H : Heap} {post post' : Value → Heap → Prop} (h : Spec P f args H post) (hp : ∀ v H', post v H' → post' v H') : Spec P f args H post' :=
  ⟨h.enters, fun w hw => (h.calls w hw).mono fun _ _ ⟨v, H', e, p, r⟩ => ⟨v, H', e, hp v H' p, r⟩⟩
def callee (E : Env) (x : Operand) : Option (FuncId × List Value × List Value) :=
  match ev E x with
  | some (.func (.func f) fi ca) => some (f, fi.toList, ca.toList)
  | _ => none
theorem callee_spec {E : Env} {x : Operand} {f : FuncId} {fi ca : List Value} (h : callee E x = some (f, fi, ca)) : ev E x = some (.func (.func f) fi.toArray ca.toArray) := by
  unfold callee at h
  split at h
  · rename_i f' fi' ca' he
    cases h
    simpa using he
  · cases h
section
variable {X : Ctx} {E : Env} {H : Heap} {o : Oper}
theorem D_call {f : FuncId} {x : Operand} {args : List Operand} {tys : Array TypeId} {ars vs fi ca : List Value} {Hp F : Heap} {post : Value → Heap → Prop} (hs : Spec X.P f ars Hp post)
    (ho : o.op = .call { callee := .value x, args := args.toArray, argTypes := tys }) (hx : callee E x = some (f, fi, ca)) (ha : evs E args = some vs) (he : fi ++ vs ++ ca = ars) (hp : Pulls Hp H F) :
    Does X o E H (fun v H' => ∃ H1, post v H1 ∧ H' = H1 ++ F) := by
  intro a w hA hw next Q k
  have hfe := callee_spec hx
  subst he
  refine ⟨about_true, ?_⟩
  rw [semAt_of (by rw [ho]; intro c e; cases e)]
  have hrun : (execOp a.eval o).run X.P w = .ok (.enter f (fi ++ vs ++ ca).toArray) w := by
    have hen := hs.enters (fi ++ vs ++ ca).toArray w
    simp only [List.append_assoc] at hen
    simp [execOp, ho, resolve, hA.evals ha, hA.eval hfe, Deferred.ofValue, invoke, hen]
  rw [hrun]
  refine ⟨fun h => by simp [fen, Fence.wide] at h, ?_⟩
  have hc := hs.calls w (hw.perm hp.perm).left.hok
  have hc2 : CallsIn (fen X.ro) (0 - 1) X.P f (fi ++ vs ++ ca).toArray w (fun e w' => ∃ v H', e = .returned v ∧ post v H' ∧ HW Hp w H' w') := by
    cases hr : X.ro with
    | none => exact hc
    | some l => exact CallsIn.inRound l hc
  refine hc2.mono ?_
  rintro e w' ⟨v, H1, rfl, hpost, hw1⟩
  exact k v _ w' ⟨H1, hpost, rfl⟩ (hw.frame hp.perm hw1)
end
theorem atZ {cs vs : List Value} {k : Nat} (h : At cs k vs := by repeat (first | exact At.nil | refine At.cons ?_ | refine At.succ ?_)) : At cs k vs := h
end Go.Proofs.YtkcfgglmlogjbaaGreat
end
section
namespace Go.Proofs.YtkcfgglmlogjbaaGreat
open Go.ChangeShapes Go.WideShapes Go.ChangeAt Go.RowKit Go.Joins
theorem below_of {H0 H : Heap} {w0 w : World} (h0 : HOK H0 w0) (h : HW H0 w0 H w) (hk : ∀ x ∈ H0, x ∈ H) : Below w0.heap.size w0 w := by
  refine ⟨h.os, h.tape, h.output, h.size, fun k hlt => ?_⟩
  by_cases hm : k ∈ keys H0
  · obtain ⟨x, hx, hb⟩ := mem_keys.1 hm
    have e1 := h0.ok x hx
    have e2 := h.hok.ok x (hk x hx)
    unfold Ent.ok at e1 e2
    rw [hb] at e1 e2
    rw [e1, e2]
  · exact h.kept k hlt hm
section
variable {H : Type} {enc : TypeId × Value → H} {P : Program}
theorem again {ts : List TypeId} {vs : List Value} {ds : List (DataW H)} {p : List MemPlace} {W W' : World} (hl : laidOutB P = true) (hm : mapsRowed P = true)
    (hz : ∀ t e, t < P.types.size → P.underlying t = some (.slice e) → 0 < P.cellsOf e) (hts : ∀ t ∈ ts, t < P.types.size)
    (hA : DataW.TrodAll enc P W 0 (fun _ => true) true ts vs ds p) (hb : Below W.heap.size W W') (sp : Nat → Bool) (hsp : ∀ x ∈ p, sp x.block = true) :
    DataW.TrodAll enc P W' 0 sp true ts vs ds p := by
  have h1 := DataW.TrodAll.respare (kids_rows hl hm) hz hts hA hsp
  clear hA hsp
  have hlt := DataW.TrodAll.lt h1
  induction ts generalizing vs ds p with
  | nil =>
    obtain ⟨rfl, rfl, rfl⟩ := trodAll_nil h1
    exact trodAll_mk0
  | cons t ts ih =>
    obtain ⟨v, vs', d, ds', p1, q, rfl, rfl, rfl, ⟨n, hn⟩, r⟩ := trodAll_cons h1
    exact trodAll_cons_mk ⟨n, DataW.trod_carry n _ _ _ hn (fun x hx => hb.same (hlt x (List.mem_append_left _ hx)))⟩
      (ih (fun x hx => hts x (List.mem_cons_of_mem _ hx)) r (fun x hx => hlt x (List.mem_append_right _ hx)))
/-- The row's post, of a law that answers true and writes no old block. -/
theorem law_post {f : Func} {s : ChangeSpec} {apart fresh handsOn again' : Bool} {W W' : World} {args : Array Value} {ds gs : List (DataW H)} {before : List MemPlace}
    (hl : laidOutB P = true) (hm : mapsRowed P = true) (hz : ∀ t e, t < P.types.size → P.underlying t = some (.slice e) → 0 < P.cellsOf e) (hts : ∀ t ∈ f.params.toList, t < P.types.size)
    {tb : TypeId} (hres : f.resultTypes = #[tb]) (htb : P.underlying tb = some .bool) (hv : s.vars = [])
    (hW : DataW.Whole enc P f.params.toList s.vars apart W args.toList ds gs before)
    (hfn : s.fn H ds = { results := [.lit (.bool true)], args := ds })
    (hb : Below W.heap.size W W') : s.post enc P f apart fresh handsOn again' W args (.bool true) W' := by
  have hW0 := hW
  obtain ⟨p, q, hA, hV, rfl, hfz, hnd⟩ := hW
  rw [hv] at hV
  obtain ⟨rfl, rfl⟩ := trodVars_none hV
  have hfn' : s.fn H (ds ++ []) = { results := [.lit (.bool true)], args := ds } := by rw [List.append_nil]; exact hfn
  simp only [List.append_nil] at hW0 hfz hnd
  have hlt := hW0.lt
  have hsp : ∀ x ∈ p, (fun b => decide (b < W.heap.size)) x.block = true := fun x hx => by simpa using hlt x hx
  have ha : ∀ sp : Nat → Bool, (∀ x ∈ p, sp x.block = true) → DataW.TrodAll enc P W' 0 sp true f.params.toList args.toList ds p := fun sp h => again hl hm hz hts hA hb sp h
  have hr : ∀ (b : Nat) (sp : Nat → Bool) (hd : Bool), DataW.TrodAll enc P W' b sp hd f.resultTypes.toList ((Value.bool true).resultList f.resultTypes.size) [.lit (.bool true)] [] := fun b sp hd => by
    rw [hres]
    exact trodAll_mk1 (shut_bool htb _)
  refine ⟨ds, [], p, [], p, [], hW0, (by rw [hfn']; exact hr _ _ _), (by rw [hfn']; exact ha _ hsp), (by rw [hfn', hv]; rfl), World.keptBut_mono (fun x hx => ⟨hx, ?_⟩) (hb.frame (fun x => x ∈ p)), fun _ => ?_⟩
  · exact Or.inr (by simpa using hx)
  · refine ⟨ok_one hres rfl (okWide_bool_mk htb _), _, _, ([] ++ p) ++ [], ⟨[] ++ p, [], trodAll_append (ha _ (fun _ _ => rfl)) (hr 0 (fun _ => true) true), (show DataW.TrodVars enc P W' (fun _ => true) s.vars [] [] by rw [hv]; rfl), rfl, ?_, ?_⟩, ?_⟩
    · intro b off hp
      have hp' : MemPlace.cell b off ∈ p := by simpa using hp
      rw [hb.frozen (hlt _ hp')]
      exact hfz b off hp'
    · intro ha
      simpa using hnd ha
    · intro x hx _
      simpa using hx
/-- A contract whose heap comes back whole, ars the row asks. -/
theorem Spec.row {f : FuncId} {args : List Value} {H0 : Heap} {W : World} (hs : Spec P f args H0 (fun r H' => r = .bool true ∧ ∀ x ∈ H0, x ∈ H')) (h0 : HOK H0 W) :
    Calls P f args.toArray W fun e W' => e = .returned (.bool true) ∧ Below W.heap.size W W' :=
  (callsIn_wide.1 (hs.calls W h0)).mono fun _ _ ⟨_, _, he, ⟨hv, hk⟩, hw⟩ => ⟨by rw [he, hv], below_of h0 hw hk⟩
end
end Go.Proofs.YtkcfgglmlogjbaaGreat
end
section
namespace Go.Proofs.YtkcfgglmlogjbaaGreat
def argEnv : Nat → List Value → Env
  | _, [] => []
  | i, v :: vs => (i, v) :: argEnv (i + 1) vs
theorem get_argEnv : ∀ (vs : List Value) (i s : Nat) (v : Value), gtE (argEnv i vs) s = some v → i ≤ s ∧ vs[s - i]? = some v
  | [], _, _, _, h => by simp [argEnv, gtE] at h
  | u :: vs, i, s, v, h => by
    simp only [argEnv, get_cons] at h
    split at h
    · rename_i e; subst e; cases h; simp
    · rename_i e
      obtain ⟨h1, h2⟩ := get_argEnv vs (i + 1) s v h
      refine ⟨by omega, ?_⟩
      rw [show s - i = (s - (i + 1)) + 1 from by omega]
      simpa using h2
/-- What is asked at a function's end. -/
def RetK (P : Program) (fn : Func) (H : Heap) (w : World) (post : Value → Heap → Prop) (a : Act) (w' : World) : Prop :=
  a.defers = [] ∧ ∃ v H', (results fn a.tmps).run P w' = .ok v w' ∧ post v H' ∧ HW H w H' w'
abbrev fnPost (P : Program) (fn : Func) (H : Heap) (w : World) (post : Value → Heap → Prop) : Post :=
  { nrm := RetK P fn H w post, ret := RetK P fn H w post, ex := fun _ _ _ => False }
theorem Spec.of {P : Program} {f : FuncId} {fn : Func} {c : Code} {N : Nat} {ars : List Value} {E : Env} {H : Heap} {post : Value → Heap → Prop}
    (hf : P.funcs[f]? = some fn) (hb : fn.body = some c) (hname : (fn.name == "runtime.NumGoroutine") = false) (hN : fn.ntmps = N) (hl : Nat.ble ars.length N = true) (hE : argEnv 0 ars = E)
    (h : ∀ w, WC ⟨P, none, N, [], H, w⟩ c (fnPost P fn H w post) E H) : Spec P f ars H post := by
  refine ⟨Enters.mk hf hname hb, fun w hw => callsIn_of_wp hf hb trivial ?_⟩
  have hl' : ars.length ≤ N := by simpa [Nat.ble_eq] using hl
  subst hE
  refine wpIn_mono (h w _ w ⟨?_, rfl, ?_⟩ (HW.start hw)) ?_
  · simp [hN]; omega
  · intro s v hs
    obtain ⟨-, h2⟩ := get_argEnv ars 0 s v hs
    have h3 : ars[s]? = some v := by simpa using h2
    have hlt : s < ars.length := (List.getElem?_eq_some_iff.1 h3).1
    rw [Array.getElem?_append_left (by simpa using hlt)]
    simpa using h3
  · intro e a w' hq
    cases e with
    | normal => obtain ⟨h1, v, H', h2, h3, h4⟩ := hq; exact ⟨h1, v, h2, v, H', rfl, h3, h4⟩
    | ret => obtain ⟨h1, v, H', h2, h3, h4⟩ := hq; exact ⟨h1, v, h2, v, H', rfl, h3, h4⟩
    | exit id => exact hq
    | goto l => exact hq
    | panic ch => exact hq.elim
    | outgrown => exact hq.elim
section
variable {X : Ctx} {E : Env} {H : Heap} {o : Oper}
inductive RV (X : Ctx) (E : Env) (H : Heap) : ResultVar → Value → Prop
  | tmp {t : Tmp} {v : Value} : gtE E t = some v → RV X E H (.tmp t) v
  | cell {t : Tmp} {ty : TypeId} {b k n : Nat} {cs : List Value} {e : TypeId} {vs : List Value} : gtE E t = some (.pointer (some ⟨b, k, none⟩)) → Ag X.P ty n → (⟨some b, cl cs e⟩ : Ent) ∈ H →
      vs.length = n → At cs k vs → RV X E H (.cell t ty) (.agg vs.toArray)
  | cell1 {t : Tmp} {ty : TypeId} {b k : Nat} {cs : List Value} {e : TypeId} {v : Value} : gtE E t = some (.pointer (some ⟨b, k, none⟩)) → Sc X.P ty → (⟨some b, cl cs e⟩ : Ent) ∈ H →
      cs[k]? = some v → RV X E H (.cell t ty) v
inductive RVs (X : Ctx) (E : Env) (H : Heap) : List ResultVar → List Value → Prop
  | nil : RVs X E H [] []
  | cons {r : ResultVar} {v : Value} {rs : List ResultVar} {vs : List Value} : RV X E H r v → RVs X E H rs vs → RVs X E H (r :: rs) (v :: vs)
def resV : List Value → Value
  | [v] => v
  | vs => .tuple vs.toArray
def resOne (tmps : Array Value) : ResultVar → Sem Value
  | .tmp t => pure (tmps.getD t undef)
  | .cell p t => do loadVar t (← asAddr (tmps.getD p undef))
theorem results_eq (fn : Func) (tmps : Array Value) : results fn tmps = (do
    let vs ← fn.results.mapM (resOne tmps)
    pure (if h : vs.size = 1 then vs[0] else .tuple vs)) := by
  unfold results
  congr 1
theorem RV.run {r : ResultVar} {v : Value} (h : RV X E H r v) {a : Act} {w : World} (ha : AE X E a) (hw : HW X.H0 X.w0 H w) :
    (resOne a.tmps r).run X.P w = .ok v w := by
  cases h with
  | tmp h => simp [resOne, Array.getD_eq_getD_getElem?, ha.env _ _ h]
  | cell h1 h2 h3 h4 h5 =>
    rename_i t ty b k n cs e vs
    have hl := run_loadCells_list (P := X.P) w ⟨b, k, none⟩ vs (fun j v hj => by rw [add_at, cell_of hw h3]; exact h5 j v hj)
    simp [resOne, Array.getD_eq_getD_getElem?, ha.env _ _ h1, asAddr, loadVar, (h2 w).1, (h2 w).2, ← h4, hl]
  | cell1 h1 h2 h3 h4 =>
    rename_i t ty b k cs e
    have hc := cell_of hw h3 k
    rw [h4] at hc
    simp [resOne, Array.getD_eq_getD_getElem?, ha.env _ _ h1, asAddr, loadVar, (h2 w).1, hc]
theorem RVs.run {rs : List ResultVar} {vs : List Value} (h : RVs X E H rs vs) {a : Act} {w : World} (ha : AE X E a) (hw : HW X.H0 X.w0 H w) :
    (rs.mapM (resOne a.tmps)).run X.P w = .ok vs w := by
  induction h with
  | nil => simp
  | cons h _ ih =>
    have h1 := h.run ha hw
    simp only [List.mapM_cons, Sem.run_bind, h1, Result.andThen_ok, ih, Sem.run_pure]
theorem run_results {fn : Func} {rs : List ResultVar} {vs : List Value} (hr : fn.results = rs.toArray) (h : RVs X E H rs vs) {a : Act} {w : World} (ha : AE X E a) (hw : HW X.H0 X.w0 H w) :
    (results fn a.tmps).run X.P w = .ok (resV vs) w := by
  have h1 := h.run ha hw
  rw [results_eq, hr, List.mapM_toArray]
  simp only [Sem.run_bind, Sem.run_map, h1, Result.andThen_ok]
  match vs with
  | [] => rfl
  | [v] => rfl
  | v :: u :: vs => simp [resV]
theorem WQ_ret {fn : Func} {rs : List ResultVar} {vs : List Value} {v : Value} {H' F : Heap} {post : Value → Heap → Prop} (hD : X.D = []) (hr : fn.results = rs.toArray) (h : RVs X E H rs vs)
    (hv : resV vs = v) (hp : post v H') (hq : Pulls H' H F) : WQ X (RetK X.P fn X.H0 X.w0 post) E H := by
  intro a w ha hw
  refine ⟨by rw [ha.defers, hD], v, H', ?_, hp, (hw.perm hq.perm).left⟩
  rw [run_results hr h ha hw, hv]
/-! tuples, structs -/
theorem R_extract {x : Operand} {i : Nat} {vs : List Value} {v : Value} (ho : o.op = .extract x i) (hx : ev E x = some (.tuple vs.toArray)) (hv : vs[i]? = some v) : Runs X o E H v :=
  ⟨(by rw [ho]; intro c e; cases e), fun a w ha _ => by simp [execOp, ho, ha.eval hx, Instr.extract, hv]⟩
/-- The cells of a struct, by what is given and zeroes. -/
def fillL : List Value → List (Nat × Nat) → List (Nat × Value) → Option (List Value)
  | cs, _, [] => some cs
  | cs, ps, (i, v) :: rest => match ps[i]? with
    | none => none
    | some (off, n) => bif Nat.beq v.cells.toList.length n && Nat.ble (off + v.cells.toList.length) cs.length then fillL (putAt cs off v.cells.toList) ps rest else none
theorem foldl_put (off : Nat) : ∀ (vs : List Value) (j : Nat) (cs : List Value), off + j + vs.length ≤ cs.length →
    (vs.zipIdx j).foldl (fun (a : Array Value) (x : Value × Nat) => a.setIfInBounds (off + x.2) x.1) cs.toArray = (putAt cs (off + j) vs).toArray
  | [], j, cs, _ => by simp [putAt_nil]
  | v :: vs, j, cs, h => by
    simp only [List.length_cons] at h
    simp only [List.zipIdx_cons, List.foldl_cons]
    rw [show cs.toArray.setIfInBounds (off + j) v = (cs.set (off + j) v).toArray from by simp]
    rw [foldl_put off vs (j + 1) (cs.set (off + j) v) (by simp; omega), putAt_cons]
    rfl
theorem fill_eq : ∀ (parts : List (Nat × Value)) (cs : List Value) (ps : List (Nat × Nat)) (r : List Value), fillL cs ps parts = some r → Instr.fill (ps.toArray[·]?) cs.toArray parts = some r.toArray
  | [], cs, ps, r, h => by simp [fillL] at h; simp [Instr.fill, h]
  | (i, v) :: rest, cs, ps, r, h => by
    simp only [fillL] at h
    split at h
    · cases h
    · rename_i off n hp
      cases hc : (Nat.beq v.cells.toList.length n && Nat.ble (off + v.cells.toList.length) cs.length) with
      | false => rw [hc] at h; cases h
      | true =>
        rw [hc] at h
        simp only [Bool.and_eq_true, Nat.beq_eq, Nat.ble_eq] at hc
        obtain ⟨h1, h2⟩ := hc
        have hf := foldl_put off v.cells.toList 0 cs (by omega)
        have ih := fill_eq rest _ ps r h
        simp only [Array.length_toList] at h1 h2
        have hz : v.cells.zipIdx.foldl (fun (a : Array Value) (x : Value × Nat) => a.setIfInBounds (off + x.2) x.1) cs.toArray = (putAt cs off v.cells.toList).toArray := by
          rw [← Array.foldl_toList, Array.toList_zipIdx]; exact hf
        have hpa : ps.toArray[i]? = some (off, n) := by simpa using hp
        simp only [Instr.fill, hpa]
        rw [if_neg (by simp; omega)]
        exact (congrArg (fun c => Instr.fill (ps.toArray[·]?) c rest) hz).trans ih
/-- The places of a struct's fields. -/
def Places (P : Program) (t : TypeId) (ps : List (Nat × Nat)) : Prop := ∃ fs, P.underlying t = some (.struct fs) ∧ ∀ w, (fs.mapM (fun f => do pure (f.offset, ← sizeOf f.type)) : Sem (Array (Nat × Nat))).run P w = .ok ps.toArray w
def evParts (E : Env) : List (Nat × Operand) → Option (List (Nat × Value))
  | [] => some []
  | (i, x) :: r => match ev E x, evParts E r with
    | some v, some vs => some ((i, v) :: vs)
    | _, _ => none
theorem AE.parts {a : Act} (h : AE X E a) : ∀ {xs : List (Nat × Operand)} {vs : List (Nat × Value)}, evParts E xs = some vs → xs.map (fun (i, x) => (i, a.eval x)) = vs
  | [], vs, hx => by simp [evParts] at hx; simp [hx]
  | (i, x) :: xs, vs, hx => by
    simp only [evParts] at hx
    split at hx
    · rename_i v vs' h1 h2
      cases hx
      simp [h.eval h1, h.parts h2]
    · cases hx
theorem R_build {t : TypeId} {parts : List (Nat × Operand)} {vs : List (Nat × Value)} {zs cs : List Value} {ps : List (Nat × Nat)} (ho : o.op = .build t parts.toArray) (hz : Zv X.P t zs) (hps : Places X.P t ps)
    (hv : evParts E parts = some vs) (hf : fillL zs ps vs = some cs) : Runs X o E H (.agg cs.toArray) :=
  ⟨(by rw [ho]; intro c e; cases e), fun a w ha _ => by
    obtain ⟨z, h1, h2⟩ := hz
    obtain ⟨fs, h3, h4⟩ := hps
    have hp := ha.parts hv
    have hfl := fill_eq vs zs ps cs hf
    have hpa : (parts.toArray.map fun (i, x) => (i, a.eval x)) = vs.toArray := by rw [← hp]; simp
    simp only [execOp, ho, hpa, Instr.build]
    simp only [Sem.run_bind, h2 w, Result.andThen_ok, run_underlying h3, h4 w, h1, hfl, Sem.run_pure]⟩
theorem R_len {x : Operand} {t : TypeId} {u : TypeId} {ad : Option Addr} {n c : Nat} (ho : o.op = .call { callee := .builtin .len, args := #[x], argTypes := #[t] }) (hu : X.P.underlying t = some (.slice u))
    (hx : ev E x = some (.slice ad n c)) : Runs X o E H (.int .i64 n) :=
  ⟨(by rw [ho]; intro c e; cases e), fun a w ha _ => by
    have hl : (Builtin.len_ #[t] o.type #[.slice ad n c]).run X.P w = .ok (goInt n) w := by simp [Builtin.len_, run_underlying hu]
    simp [execOp, ho, resolve, ha.eval hx, invoke, builtin, hl, goInt]⟩
theorem R_indexAddr {t u : TypeId} {x y : Operand} {b k n c sz : Nat} {kk : IntKind} {i : Int} (ho : o.op = .indexAddr t x y) (hu : X.P.underlying t = some (.slice u)) (hs : ∀ w, (sizeOf u).run X.P w = .ok sz w)
    (hx : ev E x = some (.slice (some ⟨b, k, none⟩) n c)) (hy : ev E y = some (.int kk i)) (hi : 0 ≤ i ∧ i < n) : Runs X o E H (.pointer (some ⟨b, k + i.toNat * sz, none⟩)) :=
  ⟨(by rw [ho]; intro c e; cases e), fun a w ha _ => by
    simp [execOp, ho, ha.eval hx, ha.eval hy, Instr.indexAt, asIntOf, run_underlying hu, hi.1, hi.2, hs w, add_at]⟩
theorem R_indexAddrN {t u : TypeId} {x y : Operand} {b k n c sz : Nat} {kk : IntKind} {i : Nat} (ho : o.op = .indexAddr t x y) (hu : X.P.underlying t = some (.slice u)) (hs : ∀ w, (sizeOf u).run X.P w = .ok sz w)
    (hx : ev E x = some (.slice (some ⟨b, k, none⟩) n c)) (hy : ev E y = some (.int kk (i : Int))) (hi : i < n) : Runs X o E H (.pointer (some ⟨b, k + i * sz, none⟩)) :=
  R_indexAddr ho hu hs hx hy ⟨by omega, by omega⟩
theorem R_makeFunc {f : FuncId} {fs cs : List Operand} {va vb : List Value} (ho : o.op = .makeFunc (.func f) fs.toArray cs.toArray) (h1 : evs E fs = some va) (h2 : evs E cs = some vb) :
    Runs X o E H (.func (.func f) va.toArray vb.toArray) :=
  ⟨(by rw [ho]; intro c e; cases e), fun a w ha _ => by
    simp [execOp, ho, Instr.makeFunc, ha.evals h1, ha.evals h2]⟩
end
end Go.Proofs.YtkcfgglmlogjbaaGreat
end
section
set_option linter.unusedSectionVars false
namespace Go.Proofs.YtkcfgglmlogjbaaGreat
open Go.RowKit (Below)
/-- 'w'' is w with new blocks. -/
structure Bel (w w' : World) : Prop extends Below w.heap.size w w' where
  dr : w.drawn ≤ w'.drawn
theorem Bel.refl (w : World) : Bel w w := ⟨Below.refl _ _, Nat.le_refl _⟩
theorem Bel.drew' (w : World) : Bel w { w with drawn := w.drawn + 1 } := ⟨(Below.refl _ w).drew, Nat.le_succ _⟩
theorem Bel.alloc' (w : World) (O : Obj) : Bel w (w.alloc O) := ⟨(Below.refl _ _).alloc (Nat.le_refl _) O, Nat.le_refl _⟩
theorem Bel.trans' {a b c : World} (h : Bel a b) (k : Bel b c) : Bel a c := ⟨h.toBelow.trans (k.toBelow.mono h.size), Nat.le_trans h.dr k.dr⟩
theorem HW.bel {H0 H : Heap} {w0 w w' : World} (h : HW H0 w0 H w) (b : Bel w w') : HW H0 w0 H w' :=
  ⟨⟨h.hok.nodup, fun x hx => by
      have := h.hok.ok x hx
      cases hb : x.b with
      | none => simp only [Ent.ok, hb] at this ⊢; exact this
      | some k =>
        simp only [Ent.ok, hb] at this ⊢
        rw [b.block k (h.hok.lt (mem_keys.2 ⟨x, hx, hb⟩))]; exact this⟩,
    b.os.trans h.os, b.tape.trans h.tape, b.output.trans h.output, Nat.le_trans h.size b.size,
    fun k hk hn => (b.block k (Nat.lt_of_lt_of_le hk h.size)).trans (h.kept k hk hn), h.own, Nat.le_trans h.dr b.dr⟩
def noSD (ops : Array Oper) : Bool := ops.toList.all fun o => match o.op with | .select .. => false | .defer .. => false | _ => true
theorem noSD_sel {ops : Array Oper} (h : noSD ops = true) {j : Nat} {o : Oper} (ho : ops[j]? = some o) : (∀ cs b, o.op ≠ .select cs b) ∧ (∀ c, o.op ≠ .defer c) := by
  have hm : o ∈ ops.toList := by
    have : ops.toList[j]? = some o := by simpa using ho
    exact List.mem_of_getElem? this
  have := List.all_eq_true.1 h o hm
  constructor
  · intro cs b e; simp [e] at this
  · intro c e; simp [e] at this
section
variable (X : Ctx) (ops : Array Oper) (p : Post) (C : World → Prop)
def QRun (o : Oper) (v : Value) (a : Act) (w : World) : Prop :=
  (execOp a.eval o).run X.P w = .ok (.value v) w ∨
  ∃ f args, (execOp a.eval o).run X.P w = .ok (.enter f args) w ∧ CallsIn (fen X.ro) (0 - 1) X.P f args w (fun e w' => e = .returned v ∧ Bel w w')
def YieldsC (o : Oper) (v : Value) (a : Act) : Prop :=
  (Region.wanted o (yielded ops a.tmps) = true ∧ ∀ w, C w → QRun X o v a w) ∨ (Region.wanted o (yielded ops a.tmps) = false ∧ v = undef)
def AnyC : Nat → Array Bool → Act → World → Prop
  | 0, listed, a, w => Region.ready .any ops listed = [] ∧ p.nrm a w
  | fuel + 1, listed, a, w => (Region.ready .any ops listed = [] → p.nrm a w) ∧
    ∀ i ∈ Region.ready .any ops listed, wpOpIn (fen X.ro) 0 X.P ops p.toQ i (fun a' w' => C w' ∧ ∀ w'', Bel w' w'' → AnyC fuel (listed.setIfInBounds i true) a' w'') a w
end
section
variable {X : Ctx} {ops : Array Oper} {p : Post} [PanSt p] {C : World → Prop}
theorem AnyC.sound : ∀ (fuel : Nat) (listed : Array Bool) (a : Act) (w : World), AnyC X ops p C fuel listed a w → wpAnyIn (fen X.ro) 0 X.P .any ops p.toQ fuel listed a w
  | 0, _, _, _, h => h
  | fuel + 1, _, _, _, h => ⟨h.1, fun i hi => wpOpIn_mono (fun a' w' k => AnyC.sound fuel _ a' w' (k.2 w' (Bel.refl _))) (h.2 i hi)⟩
theorem wpOpIn_putC {j : Nat} {oi oj : Oper} {v : Value} {K : Act → World → Prop} {a : Act} {w : World} (hj : ops[j]? = some oj) (hap : oi.apart ops oj = true)
    (hsi : ∀ cs b, oi.op ≠ .select cs b) (hsj : ∀ cs b, oj.op ≠ .select cs b) (hdj : ∀ c, oj.op ≠ .defer c)
    (hy : YieldsC X ops C oi v a) (h : wpOpIn (fen X.ro) 0 X.P ops p.toQ j K (a.put oi.dst v) w) :
    wpOpIn (fen X.ro) 0 X.P ops p.toQ j (fun a' w' => YieldsC X ops C oi v a' ∧ K (a'.put oi.dst v) w') a w := by
  obtain ⟨h1, h2, h3⟩ := Oper.apart_spec hap
  have keep : ∀ u, YieldsC X ops C oi v (a.put oj.dst u) := fun u => by
    have e1 := execOp_put oi hsi a oj.dst u h3
    have e2 := wanted_put oi a oj.dst u h3
    unfold YieldsC QRun at *
    rw [e1, e2]; exact hy
  unfold wpOpIn at *
  simp only [hj] at *
  rw [wanted_put oj a oi.dst v h1] at h
  split
  · rename_i hw
    simp only [hw, if_true] at h
    unfold Oper.wpIn at *
    refine ⟨about_true, ?_⟩
    have h := h.2
    rw [semAt_of hdj, execOp_put oj hsj a oi.dst v h1] at h
    rw [semAt_of hdj]
    generalize (execOp a.eval oj).run X.P w = r at *
    cases r with
    | ok x w' =>
      cases x <;> simp only [Oper.uponIn] at h ⊢
      case value u => exact ⟨keep u, by rw [← Act.put_comm a v u h2]; exact h⟩
      case skip => exact ⟨keep _, by rw [← Act.put_comm a v undef h2]; exact h⟩
      case defer d => 
        have e1 : YieldsC X ops C oi v ({ a with defers := d :: a.defers }.put oj.dst undef) := by
          have := keep undef
          cases hd : oj.dst <;> simp only [Act.put, hd] at this ⊢ <;> exact this
        refine ⟨e1, ?_⟩
        rw [← Act.put_comm _ v undef h2, ← Act.put_defers]
        exact h
      case enter f args =>
        refine ⟨h.1, CallsIn.mono h.2 fun e w'' he => ?_⟩
        cases e with
        | returned u => exact ⟨keep u, by rw [← Act.put_comm a v u h2]; exact he⟩
        | panicked c => exact PanSt.pan _ _ _ _ _ he
        | outgrown => exact he
      case row row args => exact ⟨h.1, RowsIn.mono h.2 fun u w'' he => ⟨keep u, by rw [← Act.put_comm a v u h2]; exact he⟩⟩
      case round l f tmps assign body =>
        refine ⟨h.1, RoundIn.mono h.2 fun e w'' he => ?_⟩
        cases e with
        | returned u => exact ⟨keep u, by rw [← Act.put_comm a v u h2]; exact he⟩
        | panicked c => exact PanSt.pan _ _ _ _ _ he
        | outgrown => exact he
    | halt x w' =>
      cases x <;> simp only [Oper.uponIn] at h ⊢
      case panic u => exact PanSt.pan _ _ _ _ _ h
  · rename_i hw
    simp only [hw] at h
    exact ⟨about_true, keep _, by rw [← Act.put_comm a v undef h2]; exact h.2⟩
/-- Carrying out a quiet operation. -/
theorem YieldsC.wpOp {i : Nat} {o : Oper} {v : Value} {a : Act} {w : World} (hi : ops[i]? = some o) (hd : ∀ c, o.op ≠ .defer c) (hy : YieldsC X ops C o v a) (hC : C w)
    {K : Act → World → Prop} (h : ∀ w', Bel w w' → K (a.put o.dst v) w') : wpOpIn (fen X.ro) 0 X.P ops p.toQ i K a w := by
  unfold wpOpIn
  simp only [hi]
  rcases hy with ⟨hw, hv⟩ | ⟨hw, rfl⟩
  · simp only [hw, if_true]
    refine ⟨about_true, ?_⟩
    rw [semAt_of hd]
    rcases hv w hC with e | ⟨f, args, e, hc⟩
    · rw [e]; exact h w (Bel.refl _)
    · rw [e]
      refine ⟨fun h => by simp [fen, Fence.wide] at h, hc.mono ?_⟩
      rintro e w' ⟨rfl, hb⟩
      exact h w' hb
  · simp only [hw, Bool.false_eq_true, if_false]
    exact ⟨about_true, h w (Bel.refl _)⟩
theorem AnyC.take {i : Nat} {oi : Oper} {v : Value} (hCb : ∀ w w', C w → Bel w w' → C w') (hi : ops[i]? = some oi) (hsd : noSD ops = true) :
    ∀ (fuel : Nat) (listed : Array Bool) (a : Act) (w : World),
      (∀ j oj, ops[j]? = some oj → j ≠ i → listed.getD j true = false → (∀ e ∈ oj.after, Region.binds .any e = true → e.on ≠ i) → oi.apart ops oj = true) →
      i ∈ Region.ready .any ops listed → YieldsC X ops C oi v a → C w →
      (∀ w', Bel w w' → AnyC X ops p C fuel (listed.setIfInBounds i true) (a.put oi.dst v) w') → AnyC X ops p C (fuel + 1) listed a w := by
  intro fuel
  induction fuel with
  | zero =>
    intro listed a w _ hr hy hC H
    refine ⟨fun h => (by rw [h] at hr; cases hr), fun j hj => ?_⟩
    by_cases hji : j = i
    · subst hji
      exact hy.wpOp hi (noSD_sel hsd hi).2 hC fun w' hb => ⟨hCb w w' hC hb, fun w'' hb' => H w'' (hb.trans' hb')⟩
    · have := ready_mono hj hji
      rw [(H w (Bel.refl _)).1] at this
      cases this
  | succ fuel ih =>
    intro listed a w hfree hr hy hC H
    refine ⟨fun h => (by rw [h] at hr; cases hr), fun j hj => ?_⟩
    by_cases hji : j = i
    · subst hji
      exact hy.wpOp hi (noSD_sel hsd hi).2 hC fun w' hb => ⟨hCb w w' hC hb, fun w'' hb' => H w'' (hb.trans' hb')⟩
    · have h1 := (H w (Bel.refl _)).2 j (ready_mono hj hji)
      obtain ⟨hjun, oj, hoj, hall⟩ := mem_ready.1 hj
      have hnot : ∀ e ∈ oj.after, Region.binds .any e = true → e.on ≠ i := fun e he hb heq => by
        have h1 := hall e he hb
        have h0 := (mem_ready.1 hr).1
        rw [heq] at h1
        rcases Nat.lt_or_ge i listed.size with h' | h'
        · simp [h'] at h0 h1; rw [h0] at h1; cases h1
        · simp [Array.getElem?_eq_none h'] at h1
      have h2 := wpOpIn_putC hoj (hfree j oj hoj hji hjun hnot) (noSD_sel hsd hi).1 (noSD_sel hsd hoj).1 (noSD_sel hsd hoj).2 hy h1
      have hfree' : ∀ k ok, ops[k]? = some ok → k ≠ i → (listed.setIfInBounds j true).getD k true = false →
          (∀ e ∈ ok.after, Region.binds .any e = true → e.on ≠ i) → oi.apart ops ok = true := fun k ok hk hki hun hno => by
        refine hfree k ok hk hki ?_ hno
        by_cases hjk : j = k
        · subst hjk; exact hjun
        · rw [getD_set_ne true hjk] at hun; exact hun
      refine wpOpIn_mono (fun a' w' h3 => ⟨h3.2.1, fun w'' hb => ?_⟩) h2
      refine ih (listed.setIfInBounds j true) a' w'' hfree' (ready_mono hr (Ne.symm hji)) h3.1 (hCb _ _ h3.2.1 hb) fun w3 hb3 => ?_
      rw [Array.setIfInBounds_comm _ _ hji]
      exact h3.2.2 w3 (hb.trans' hb3)
/-- The walk in an order of ours: '(i, true)': quiet. -/
def MW (X : Ctx) (ops : Array Oper) (p : Post) (C : World → Prop) : List (Nat × Bool) → Act → World → Prop
  | [], a, w => p.nrm a w
  | (i, true) :: r, a, w => ∃ o v, ops[i]? = some o ∧ YieldsC X ops C o v a ∧ ∀ w', Bel w w' → MW X ops p C r (a.put o.dst v) w'
  | (i, false) :: r, a, w => wpOpIn (fen X.ro) 0 X.P ops p.toQ i (fun a' w' => C w' ∧ ∀ w'', Bel w' w'' → MW X ops p C r a' w'') a w
def orderB (ops : Array Oper) : List (Nat × Bool) → Array Bool → Bool
  | [], listed => (Region.ready .any ops listed).isEmpty
  | (i, q) :: r, listed => (bif q then (Region.ready .any ops listed).contains i && Region.free .any ops listed i else Region.ready .any ops listed == [i]) && orderB ops r (listed.setIfInBounds i true)
theorem MW.any (hCb : ∀ w w', C w → Bel w w' → C w') (hsd : noSD ops = true) : ∀ (l : List (Nat × Bool)) (listed : Array Bool) (a : Act) (w : World), orderB ops l listed = true → C w → MW X ops p C l a w →
    AnyC X ops p C l.length listed a w
  | [], listed, a, w, hB, _, h => ⟨by simpa [orderB] using hB, h⟩
  | (i, true) :: r, listed, a, w, hB, hC, h => by
    simp only [orderB, cond_true, Bool.and_eq_true, List.contains_iff_mem] at hB
    obtain ⟨⟨h1, h2⟩, h3⟩ := hB
    obtain ⟨o, v, ho, hy, hk⟩ := h
    exact AnyC.take hCb ho hsd r.length listed a w (Region.free_spec ho h2) h1 hy hC fun w' hb => MW.any hCb hsd r _ _ w' h3 (hCb w w' hC hb) (hk w' hb)
  | (i, false) :: r, listed, a, w, hB, hC, h => by
    simp only [orderB, cond_false, Bool.and_eq_true, beq_iff_eq] at hB
    obtain ⟨h1, h3⟩ := hB
    refine ⟨fun e => (by rw [h1] at e; cases e), fun j hj => ?_⟩
    rw [h1, List.mem_singleton] at hj
    subst hj
    exact wpOpIn_mono (fun a' w' hk => ⟨hk.1, fun w'' hb => MW.any hCb hsd r _ _ w'' h3 (hCb _ _ hk.1 hb) (hk.2 w'' hb)⟩) h
end
/-- The walk over states. 'Hq': what no operation of the region turns. -/
def WM (X : Ctx) (ops : Array Oper) (p : Post) (Hq : Heap) (l : List (Nat × Bool)) (E : Env) (H : Heap) : Prop := ∀ a w, AE X E a → HW X.H0 X.w0 H w → MW X ops p (fun w => HW X.H0 X.w0 Hq w) l a w
section
variable {X : Ctx} {ops : Array Oper} {p : Post} {Hq : Heap} {E : Env} {H F : Heap} {r : List (Nat × Bool)} {i : Nat} {o : Oper}
theorem WC_draw [PanSt p] {id : Nat} {l : List Oper} (Hq : Heap) (ord : List (Nat × Bool)) (hm : X.P.follows .mixedOrders = true) (hsd : noSD l.toArray = true) (hlen : ord.length = l.length)
    (hB : orderB l.toArray ord (Array.replicate l.length false) = true) (hq : Pulls Hq H F) (h : WM X l.toArray p Hq ord E H) : WC X (.region id l.toArray true) p E H := by
  intro a w ha hw
  refine wpIn_region_any hm ?_
  have hb : Bel w { w with drawn := w.drawn + 1 } := Bel.drew' w
  have hw1 := hw.bel hb
  have h1 := MW.any (X := X) (p := p) (C := fun w => HW X.H0 X.w0 Hq w) (fun _ _ h b => h.bel b) hsd ord _ a _ hB (hw1.perm hq.perm).left (h a _ ha hw1)
  rw [hlen] at h1
  have := AnyC.sound _ _ _ _ h1
  simpa using this
theorem WM_nil (h : WQ X p.nrm E H) : WM X ops p Hq [] E H := h
theorem WM_val {d : Nat} {v : Value} (ho : ops[i]? = some o) (hg : wantedE ops E o = some true) (hd : o.dst = some d) (hN : Nat.blt d X.N = true) (h : Runs X o E Hq v)
    (k : WM X ops p Hq r ((d, v) :: E) H) : WM X ops p Hq ((i, true) :: r) E H := fun a w ha hw =>
  ⟨o, v, ho, .inl ⟨wantedE_spec ha hg, fun w' hw' => .inl (h.2 a w' ha hw')⟩, fun w' hb => k _ _ (by rw [hd]; exact ha.put d v hN) (hw.bel hb)⟩
theorem WM_skip {d : Nat} (ho : ops[i]? = some o) (hg : wantedE ops E o = some false) (hd : o.dst = some d) (hN : Nat.blt d X.N = true)
    (k : WM X ops p Hq r ((d, undef) :: E) H) : WM X ops p Hq ((i, true) :: r) E H := fun a w ha hw =>
  ⟨o, undef, ho, .inr ⟨wantedE_spec ha hg, rfl⟩, fun w' hb => k _ _ (by rw [hd]; exact ha.put d undef hN) (hw.bel hb)⟩
theorem WM_set {s : Nat} {v v' : Value} {l : List (Nat × Bool)} (h : gtE E s = some v') (he : v' = v) (k : WM X ops p Hq l ((s, v) :: E) H) : WM X ops p Hq l E H := by
  subst he
  intro a w ha hw
  refine k a w ⟨ha.size, ha.defers, fun t v ht => ?_⟩ hw
  rw [get_cons] at ht
  split at ht
  · rename_i e; subst e; cases ht; exact ha.env _ _ h
  · exact ha.env _ _ ht
/-- An operation that turns something, where no other may come up. -/
theorem WM_do {d : Nat} {R : Value → Heap → Prop} (ho : ops[i]? = some o) (hg : wantedE ops E o = some true) (hd : o.dst = some d) (hN : Nat.blt d X.N = true) (h : Does X o E H R)
    (k : ∀ v H', R v H' → (∃ F, Pulls Hq H' F) ∧ WM X ops p Hq r ((d, v) :: E) H') : WM X ops p Hq ((i, false) :: r) E H := by
  intro a w ha hw
  simp only [MW, wpOpIn, ho, wantedE_spec ha hg, if_true]
  refine h a w ha hw _ _ fun v H' w' hr hw' => ?_
  obtain ⟨⟨F, hq⟩, k2⟩ := k v H' hr
  refine ⟨(hw'.perm hq.perm).left, fun w'' hb => k2 _ _ (by rw [hd]; exact ha.put d v hN) (hw'.bel hb)⟩
theorem WM_do0 {R : Value → Heap → Prop} (ho : ops[i]? = some o) (hg : wantedE ops E o = some true) (hd : o.dst = none) (h : Does X o E H R)
    (k : ∀ v H', R v H' → (∃ F, Pulls Hq H' F) ∧ WM X ops p Hq r E H') : WM X ops p Hq ((i, false) :: r) E H := by
  intro a w ha hw
  simp only [MW, wpOpIn, ho, wantedE_spec ha hg, if_true]
  refine h a w ha hw _ _ fun v H' w' hr hw' => ?_
  obtain ⟨⟨F, hq⟩, k2⟩ := k v H' hr
  refine ⟨(hw'.perm hq.perm).left, fun w'' hb => k2 _ _ (by rw [hd]; exact ha.put0 v) (hw'.bel hb)⟩
/-- A call that turns nothing that lay and whose result is known. -/
theorem HW.belOf {Hp : Heap} {w w' : World} (h : HOK Hp w) (c : HW Hp w Hp w') : Bel w w' :=
  ⟨⟨c.os, c.tape, c.output, c.size, fun k hk => by
    by_cases hm : k ∈ keys Hp
    · obtain ⟨x, hx, hb⟩ := mem_keys.1 hm
      have h1 := h.ok x hx
      have h2 := c.hok.ok x hx
      simp only [Ent.ok, hb] at h1 h2
      rw [h1, h2]
    · exact c.kept k hk hm⟩, c.dr⟩
theorem Spec.quiet {P : Program} {f : FuncId} {ars : List Value} {Hp : Heap} {v : Value} (h : Spec P f ars Hp (fun r H' => r = v ∧ H' = Hp)) : Spec P f ars Hp (fun u H' => u = v ∧ ∃ G, H'.Perm (Hp ++ G)) :=
  h.mono fun _ _ ⟨h1, h2⟩ => ⟨h1, [], by rw [h2, List.append_nil]⟩
theorem WM_call {d : Nat} {f : FuncId} {x : Operand} {args : List Operand} {tys : Array TypeId} {ars vs fi ca : List Value} {Hp F : Heap} {v : Value} (ho : ops[i]? = some o)
    (hs : Spec X.P f ars Hp (fun u H' => u = v ∧ ∃ G, H'.Perm (Hp ++ G))) (hg : wantedE ops E o = some true) (hd : o.dst = some d) (hN : Nat.blt d X.N = true)
    (hop : o.op = .call { callee := .value x, args := args.toArray, argTypes := tys }) (hx : callee E x = some (f, fi, ca)) (ha : evs E args = some vs) (he : fi ++ vs ++ ca = ars) (hp : Pulls Hp Hq F)
    (k : WM X ops p Hq r ((d, v) :: E) H) : WM X ops p Hq ((i, true) :: r) E H := by
  intro a w hA hw
  refine ⟨o, v, ho, .inl ⟨wantedE_spec hA hg, fun w' hw' => .inr ?_⟩, fun w' hb => k _ _ (by rw [hd]; exact hA.put d v hN) (hw.bel hb)⟩
  have hfe := callee_spec hx
  subst he
  refine ⟨f, (fi ++ vs ++ ca).toArray, ?_, ?_⟩
  · have hen := hs.enters (fi ++ vs ++ ca).toArray w'
    simp only [List.append_assoc] at hen
    simp [execOp, hop, resolve, hA.evals ha, hA.eval hfe, Deferred.ofValue, invoke, hen]
  · have hok := (hw'.perm hp.perm).left.hok
    have hc := hs.calls w' hok
    have hc2 : CallsIn (fen X.ro) (0 - 1) X.P f (fi ++ vs ++ ca).toArray w' (fun e w2 => ∃ u H', e = .returned u ∧ (u = v ∧ ∃ G, H'.Perm (Hp ++ G)) ∧ HW Hp w' H' w2) := by
      cases hr : X.ro with
      | none => exact hc
      | some l => exact CallsIn.inRound l hc
    refine hc2.mono ?_
    rintro e w'' ⟨u, H1, rfl, ⟨rfl, G, hG⟩, hw1⟩
    exact ⟨rfl, HW.belOf hok (hw1.perm hG).left⟩
end
end Go.Proofs.YtkcfgglmlogjbaaGreat
end
section
namespace Go.Proofs.YtkcfgglmlogjbaaGreat
def SI (P : Program) (t e : TypeId) (sz bytes : Nat) (zs : List Value) : Prop :=
  P.underlying t = some (.slice e) ∧ ∃ i z, P.info? e = some i ∧ i.zero = some z ∧ i.size = sz ∧ i.bytes = bytes ∧ z.cells = zs.toArray ∧ zs.length = sz ∧ 0 < sz
/-- A slice that starts at its block's head; nil where there is none. -/
def slV (ob : Option Nat) (n c : Nat) : Value := .slice (ob.map fun b => ⟨b, 0, none⟩) n c
/-- The cells of a slice: 'xs' up to its length, 'tl' up to its capacity. -/
structure Own (ob : Option Nat) (n c sz : Nat) (xs tl : List Value) : Prop where
  len : xs.length = n * sz
  cap : xs.length + tl.length = c * sz
  le : n ≤ c
  big : c ≤ 9223372036854775807
  nil : ob = none → c = 0
theorem Own.empty (sz : Nat) : Own none 0 0 sz [] [] := ⟨by simp, by simp, by simp, by simp, fun _ => rfl⟩
theorem Own.some_of {ob : Option Nat} {n c sz : Nat} {xs tl : List Value} (h : Own ob n c sz xs tl) (hn : 0 < n) : ∃ b, ob = some b := by
  cases ob with
  | some b => exact ⟨b, rfl⟩
  | none => have := h.nil rfl; have := h.le; omega
/-- An entry that says nothing. -/
theorem HW.addNone {H0 H : Heap} {w0 w : World} (h : HW H0 w0 H w) (e : TypeId) : HW H0 w0 (⟨none, cl [] e⟩ :: H) w :=
  ⟨⟨by simpa [keys] using h.hok.nodup, fun x hx => by
      rcases List.mem_cons.1 hx with rfl | hx
      · exact ⟨e, rfl⟩
      · exact h.hok.ok x hx⟩, h.os, h.tape, h.output, h.size, h.kept, fun k hk => h.own k (by simpa [keys] using hk), h.dr⟩
theorem HW.drew {H0 H : Heap} {w0 w : World} (h : HW H0 w0 H w) : HW H0 w0 H w.drew := h.bel (Bel.drew' w)
section
variable {X : Ctx} {p : Post} {E : Env} {H : Heap} {o : Oper}
theorem WL_none {ops : Array Oper} {l : List Oper} (e : TypeId) (k : WL X ops p l E (⟨none, cl [] e⟩ :: H)) : WL X ops p l E H := fun a w ha hw => k a w ha (hw.addNone e)
theorem WC_none {c : Code} (e : TypeId) (k : WC X c p E (⟨none, cl [] e⟩ :: H)) : WC X c p E H := fun a w ha hw => k a w ha (hw.addNone e)
theorem rep_get (zs : List Value) (n : Nat) : ∀ k, (List.replicate n zs).flatten[k]? = if k < n * zs.length then zs[k % zs.length]? else none := by
  induction n with
  | zero => intro k; simp
  | succ n ih =>
    intro k
    rw [List.replicate_succ, List.flatten_cons]
    by_cases h : k < zs.length
    · rw [List.getElem?_append_left h, if_pos (by rw [Nat.add_mul]; omega), Nat.mod_eq_of_lt h]
    · rw [List.getElem?_append_right (by omega), ih]
      have h1 : (k - zs.length) % zs.length = k % zs.length := (Nat.mod_eq_sub_mod (by omega)).symm
      rw [h1]
      by_cases h2 : k - zs.length < n * zs.length
      · rw [if_pos h2, if_pos (by rw [Nat.add_mul]; omega)]
      · rw [if_neg h2, if_neg (by rw [Nat.add_mul]; omega)]
theorem made_eq (zs : List Value) (n : Nat) (h : 0 < zs.length) : madeCells zs.toArray (n * zs.length) = (List.replicate n zs).flatten.toArray := by
  apply Array.ext'
  apply List.ext_getElem?
  intro k
  rw [rep_get]
  simp only [madeCells, List.size_toArray, Array.toList_map, Array.toList_range, List.getElem?_map]
  by_cases hk : k < n * zs.length
  · rw [if_pos hk, List.getElem?_range hk]
    have hm : k % zs.length < zs.length := Nat.mod_lt _ h
    simp [hm]
  · rw [if_neg hk, List.getElem?_eq_none (by simp; omega)]
    rfl
theorem D_make {t e : TypeId} {sz bytes n : Nat} {zs : List Value} {x y : Operand} {k : IntKind} (ho : o.op = .makeSlice t x y) (hs : SI X.P t e sz bytes zs) (hx : ev E x = some (.int k (n : Int))) (hy : ev E y = some (.int k (n : Int)))
    (hb : bytes * n ≤ 281474976710656) (hn : n ≤ 9223372036854775807) :
    Does X o E H (fun v H' => ∃ b, v = .slice (some ⟨b, 0, none⟩) n n ∧ H' = ⟨some b, cl (List.replicate n zs).flatten e⟩ :: H) := by
  intro a w ha hw next Q kk
  obtain ⟨h1, i, z, h2, h3, h4, h5, h6, h7, h8⟩ := hs
  refine ⟨about_true, ?_⟩
  rw [semAt_of (by rw [ho]; intro c e; cases e)]
  have hb' : (i.bytes : Int) * (n : Int) ≤ 281474976710656 := by
    rw [h5, ← Int.natCast_mul]; omega
  have hr := run_make (P := X.P) w t e i z h1 h2 h3 k k n n (by omega) (by omega) hb' (by omega)
  simp only [Int.toNat_natCast] at hr
  rw [h4, h6, ← h7, made_eq zs n (by omega)] at hr
  have hrun : (execOp a.eval o).run X.P w = .ok (.value (.slice (some ⟨w.heap.size, 0, none⟩) n n)) (w.alloc (cl (List.replicate n zs).flatten e)) := by
    simp only [execOp, ho, ha.eval hx, ha.eval hy, Sem.run_bind, hr, Result.andThen_ok, Sem.run_pure]; rfl
  rw [hrun]
  exact kk _ _ _ ⟨_, rfl, rfl⟩ (hw.alloc _)
/-- The cells of 'T{a, b, ..}', a slice's literal. -/
def fillS (sz : Nat) : List Value → List (Nat × Value) → Option (List Value)
  | cs, [] => some cs
  | cs, (i, v) :: rest => bif Nat.beq v.cells.toList.length sz && Nat.ble (i * sz + v.cells.toList.length) cs.length then fillS sz (putAt cs (i * sz) v.cells.toList) rest else none
theorem fillS_eq (sz : Nat) : ∀ (parts : List (Nat × Value)) (cs r : List Value), fillS sz cs parts = some r → Instr.fill (fun i => some (i * sz, sz)) cs.toArray parts = some r.toArray
  | [], cs, r, h => by simp [fillS] at h; simp [Instr.fill, h]
  | (i, v) :: rest, cs, r, h => by
    simp only [fillS] at h
    cases hc : (Nat.beq v.cells.toList.length sz && Nat.ble (i * sz + v.cells.toList.length) cs.length) with
    | false => rw [hc] at h; cases h
    | true =>
      rw [hc] at h
      simp only [Bool.and_eq_true, Nat.beq_eq, Nat.ble_eq] at hc
      obtain ⟨h1, h2⟩ := hc
      have hf := foldl_put (i * sz) v.cells.toList 0 cs (by omega)
      have ih := fillS_eq sz rest _ r h
      simp only [Array.length_toList] at h1 h2
      have hz : v.cells.zipIdx.foldl (fun (a : Array Value) (x : Value × Nat) => a.setIfInBounds (i * sz + x.2) x.1) cs.toArray = (putAt cs (i * sz) v.cells.toList).toArray := by
        rw [← Array.foldl_toList, Array.toList_zipIdx]; exact hf
      simp only [Instr.fill]
      rw [if_neg (by simp; omega)]
      exact (congrArg (fun c => Instr.fill (fun i => some (i * sz, sz)) c rest) hz).trans ih
theorem D_buildSlice {t e : TypeId} {sz bytes n : Nat} {zs cs : List Value} {parts : List (Nat × Operand)} {vs : List (Nat × Value)} (ho : o.op = .buildSlice t n parts.toArray) (hs : SI X.P t e sz bytes zs)
    (hv : evParts E parts = some vs) (hf : fillS sz (List.replicate n zs).flatten vs = some cs) (hn : Nat.ble (n * sz) 16777216 = true) :
    Does X o E H (fun v H' => ∃ b, v = .slice (some ⟨b, 0, none⟩) n n ∧ H' = ⟨some b, cl cs e⟩ :: H) := by
  intro a w ha hw next Q kk
  obtain ⟨h1, i, z, h2, h3, h4, h5, h6, h7, h8⟩ := hs
  refine ⟨about_true, ?_⟩
  rw [semAt_of (by rw [ho]; intro c e; cases e)]
  have hp := ha.parts hv
  have hpa : (parts.toArray.map fun (i, x) => (i, a.eval x)) = vs.toArray := by rw [← hp]; simp
  have hle : ¬ (n * sz > 16777216) := by simp only [Nat.ble_eq] at hn; omega
  have hfl := fillS_eq sz vs _ cs hf
  have hm := made_eq zs n (by omega)
  rw [h7] at hm
  have hrun : (execOp a.eval o).run X.P w = .ok (.value (.slice (some ⟨w.heap.size, 0, none⟩) n n)) (w.alloc (cl cs e)) := by
    by_cases h0 : n * sz = 0
    · have hn0 : n = 0 := by rcases Nat.mul_eq_zero.1 h0 with h | h <;> omega
      subst hn0
      simp only [List.replicate_zero, List.flatten_nil] at hfl
      simp [execOp, ho, Instr.buildSlice, run_underlying h1, sizeOf, typeInfo, h2, h4, hp, Array.range_zero', hfl, newRow, cl]
    · simp only [madeCells] at hm
      have hsz : (sizeOf e).run X.P w = .ok sz w := by simp [sizeOf, typeInfo, h2, h4]
      have hzv : (zeroValue e).run X.P w = .ok z w := by simp [zeroValue, typeInfo, h2, h3]
      have hb : (Instr.buildSlice t n vs.toArray).run X.P w = .ok (.slice (some ⟨w.heap.size, 0, none⟩) n n) (w.alloc (cl cs e)) := by
        simp only [Instr.buildSlice, Sem.run_bind, run_underlying h1, Result.andThen_ok, hsz, if_neg hle, if_neg h0, hzv, Sem.run_pure, h6, hm, hfl]
        simp [newRow, cl]
      simp only [execOp, ho, hpa, Sem.run_bind, hb, Result.andThen_ok, Sem.run_pure]
  rw [hrun]
  exact kk _ _ _ ⟨_, rfl, rfl⟩ (hw.alloc _)
theorem cells_at {H0 : Heap} {w0 w : World} {b k : Nat} {cs vs : List Value} {e : TypeId} (hw : HW H0 w0 H w) (hm : (⟨some b, cl cs e⟩ : Ent) ∈ H) (ha : At cs k vs) : ∀ j u, vs[j]? = some u → w.cell? ((⟨b, k, none⟩ : Addr).add j) = some u :=
  fun j u hj => by rw [add_at, cell_of hw hm]; exact ha j u hj
theorem pull_mem {x : Ent} {F : Heap} (h : Pull x H F) : x ∈ H := by
  induction h with
  | head => exact List.mem_cons_self ..
  | tail _ ih => exact List.mem_cons_of_mem _ ih
theorem HW.drop {H0 F : Heap} {w0 w : World} {x : Ent} (hw : HW H0 w0 H w) (hp : Pull x H F) : HW H0 w0 F w := by
  have h := hw.perm hp.perm
  exact HW.left (B := [x]) (h.perm (by simpa using (List.perm_append_comm (l₁ := [x]) (l₂ := F))))
theorem grown_own {w : World} {n m c sz e : Nat} {xs news : List Value} {zs : List Value} (hx : xs.length = n * sz) (hl : news.length = m * sz) (hz : zs.length = sz) (h63 : n + m ≤ 9223372036854775807) (b : Nat) :
    ∃ tl, xs.toArray ++ news.toArray ++ Builtin.zeroCells zs.toArray (grownCap w (n + m) c e - (n + m)) = (xs ++ news ++ tl).toArray ∧ Own (some b) (n + m) (grownCap w (n + m) c e) sz (xs ++ news) tl := by
  have hge := grownCap_ge w (n + m) c e
  have hcm : grownCap w (n + m) c e ≤ maxLen := grownCap_le_maxLen w (n + m) c e (by simpa [maxLen] using h63)
  refine ⟨(Builtin.zeroCells zs.toArray (grownCap w (n + m) c e - (n + m))).toList, by simp, ⟨?_, ?_, hge, by simpa [maxLen] using hcm, fun h => by cases h⟩⟩
  · rw [List.length_append, hx, hl, Nat.add_mul]
  · have e1 : (Builtin.zeroCells zs.toArray (grownCap w (n + m) c e - (n + m))).toList.length = (grownCap w (n + m) c e - (n + m)) * sz := by
      rw [Array.length_toList, size_zeroCells, List.size_toArray, hz]
    rw [e1, List.length_append, hx, hl, ← Nat.add_mul, ← Nat.add_mul]
    congr 1; omega
/-- append, from a slice that holds cells. -/
theorem D_append {t e e2 : TypeId} {sz bytes n c m mc b2 k2 : Nat} {zs xs tl cs2 news : List Value} {ob : Option Nat} {x y : Operand} {F : Heap}
    (ho : o.op = .call { callee := .builtin .append, args := #[x, y], argTypes := #[t, t] }) (hs : SI X.P t e sz bytes zs) (hx : ev E x = some (slV ob n c)) (hown : Own ob n c sz xs tl) (hp : Pull ⟨ob, cl (xs ++ tl) e⟩ H F)
    (hy : ev E y = some (.slice (some ⟨b2, k2, none⟩) m mc)) (hm : (⟨some b2, cl cs2 e2⟩ : Ent) ∈ H) (hat : At cs2 k2 news) (hl : news.length = m * sz) (h1 : news.all Value.oneCell' = true) (hroom : (n + m) * bytes ≤ 140737488355328) (h63 : n + m ≤ 9223372036854775807) :
    Does X o E H (fun v H' => ∃ ob' c' tl', v = slV ob' (n + m) c' ∧ Own ob' (n + m) c' sz (xs ++ news) tl' ∧ H' = ⟨ob', cl (xs ++ news ++ tl') e⟩ :: F) := by
  intro a w ha hw next Q kk
  obtain ⟨g1, i, z, g2, g3, g4, g5, g6, g7, g8⟩ := hs
  refine ⟨about_true, ?_⟩
  rw [semAt_of (by rw [ho]; intro c e; cases e)]
  have hnews := cells_at hw hm hat
  have hexec : ∀ v w', (Builtin.append_ #[t, t] o.type #[slV ob n c, .slice (some ⟨b2, k2, none⟩) m mc]).run X.P w = .ok v w' → (execOp a.eval o).run X.P w = .ok (.value v) w' := fun v w' h => by
    simp [execOp, ho, resolve, ha.eval hx, ha.eval hy, invoke, builtin, h]
  have hl' : news.length = m * i.size := by rw [g4]; exact hl
  cases ob with
  | none =>
    have hc := hown.nil rfl
    have hn : n = 0 := by have := hown.le; omega
    subst hn; subst hc
    have hxs : xs = [] := List.eq_nil_of_length_eq_zero (by simpa using hown.len)
    subst hxs
    by_cases hm0 : m = 0
    · subst hm0
      have hne : news = [] := List.eq_nil_of_length_eq_zero (by simpa using hl)
      subst hne
      have hr : (Builtin.append_ #[t, t] o.type #[slV none 0 0, .slice (some ⟨b2, k2, none⟩) 0 mc]).run X.P w = .ok (slV none 0 0) w := by
        simp [Builtin.append_, slV, run_underlying g1, sizeOf, typeInfo, g2, Builtin.lenOf, Builtin.firstCells, loadCells, loadCellsFrom]
      rw [hexec _ _ hr]
      have htl : tl = [] := List.eq_nil_of_length_eq_zero (by simpa using hown.cap)
      subst htl
      exact kk _ _ _ ⟨none, 0, [], rfl, hown, rfl⟩ (hw.perm hp.perm)
    · have hr := run_append_nil (P := X.P) w t o.type e i z g1 g2 g3 ⟨b2, k2, none⟩ m mc news hl' hnews (by omega) (by omega) (by rw [g5]; simp only [Nat.zero_add] at hroom; omega)
      rw [hexec _ _ hr]
      obtain ⟨tl', e1, e2⟩ := grown_own (w := w) (n := 0) (m := m) (c := 0) (e := e) (xs := []) (news := news) (zs := zs) (by simp) hl g7 h63 w.heap.size
      simp only [Nat.zero_add, List.nil_append, Array.empty_append] at e1 e2
      rw [g6]
      rw [e1]
      refine kk _ _ _ ⟨some w.heap.size, _, tl', ?_, by simpa using e2, rfl⟩ (((hw.drop hp).drew).alloc (cl (news ++ tl') e))
      simp [slV]
  | some b =>
    have hb : w.heap[b]? = some (cl (xs ++ tl) e) := by
      have := hw.hok.ok _ (pull_mem hp)
      simpa [Ent.ok] using this
    by_cases hfit : n + m ≤ c
    · have hfit2 : n * i.size + news.length ≤ (xs ++ tl).toArray.size := by
        have := hown.cap
        simp only [List.size_toArray, List.length_append, g4, hl, this, ← Nat.add_mul]
        exact Nat.mul_le_mul_right _ hfit
      have hr := run_append_room (P := X.P) w t o.type e i g1 g2 b n c (xs ++ tl).toArray hb ⟨b2, k2, none⟩ m mc news hl' hnews (List.all_eq_true.1 h1) hfit hfit2
      rw [hexec _ _ hr]
      have hx1 : n * i.size = xs.length := by rw [g4]; exact hown.len.symm
      have hset : ((xs ++ tl).toArray.toList.take (n * i.size) ++ news ++ (xs ++ tl).toArray.toList.drop (n * i.size + news.length)) = xs ++ news ++ tl.drop news.length := by
        rw [hx1]
        simp [List.drop_append]
      have hlen : (xs ++ news).length = (n + m) * sz := by rw [List.length_append, hown.len, hl, Nat.add_mul]
      refine kk _ _ _ ⟨some b, c, tl.drop news.length, rfl, ⟨hlen, ?_, hfit, hown.big, fun h => by cases h⟩, rfl⟩ ?_
      · have h3 := hown.cap
        have h4 : news.length ≤ tl.length := by
          have h5 := Nat.mul_le_mul_right sz hfit
          rw [← hlen, ← h3] at h5
          simp only [List.length_append] at h5
          omega
        simp only [List.length_append, List.length_drop]
        omega
      · refine hw.turn hp (by simp) ?_ (fun k hk => setRow_other w b k _ hk) rfl rfl rfl
        have := setRow_heap w b (xs ++ tl).toArray (xs ++ news ++ tl.drop news.length).toArray e (0, 0) hb
        have hset' := congrArg List.toArray hset
        simp only [List.append_assoc] at hset' this ⊢
        rw [hset']
        exact this
    · have holds : ∀ j u, xs[j]? = some u → w.cell? ((⟨b, 0, none⟩ : Addr).add j) = some u :=
        cells_at hw (pull_mem hp) (fun j u hj => by
          rw [Nat.zero_add, List.getElem?_append_left (List.getElem?_eq_some_iff.1 hj).1]; exact hj)
      have hr := run_append_grow (P := X.P) w t o.type e i z g1 g2 g3 ⟨b, 0, none⟩ n c xs (by rw [g4]; exact hown.len) holds ⟨b2, k2, none⟩ m mc news hl' hnews (by omega) (by omega) (growslice_fits (by omega) (by rw [g5]; exact hroom))
      rw [hexec _ _ hr]
      obtain ⟨tl', e1, e2⟩ := grown_own (w := w) (n := n) (m := m) (c := c) (e := e) (xs := xs) (news := news) (zs := zs) hown.len hl g7 h63 w.heap.size
      rw [g6, e1]
      exact kk _ _ _ ⟨some w.heap.size, _, tl', rfl, e2, rfl⟩ (((hw.drop hp).drew).alloc (cl (xs ++ news ++ tl') e))
end
end Go.Proofs.YtkcfgglmlogjbaaGreat
end
section
namespace Go.Proofs.YtkcfgglmlogjbaaGreat
/-- A contract of a call of yield, in a memory that holds H. -/
def YSpec (P : Program) (l : Nat) (args : List Value) (H : Heap) (post : Value → Heap → Prop) : Prop :=
  ∀ w, HOK H w → ∃ fn tmps assign body, (Instr.yield l args.toArray).run P w = .ok (.round l fn tmps assign body) w ∧
    RoundIn Fence.wide 0 P l fn tmps assign body w (fun e w' => ∃ v H', e = .returned v ∧ post v H' ∧ HW H w H' w')
def yieldV (l : Nat) : Value := .func (.yield l) #[] #[]
section
variable {X : Ctx} {E : Env} {H : Heap} {o : Oper}
/-- The iterator's call of yield. -/
theorem D_yield {l : Nat} {x : Operand} {args : List Operand} {tys : Array TypeId} {vs : List Value} {Hp F : Heap} {post : Value → Heap → Prop} (hs : YSpec X.P l vs Hp post) (hr0 : X.ro = none)
    (ho : o.op = .call { callee := .value x, args := args.toArray, argTypes := tys }) (hx : ev E x = some (yieldV l)) (ha : evs E args = some vs) (hp : H.Perm (F ++ Hp)) :
    Does X o E H (fun v H' => ∃ H1, post v H1 ∧ H' = F ++ H1) := by
  intro a w hA hw next Q k
  have hp' : H.Perm (Hp ++ F) := hp.trans List.perm_append_comm
  obtain ⟨fn, tmps, assign, body, hy, hR⟩ := hs w (hw.perm hp').left.hok
  refine ⟨about_true, ?_⟩
  rw [semAt_of (by rw [ho]; intro c e; cases e)]
  have hrun : (execOp a.eval o).run X.P w = .ok (.round l fn tmps assign body) w := by
    simp [execOp, ho, resolve, hA.evals ha, hA.eval hx, yieldV, Deferred.ofValue, invoke, hy]
  rw [hrun, hr0]
  refine ⟨fun h => by simp [fen, Fence.wide] at h, ?_⟩
  refine RoundIn.mono (R := fun e w' => ∃ v H', e = .returned v ∧ post v H' ∧ HW Hp w H' w') hR ?_
  rintro e w' ⟨v, H1, rfl, hpost, hw1⟩
  exact k v _ w' ⟨H1, hpost, rfl⟩ ((hw.frame hp' hw1).perm List.perm_append_comm)
end
/-- **AN ITERATOR OVER xs**: it calls yield on one after the other, till one says no more; it turns nothing of its own. -/
def IterSpec (P : Program) (g : FuncId) (ca : List Value) (Hit : Heap) {α : Type} (enc : α → List Value) (xs : List α) : Prop :=
  ∀ (l : Nat) (J Jx : List α → Heap → Prop),
    (∀ pre x suf hj, xs = pre ++ x :: suf → J pre hj → YSpec P l (enc x) hj (fun v H' => (v = .bool true ∧ J (pre ++ [x]) H') ∨ (v = .bool false ∧ Jx (pre ++ [x]) H'))) →
    ∀ hj, J [] hj → Spec P g (yieldV l :: ca) (Hit ++ hj) (fun _ H' => ∃ h2, (J xs h2 ∨ ∃ pre, Jx pre h2) ∧ H' = Hit ++ h2)
def pushE : List Nat → List Value → Env → Env
  | q :: ps, v :: vs, E => pushE ps vs ((q, v) :: E)
  | _, _, E => E
theorem AE.pushE {X : Ctx} : ∀ (ps : List Nat) (vs : List Value) (E : Env) (t : Array Value) (D : List Deferred), AE X E ⟨t, D⟩ → ps.all (fun q => Nat.blt q X.N) = true →
    AE X (Go.Proofs.YtkcfgglmlogjbaaGreat.pushE ps vs E) ⟨(ps.zip vs).foldl (fun t x => t.setIfInBounds x.1 x.2) t, D⟩
  | [], _, E, t, D, h, _ => by simpa [Go.Proofs.YtkcfgglmlogjbaaGreat.pushE] using h
  | q :: ps, [], E, t, D, h, _ => by simpa [Go.Proofs.YtkcfgglmlogjbaaGreat.pushE] using h
  | q :: ps, v :: vs, E, t, D, h, hb => by
    simp only [List.all_cons, Bool.and_eq_true] at hb
    simp only [Go.Proofs.YtkcfgglmlogjbaaGreat.pushE, List.zip_cons_cons, List.foldl_cons]
    exact AE.pushE ps vs _ _ D (h.put q v hb.1) hb.2
def markOf (dl : Nat) : Deferred := { target := .collected dl, args := #[] }
def dlE (dl : Nat) : Ent := ⟨some dl, .deferred (some [])⟩
/-- How a round's body may be left. -/
structure RndN {α G : Type} (I : List α → G → Prop) (GI : G → Heap) (ys : List α) (H1 : Heap) (w2 : World) (a : Act) (w3 : World) : Prop where
  out : ∃ gg, I ys gg ∧ HW H1 w2 (GI gg) w3
structure RndX {α GX : Type} (Ix : Code → List α → GX → Prop) (HX : GX → Heap) (ys : List α) (H1 : Heap) (w2 : World) (c : Code) (a : Act) (w3 : World) : Prop where
  out : ∃ gx, Ix c ys gx ∧ HW H1 w2 (HX gx) w3
abbrev rndPost {α G GX : Type} (I : List α → G → Prop) (GI : G → Heap) (Ix : Code → List α → GX → Prop) (HX : GX → Heap) (ys : List α) (H1 : Heap) (w2 : World) : Post :=
  { nrm := RndN I GI ys H1 w2, ret := RndX Ix HX ys H1 w2 .ret, ex := fun id => RndX Ix HX ys H1 w2 (.exit id) }
/-- Between the assignment to the loop's variables and its body. -/
def BegK {α G GX : Type} (P : Program) (l N : Nat) (body : Code) (I : List α → G → Prop) (GI : G → Heap) (Ix : Code → List α → GX → Prop) (HX : GX → Heap) (ys : List α) (H0 : Heap) (w0 : World) (a1 : Act) (w1 : World) : Prop :=
  ∃ E1 H1, a1.tmps.size = N ∧ a1.defers = [] ∧ (∀ s v, gtE E1 s = some v → a1.tmps[s]? = some v) ∧ HW H0 w0 H1 w1 ∧ ∀ w2, WC ⟨P, some l, N, [], H1, w2⟩ body (rndPost I GI Ix HX ys H1 w2) E1 H1
abbrev begPost {α G GX : Type} (P : Program) (l N : Nat) (body : Code) (I : List α → G → Prop) (GI : G → Heap) (Ix : Code → List α → GX → Prop) (HX : GX → Heap) (ys : List α) (H0 : Heap) (w0 : World) : Post :=
  { nrm := BegK P l N body I GI Ix HX ys H0 w0, ret := fun _ _ => False, ex := fun _ _ _ => False }
theorem WQ_begin {α G GX : Type} {P : Program} {l N : Nat} {body : Code} {I : List α → G → Prop} {GI : G → Heap} {Ix : Code → List α → GX → Prop} {HX : GX → Heap} {ys : List α} {H0 : Heap} {w0 : World} {E1 : Env} {H1 : Heap}
    (h : ∀ w2, WC ⟨P, some l, N, [], H1, w2⟩ body (rndPost I GI Ix HX ys H1 w2) E1 H1) : WQ ⟨P, some l, N, [], H0, w0⟩ (BegK P l N body I GI Ix HX ys H0 w0) E1 H1 :=
  fun _ _ ha hw => ⟨E1, H1, ha.size, ha.defers, ha.env, hw, h⟩
section
variable {α G GX : Type} {I : List α → G → Prop} {GI : G → Heap} {Ix : Code → List α → GX → Prop} {HX : GX → Heap} {ys : List α} {H1 : Heap} {w2 : World} {P : Program} {l N : Nat} {E : Env} {H F : Heap}
theorem WQ_rnd (gg : G) (hI : I ys gg) (q : Pulls (GI gg) H F) : WQ ⟨P, some l, N, [], H1, w2⟩ (RndN I GI ys H1 w2) E H :=
  fun _ _ _ hw => ⟨⟨gg, hI, (hw.perm q.perm).left⟩⟩
end
theorem HW.turn1 {H0 F : Heap} {w0 w : World} {b : Nat} {ob : Obj} (ob' : Obj) (hw : HW H0 w0 (⟨some b, ob⟩ :: F) w) : HW H0 w0 (⟨some b, ob'⟩ :: F) (w.putObj b ob') := by
  have hlt : b < w.heap.size := hw.hok.lt (by simp [keys])
  exact hw.turn .head (by simp) (World.putObj_heap_same hlt) (fun k hk => World.putObj_heap_other hk) rfl rfl rfl
theorem HW.at {H0 F : Heap} {w0 w : World} {b : Nat} {ob : Obj} (hw : HW H0 w0 (⟨some b, ob⟩ :: F) w) : w.heap[b]? = some ob := by
  have := hw.hok.ok _ (List.mem_cons_self ..)
  simpa [Ent.ok] using this
/-- One round, out of the walk of the assignment and the body. -/
theorem ySpec_of {α G GX : Type} {P : Program} {l dl N : Nat} {assign body : Code} {I : List α → G → Prop} {GI : G → Heap} {Ix : Code → List α → GX → Prop} {HX : GX → Heap} {pre : List α} {x : α} {gg : G} {E : Env} {vs : List Value}
    {r : Loop} (hrp : r.pending = none) (hrs : r.state = .ready) (hra : r.assign = assign) (hrb : r.body = body) (hrd : r.tmps.size = N) (hre : ∀ s v, gtE E s = some v → r.tmps[s]? = some v) (hvs : vs.length = r.params.size)
    (hps : r.params.toList.all (fun q => Nat.blt q N) = true)
    (h : ∀ w, WC ⟨P, some l, N, [], GI gg, w⟩ assign (begPost P l N body I GI Ix HX (pre ++ [x]) (GI gg) w) (pushE r.params.toList vs E) (GI gg)) :
    YSpec P l vs (⟨some l, .loop r⟩ :: dlE dl :: GI gg) (fun v H' => (v = .bool true ∧ ∃ g', I (pre ++ [x]) g' ∧ H' = ⟨some l, .loop r⟩ :: dlE dl :: GI g') ∨
      (v = .bool false ∧ ∃ c gx, Ix c (pre ++ [x]) gx ∧ H' = ⟨some l, .loop { r with state := .done, pending := some c }⟩ :: dlE dl :: HX gx)) := by
  subst hra
  subst hrb
  intro w hok
  obtain ⟨hj, ehj⟩ : ∃ hj, hj = (⟨some l, .loop r⟩ :: dlE dl :: GI gg : Heap) := ⟨_, rfl⟩
  rw [← ehj] at hok ⊢
  have hw0 : HW hj w hj w := HW.start hok
  have hwL : HW hj w (⟨some l, .loop r⟩ :: dlE dl :: GI gg) w := ehj ▸ hw0
  have hL := hwL.at
  refine ⟨_, _, _, _, run_yield hL (by simpa using hvs), roundIn_of_wpIn trivial ?_⟩
  have hperm1 : (⟨some l, .loop r⟩ :: dlE dl :: GI gg : Heap).Perm (GI gg ++ [⟨some l, .loop r⟩, dlE dl]) := List.perm_append_comm (l₁ := [⟨some l, .loop r⟩, dlE dl])
  have hst : HW (GI gg) w (GI gg) w := HW.start (hwL.perm hperm1).left.hok
  have hae : AE ⟨P, some l, N, [], GI gg, w⟩ (pushE r.params.toList vs E) ⟨(r.params.zip vs.toArray).foldl (fun tmps (t, a) => tmps.setIfInBounds t a) r.tmps, []⟩ := by
    have := AE.pushE (X := ⟨P, some l, N, [], GI gg, w⟩) r.params.toList vs E r.tmps [] ⟨hrd, rfl, hre⟩ hps
    have e : (r.params.zip vs.toArray).foldl (fun tmps (t, a) => tmps.setIfInBounds t a) r.tmps = (r.params.toList.zip vs).foldl (fun t x => t.setIfInBounds x.1 x.2) r.tmps := by
      rw [← Array.foldl_toList]; simp
    rw [e]; exact this
  refine wpIn_mono (h w _ w hae hst) ?_
  intro e a1 w1 hq
  cases e with
  | normal =>
    obtain ⟨E1, H1, hs1, hd1, he1, hwB, hbody⟩ := hq
    have hw1 := (hwL.frame hperm1 hwB).perm List.perm_append_comm
    have hw1' : HW hj w (⟨some l, .loop r⟩ :: ([dlE dl] ++ H1)) w1 := hw1
    have hw2 := hw1'.turn1 (.loop { r with state := .busy })
    refine ⟨_, run_beginRound hw1'.at hrs, ?_⟩
    have hp2 : (⟨some l, .loop { r with state := .busy }⟩ :: ([dlE dl] ++ H1) : Heap).Perm (H1 ++ [⟨some l, .loop { r with state := .busy }⟩, dlE dl]) :=
      List.perm_append_comm (l₁ := [⟨some l, .loop { r with state := .busy }⟩, dlE dl])
    have hok2 : HOK H1 (w1.putObj l (.loop { r with state := .busy })) := (hw2.perm hp2).left.hok
    refine wpIn_mono (hbody _ a1 _ ⟨hs1, hd1, he1⟩ (HW.start hok2)) ?_
    intro e a3 w3 hq
    have fin : ∀ (H3 : Heap) (jump : Option Code), HW H1 (w1.putObj l (.loop { r with state := .busy })) H3 w3 →
        ∃ w4, (Instr.endRound l jump).run P w3 = .ok (.bool jump.isNone) w4 ∧ HW hj w (⟨some l, .loop { r with state := if jump.isNone then .ready else .done, pending := jump }⟩ :: dlE dl :: H3) w4 := by
      intro H3 jump hw3
      have h1 : HW hj w (⟨some l, .loop { r with state := .busy }⟩ :: dlE dl :: H3) w3 := (hw2.frame hp2 hw3).perm List.perm_append_comm
      refine ⟨_, run_endRound jump h1.at, ?_⟩
      exact h1.turn1 _
    cases e with
    | normal =>
      obtain ⟨g', hI, hw3⟩ := hq.out
      obtain ⟨w4, hr, hw4⟩ := fin _ none hw3
      refine ⟨_, w4, hr, _, _, rfl, .inl ⟨rfl, g', hI, rfl⟩, ?_⟩
      have e1 : ({ r with state := .ready, pending := none } : Loop) = r := by cases r; simp_all
      simpa [e1] using hw4
    | ret =>
      obtain ⟨gx, hI, hw3⟩ := hq.out
      obtain ⟨w4, hr, hw4⟩ := fin _ (some .ret) hw3
      simp only [Option.isNone_some, Bool.false_eq_true, if_false] at hw4
      refine ⟨_, w4, hr, _, _, rfl, .inr ⟨rfl, .ret, gx, hI, rfl⟩, ?_⟩
      exact hw4
    | exit id =>
      obtain ⟨gx, hI, hw3⟩ := hq.out
      obtain ⟨w4, hr, hw4⟩ := fin _ (some (.exit id)) hw3
      simp only [Option.isNone_some, Bool.false_eq_true, if_false] at hw4
      refine ⟨_, w4, hr, _, _, rfl, .inr ⟨rfl, .exit id, gx, hI, rfl⟩, ?_⟩
      exact hw4
    | goto t => exact hq.elim
    | panic ch => exact hq.elim
    | outgrown => exact hq.elim
  | ret => exact hq.elim
  | exit id => exact hq.elim
  | goto t => exact hq.elim
  | panic ch => exact hq.elim
  | outgrown => exact hq.elim
/-- **'for .. := range f { body }'**, outside of any round. -/
theorem WC_range {X : Ctx} {p : Post} {E : Env} {H : Heap} {α G GX : Type} {f : Operand} {ps : List Tmp} {assign body : Code} {g : FuncId} {ca : List Value} {Hit F1 F2 : Heap} {enc : α → List Value} {xs : List α}
    (hit : IterSpec X.P g ca Hit enc xs) (hro : X.ro = none) (hf : ev E f = some (.func (.func g) #[] ca.toArray)) (hlen : ∀ x, (enc x).length = ps.length) (hps : ps.all (fun q => Nat.blt q X.N) = true)
    (I : List α → G → Prop) (GI : G → Heap) (Ix : Code → List α → GX → Prop) (HX : GX → Heap) (g0 : G) (h0 : I [] g0) (hq : Pulls Hit H F1) (hq2 : Pulls (GI g0) F1 F2)
    (hround : ∀ l pre x suf gg, xs = pre ++ x :: suf → I pre gg → ∀ w, WC ⟨X.P, some l, X.N, [], GI gg, w⟩ assign (begPost X.P l X.N body I GI Ix HX (pre ++ [x]) (GI gg) w) (pushE ps (enc x) E) (GI gg))
    (hdone : ∀ dl gg, I xs gg → WQ { X with D := markOf dl :: X.D } p.nrm E (dlE dl :: (GI gg ++ (Hit ++ F2))))
    (hstop : ∀ dl c pre gx, Ix c pre gx → WC { X with D := markOf dl :: X.D } c p E (dlE dl :: (HX gx ++ (Hit ++ F2)))) :
    WC X (.rangeFunc f ps.toArray assign body) p E H := by
  intro a w ha hw
  refine wpIn_rangeFunc ?_
  intro fn _
  have hF : (fen X.ro).round = none := by rw [hro]; rfl
  rw [hF]
  obtain ⟨r, er⟩ : ∃ r : Loop, r = { state := .ready, pending := none, fn, tmps := a.tmps, params := ps.toArray, assign, body, defers := w.heap.size } := ⟨_, rfl⟩
  have hwa := (hw.alloc (.deferred (some []))).alloc (.loop r)
  rw [World.size_alloc] at hwa
  -- the iterator's contract
  have hS := hit (w.heap.size + 1) (fun ys h => ∃ gg, I ys gg ∧ h = (⟨some (w.heap.size + 1), .loop r⟩ :: dlE w.heap.size :: GI gg : Heap))
    (fun ys h => ∃ c gx, Ix c ys gx ∧ h = (⟨some (w.heap.size + 1), .loop { r with state := .done, pending := some c }⟩ :: dlE w.heap.size :: HX gx : Heap))
    (fun pre x suf hj hx hJ => by
      obtain ⟨gg, hI, rfl⟩ := hJ
      have e1 : r.params.toList = ps := by rw [er]
      refine ySpec_of (E := E) (N := X.N) (assign := assign) (body := body) (by rw [er]) (by rw [er]) (by rw [er]) (by rw [er]) (by rw [er]; exact ha.size) (by rw [er]; exact ha.env) (by rw [← Array.length_toList, e1]; exact hlen x) (by rw [e1]; exact hps)
        (fun w' => ?_)
      rw [e1]
      exact hround _ pre x suf gg hx hI w')
    (⟨some (w.heap.size + 1), .loop r⟩ :: dlE w.heap.size :: GI g0) ⟨g0, h0, rfl⟩
  have hp : (⟨some (w.heap.size + 1), .loop r⟩ :: ⟨some w.heap.size, .deferred (some [])⟩ :: H : Heap).Perm ((Hit ++ (⟨some (w.heap.size + 1), .loop r⟩ :: dlE w.heap.size :: GI g0)) ++ F2) := by
    have h1 : H.Perm (Hit ++ (GI g0 ++ F2)) := hq.perm.trans (List.Perm.append_left _ hq2.perm)
    have h2 := (List.Perm.append_left [⟨some (w.heap.size + 1), .loop r⟩, dlE w.heap.size] h1)
    refine h2.trans ?_
    rw [List.append_assoc, ← List.append_assoc]
    exact List.Perm.append_right _ List.perm_append_comm |>.trans (by rw [List.append_assoc]; exact .refl _)
  have hwp := hwa.perm hp
  obtain ⟨W1, eW⟩ : ∃ W1, W1 = (w.alloc (.deferred (some []))).alloc (.loop r) := ⟨_, rfl⟩
  rw [← eW] at hwa hwp
  refine ⟨w.heap.size + 1, [markOf w.heap.size], W1, { target := .fn (.func g) ca.toArray, args := #[yieldV (w.heap.size + 1)] }, W1, g, #[yieldV (w.heap.size + 1)] ++ ca.toArray, W1, ?_, ?_, fun _ _ => trivial, ?_, ?_, ?_⟩
  · rw [eW, er]; exact run_enterLoop_outer _ _ _ _ _
  · simp only [resolve, ha.eval hf]
    simp [go_sem, yieldV]
  · have := hS.enters (#[yieldV (w.heap.size + 1)] ++ ca.toArray) W1
    simpa [invoke] using this
  · intro h; simp [fen, Fence.wide] at h
  · have hc := hS.calls _ hwp.left.hok
    have e2 : (yieldV (w.heap.size + 1) :: ca).toArray = #[yieldV (w.heap.size + 1)] ++ ca.toArray := by simp
    rw [e2] at hc
    rw [hro]
    refine CallsIn.mono hc ?_
    rintro e w3 ⟨v, H', rfl, ⟨h2, hJ, rfl⟩, hw3⟩
    have hw3' := hwa.frame hp hw3
    have ha' : ∀ (D : List Deferred), AE { X with D := D ++ X.D } E { a with defers := D ++ a.defers } := fun D => ⟨ha.size, by simp [ha.defers], ha.env⟩
    rcases hJ with ⟨gg, hI, rfl⟩ | ⟨pre, c, gx, hI, rfl⟩
    · have hp3 : (Hit ++ (⟨some (w.heap.size + 1), .loop r⟩ :: dlE w.heap.size :: GI gg) ++ F2 : Heap).Perm (⟨some (w.heap.size + 1), .loop r⟩ :: dlE w.heap.size :: (GI gg ++ (Hit ++ F2))) := by
        rw [List.append_assoc]
        refine (List.perm_append_comm_assoc _ _ _).trans ?_
        exact .refl _
      have h3 := hw3'.perm hp3
      refine ⟨none, w3.putObj (w.heap.size + 1) (.loop { r with state := .exhausted }), ?_, ?_⟩
      · rw [run_endLoop h3.at (by rw [er]; simp)]; rw [er]
      · exact hdone w.heap.size gg hI _ _ (ha' [markOf w.heap.size]) ((h3.turn1 (.loop { r with state := .exhausted })).drop .head)
    · have hp3 : (Hit ++ (⟨some (w.heap.size + 1), .loop { r with state := .done, pending := some c }⟩ :: dlE w.heap.size :: HX gx) ++ F2 : Heap).Perm (⟨some (w.heap.size + 1), .loop { r with state := .done, pending := some c }⟩ :: dlE w.heap.size :: (HX gx ++ (Hit ++ F2))) := by
        rw [List.append_assoc]
        refine (List.perm_append_comm_assoc _ _ _).trans ?_
        exact .refl _
      have h3 := hw3'.perm hp3
      refine ⟨some c, w3.putObj (w.heap.size + 1) (.loop { r with state := .exhausted, pending := some c }), ?_, ?_⟩
      · rw [run_endLoop h3.at (by simp)]
      · have := hstop w.heap.size c pre gx hI _ _ (ha' [markOf w.heap.size]) ((h3.turn1 (.loop { r with state := .exhausted, pending := some c })).drop .head)
        rw [hro] at this
        exact this
/-! ### A function that leaves with marks -/
def RetM (P : Program) (fn : Func) (H : Heap) (w : World) (post : Value → Heap → Prop) (a : Act) (w' : World) : Prop :=
  bodyPostM Fence.wide 0 P fn (fun e w'' => ∃ v H', e = .returned v ∧ post v H' ∧ HW H w H' w'') .ret a w'
abbrev fnPostM (P : Program) (fn : Func) (H : Heap) (w : World) (post : Value → Heap → Prop) : Post :=
  { nrm := RetM P fn H w post, ret := RetM P fn H w post, ex := fun _ _ _ => False }
theorem Spec.ofM {P : Program} {f : FuncId} {fn : Func} {c : Code} {N : Nat} {ars : List Value} {E : Env} {H : Heap} {post : Value → Heap → Prop}
    (hf : P.funcs[f]? = some fn) (hb : fn.body = some c) (hname : (fn.name == "runtime.NumGoroutine") = false) (hN : fn.ntmps = N) (hl : Nat.ble ars.length N = true) (hE : argEnv 0 ars = E)
    (h : ∀ w, WC ⟨P, none, N, [], H, w⟩ c (fnPostM P fn H w post) E H) : Spec P f ars H post := by
  refine ⟨Enters.mk hf hname hb, fun w hw => callsIn_of_wp_marks hf hb trivial ?_⟩
  have hl' : ars.length ≤ N := by simpa [Nat.ble_eq] using hl
  subst hE
  refine wpIn_mono (h w _ w ⟨?_, rfl, ?_⟩ (HW.start hw)) ?_
  · simp [hN]; omega
  · intro s v hs
    obtain ⟨-, h2⟩ := get_argEnv ars 0 s v hs
    have h3 : ars[s]? = some v := by simpa using h2
    have hlt : s < ars.length := (List.getElem?_eq_some_iff.1 h3).1
    rw [Array.getElem?_append_left (by simpa using hlt)]
    simpa using h3
  · intro e a w' hq
    cases e with
    | normal => exact hq
    | ret => exact hq
    | exit id => exact hq.elim
    | goto l => exact hq.elim
    | panic ch => exact hq.elim
    | outgrown => exact hq.elim
/-- The end of a function that holds one range over a function. -/
theorem WQ_retM {X : Ctx} {E : Env} {H F H' F' : Heap} {fn : Func} {rs : List ResultVar} {vs : List Value} {v : Value} {post : Value → Heap → Prop} {dl : Nat} (hD : X.D = [markOf dl]) (hp1 : Pull (dlE dl) H F) (hr : fn.results = rs.toArray)
    (h : RVs X E F rs vs) (hv : resV vs = v) (hp : post v H') (hq : Pulls H' F F') : WQ X (RetM X.P fn X.H0 X.w0 post) E H := by
  intro a w ha hw
  have hw1 := hw.perm hp1.perm
  have hw2 := (hw1.turn1 (.deferred none)).drop .head
  show LeavesInM Fence.wide 0 X.P fn a.tmps _ a.defers .returning w
  rw [ha.defers, hD]
  refine ⟨by simp, .inl ⟨dl, _, rfl, run_takeDeferred hw1.at, ?_⟩⟩
  refine ⟨v, ?_, v, H', rfl, hp, (hw2.perm hq.perm).left⟩
  rw [run_results hr h ha hw2, hv]
theorem WQ_retM0 {X : Ctx} {E : Env} {H H' F' : Heap} {fn : Func} {rs : List ResultVar} {vs : List Value} {v : Value} {post : Value → Heap → Prop} (hD : X.D = []) (hr : fn.results = rs.toArray)
    (h : RVs X E H rs vs) (hv : resV vs = v) (hp : post v H') (hq : Pulls H' H F') : WQ X (RetM X.P fn X.H0 X.w0 post) E H := by
  intro a w ha hw
  show LeavesInM Fence.wide 0 X.P fn a.tmps _ a.defers .returning w
  rw [ha.defers, hD]
  refine ⟨v, ?_, v, H', rfl, hp, (hw.perm hq.perm).left⟩
  rw [run_results hr h ha hw, hv]
end Go.Proofs.YtkcfgglmlogjbaaGreat
end
section
namespace Go.Proofs.YtkcfgglmlogjbaaGreat
section
variable {α : Type} {enc : α → List Value} {k : Nat}
theorem fm_length (hk : ∀ x, (enc x).length = k) (T : List α) : (T.flatMap enc).length = T.length * k := by
  induction T with
  | nil => simp
  | cons x T ih => simp only [List.flatMap_cons, List.length_append, hk, ih, List.length_cons, Nat.add_mul]; omega
theorem fm_get (hk : ∀ x, (enc x).length = k) {T : List α} {i : Nat} {x : α} (h : T[i]? = some x) {j : Nat} (hj : j < k) (tl : List Value) : (T.flatMap enc ++ tl)[i * k + j]? = (enc x)[j]? := by
  induction T generalizing i with
  | nil => simp at h
  | cons y T ih =>
    rw [List.flatMap_cons, List.append_assoc]
    cases i with
    | zero =>
      simp at h; subst h
      rw [Nat.zero_mul, Nat.zero_add, List.getElem?_append_left (by rw [hk]; exact hj)]
    | succ i =>
      have := ih (i := i) (by simpa using h)
      rw [List.getElem?_append_right (by rw [hk, Nat.add_mul]; omega), hk, ← this]
      congr 1
      rw [Nat.add_mul]; omega
theorem fm_at (hk : ∀ x, (enc x).length = k) {T : List α} {i : Nat} {x : α} (h : T[i]? = some x) {j : Nat} {vs : List Value} (hv : At (enc x) j vs) (hj : j + vs.length ≤ k) (tl : List Value) : At (T.flatMap enc ++ tl) (i * k + j) vs := by
  intro m v hm
  have hlt := (List.getElem?_eq_some_iff.1 hm).1
  rw [Nat.add_assoc, fm_get hk h (by omega)]
  exact hv m v hm
theorem putAt_append : ∀ (A B : List Value) (m : Nat) (vs : List Value), putAt (A ++ B) (A.length + m) vs = A ++ putAt B m vs
  | [], B, m, vs => by simp
  | c :: A, B, m, vs => by
    rw [List.length_cons, show A.length + 1 + m = (A.length + m) + 1 from by omega, List.cons_append]
    simp only [putAt, putAt_append A B m vs, List.cons_append]
theorem putAt_left : ∀ (A B : List Value) (m : Nat) (vs : List Value), m + vs.length ≤ A.length → putAt (A ++ B) m vs = putAt A m vs ++ B
  | [], B, m, vs, h => by
    have : vs = [] := List.eq_nil_of_length_eq_zero (by simp at h; simp [h.2])
    subst this; simp [putAt_nil, putAt]
  | c :: A, B, 0, [], _ => by simp [putAt]
  | c :: A, B, 0, v :: vs, h => by
    simp only [List.cons_append, putAt]
    rw [putAt_left A B 0 vs (by simp at h ⊢; omega)]
  | c :: A, B, m + 1, vs, h => by
    simp only [List.cons_append, putAt]
    rw [putAt_left A B m vs (by simp at h ⊢; omega)]
theorem fm_put (hk : ∀ x, (enc x).length = k) {T : List α} {i : Nat} {x y : α} (h : T[i]? = some x) {j : Nat} {vs : List Value} (hj : j + vs.length ≤ k) (hy : putAt (enc x) j vs = enc y) (tl : List Value) :
    putAt (T.flatMap enc ++ tl) (i * k + j) vs = (T.set i y).flatMap enc ++ tl := by
  induction T generalizing i with
  | nil => simp at h
  | cons z T ih =>
    rw [List.flatMap_cons, List.append_assoc]
    cases i with
    | zero =>
      simp at h; subst h
      rw [Nat.zero_mul, Nat.zero_add, putAt_left _ _ _ _ (by rw [hk]; exact hj), hy, List.set_cons_zero, List.flatMap_cons, List.append_assoc]
    | succ i =>
      have := ih (i := i) (by simpa using h)
      rw [show (i + 1) * k + j = (enc z).length + (i * k + j) from by rw [hk, Nat.add_mul]; omega, putAt_append, this, List.set_cons_succ, List.flatMap_cons, List.append_assoc]
/-! the same with '0 +' in front, ars the walk writes it -/
theorem fm_get0 (hk : ∀ x, (enc x).length = k) {T : List α} {i : Nat} {x : α} (h : T[i]? = some x) {j : Nat} (hj : j < k) {tl : List Value} : (T.flatMap enc ++ tl)[0 + i * k + j]? = (enc x)[j]? := by
  rw [Nat.zero_add]; exact fm_get hk h hj tl
theorem fm_at0 (hk : ∀ x, (enc x).length = k) {T : List α} {i : Nat} {x : α} (h : T[i]? = some x) {j : Nat} {vs : List Value} (hv : At (enc x) j vs) (hj : j + vs.length ≤ k) {tl : List Value} : At (T.flatMap enc ++ tl) (0 + i * k + j) vs := by
  rw [Nat.zero_add]; exact fm_at hk h hv hj tl
theorem fm_put0 (hk : ∀ x, (enc x).length = k) {T : List α} {i : Nat} {x : α} (y : α) (h : T[i]? = some x) {j : Nat} {vs : List Value} (hj : j + vs.length ≤ k) (hy : putAt (enc x) j vs = enc y) {tl : List Value} :
    putAt (T.flatMap enc ++ tl) (0 + i * k + j) vs = (T.set i y).flatMap enc ++ tl := by
  rw [Nat.zero_add]; exact fm_put hk h hj hy tl
theorem fm_all (h1 : ∀ x, (enc x).all Value.oneCell' = true) (T : List α) : (T.flatMap enc).all Value.oneCell' = true := by
  induction T with
  | nil => rfl
  | cons x T ih => rw [List.flatMap_cons, List.all_append, h1, ih]; rfl
end
end Go.Proofs.YtkcfgglmlogjbaaGreat
end
section
namespace Go.Proofs.YtkcfgglmlogjbaaGreat
section
variable {X : Ctx} {o : Oper} {E : Env} {H : Heap}
theorem WM_none {ops : Array Oper} {p : Post} {Hq : Heap} {l : List (Nat × Bool)} (e : TypeId) (k : WM X ops p Hq l E (⟨none, cl [] e⟩ :: H)) : WM X ops p Hq l E H := fun a w ha hw => k a w ha (hw.addNone e)
theorem cell_ofG {H0 : Heap} {w0 w : World} {b : Nat} {cs : List Value} {e : TypeId} {fr : Nat × Nat} (hw : HW H0 w0 H w) (hm : (⟨some b, .cells cs.toArray e fr⟩ : Ent) ∈ H) (k : Nat) : w.cell? ⟨b, k, none⟩ = cs[k]? := by
  have h : w.heap[b]? = some (.cells cs.toArray e fr) := hw.hok.ok _ hm
  simp [World.cell?, h]
theorem R_loadG {t : TypeId} {x : Operand} {b k : Nat} {cs : List Value} {e : TypeId} {fr : Nat × Nat} {v : Value} (ho : o.op = .load t x) (ht : Sc X.P t) (hx : ev E x = some (.pointer (some ⟨b, k, none⟩)))
    (hm : (⟨some b, .cells cs.toArray e fr⟩ : Ent) ∈ H) (hv : cs[k]? = some v) : Runs X o E H v :=
  ⟨(by rw [ho]; intro c e; cases e), fun a w ha hw => by
    have hc := cell_ofG hw hm k
    rw [hv] at hc
    simp [execOp, ho, ha.eval hx, Instr.loadAt, Instr.sureAddr, loadVar, (ht w).1, hc]⟩
end
/-- A slice that came in: where it starts, the block that holds it (none: nothing lies in it), what it reads ars. -/
def Arg {α : Type} (oa : Option Addr) (x : Ent) (sz : Nat) (enc : α → List Value) (l : List α) : Prop :=
  (l = [] ∧ x = ⟨none, cl [] 0⟩) ∨ ∃ b k cs e fr, oa = some ⟨b, k, none⟩ ∧ x = ⟨some b, .cells (List.toArray cs) e fr⟩ ∧ ∀ (i : Nat) (y : α), l[i]? = some y → At cs (k + i * sz) (enc y)
theorem Arg.some {α : Type} {oa : Option Addr} {x : Ent} {sz : Nat} {enc : α → List Value} {l : List α} (h : Arg oa x sz enc l) (hl : 0 < l.length) :
    ∃ b k cs e fr, oa = Option.some ⟨b, k, none⟩ ∧ x = ⟨Option.some b, .cells (List.toArray cs) e fr⟩ ∧ ∀ (i : Nat) (y : α), l[i]? = Option.some y → At cs (k + i * sz) (enc y) := by
  rcases h with ⟨rfl, _⟩ | h
  · simp at hl
  · exact h
end Go.Proofs.YtkcfgglmlogjbaaGreat
end
section
namespace Go.Proofs.YtkcfgglmlogjbaaGreat
open Go.ChangeShapes Go.WideShapes Go.ChangeAt Go.RowKit Go.Joins Go.Deep
theorem list_choose {α : Type} {R : Nat → α → Prop} : ∀ n : Nat, (∀ i, i < n → ∃ x, R i x) → ∃ l : List α, l.length = n ∧ ∀ (i : Nat) (y : α), l[i]? = some y → R i y
  | 0, _ => ⟨[], rfl, fun i y h => by simp at h⟩
  | n + 1, h => by
    obtain ⟨l, hl, hR⟩ := list_choose n (fun i hi => h i (by omega))
    obtain ⟨x, hx⟩ := h n (by omega)
    refine ⟨l ++ [x], by simp [hl], fun i y hy => ?_⟩
    rw [List.getElem?_append] at hy
    split at hy
    · exact hR i y hy
    · rename_i hge
      rw [List.getElem?_singleton] at hy
      split at hy
      · obtain rfl : i = n := by omega
        cases hy; exact hx
      · cases hy
section
variable {H : Type} {enc : TypeId × Value → H} {P : Program} {W : World} {sp : Nat → Bool} {held : Bool} {α : Type} {enc' : α → List Value} {G : α → Prop} {sz : Nat}
theorem open_arg {t e : TypeId} {r : Reach} {b0 : Nat} {v : Value} {d : DataW H} {ps : List MemPlace} (ht : P.underlying t = some (.slice e)) (hsz : P.cellsOf e = sz) (hpos : 0 < sz)
    (dec : ∀ (m : Nat) (cs : List Value) (y : DataW H × List MemPlace), DataW.trod enc P W 0 sp held m e cs = some y → ∃ x : α, cs = enc' x ∧ G x)
    (hval : Value.okWide P W r b0 t v) (h : DataW.Trod enc P W 0 sp held t v d ps) :
    ∃ (oa : Option Addr) (x : Ent) (l : List α) (c : Nat), v = .slice oa l.length c ∧ Arg oa x sz enc' l ∧ x.ok W ∧ l.length ≤ maxLen ∧ ∀ y ∈ l, G y := by
  obtain ⟨a0, len, cap, rfl⟩ := okWide_slice ht hval
  obtain ⟨fuel, hf⟩ := h
  rcases open_slice ht hf with ⟨hc, _⟩ | ⟨a, len', cap', m, n, D, Pl, hc, hb, hl, hm, hmm, _, hx⟩
  · simp [Value.cells] at hc
    obtain ⟨rfl, rfl, rfl⟩ := hc
    exact ⟨none, ⟨none, cl [] 0⟩, [], 0, rfl, .inl ⟨rfl, rfl⟩, ⟨0, rfl⟩, Nat.zero_le _, fun y hy => by cases hy⟩
  · simp [Value.cells] at hc
    obtain ⟨rfl, rfl, rfl⟩ := hc
    have hml : len ≤ m := by rw [hmm]; split <;> omega
    obtain ⟨l, hll, hlx⟩ := list_choose (R := fun i (x : α) => W.cells? 0 (a.add (i * sz)) sz = some (enc' x) ∧ G x) len (fun i hi => by
      obtain ⟨cs', h1, h2⟩ := hx i (by omega)
      obtain ⟨x, rfl, hg⟩ := dec _ _ _ h2
      exact ⟨x, by rw [← hsz]; exact h1, hg⟩)
    have hG : ∀ y ∈ l, G y := fun y hy => by
      obtain ⟨i, hi⟩ := List.mem_iff_getElem?.1 hy
      exact (hlx i y hi).2
    subst hll
    cases l with
    | nil => exact ⟨some a, ⟨none, cl [] 0⟩, [], cap, rfl, .inl ⟨rfl, rfl⟩, ⟨0, rfl⟩, Nat.zero_le _, hG⟩
    | cons y0 l0 =>
      obtain ⟨_, hn0, hc0⟩ := World.cells?_some (hlx 0 y0 rfl).1
      have hcell := hc0 0 hpos
      have hsome : ∃ u, (enc' y0)[0]? = some u := ⟨_, List.getElem?_eq_getElem (by omega)⟩
      obtain ⟨u, hu⟩ := hsome
      rw [hu] at hcell
      obtain ⟨b, k, s⟩ := a
      have a0 : ∀ a : Addr, a.add 0 = a := fun a => by simp [Addr.add]
      rw [Nat.zero_mul, a0, a0] at hcell
      simp only [World.cell?] at hcell
      split at hcell
      · rename_i cs e' fr hblk
        cases s with
        | some s => simp at hcell
        | none =>
          refine ⟨some ⟨b, k, none⟩, ⟨some b, .cells cs e' fr⟩, y0 :: l0, cap, rfl, .inr ⟨b, k, cs.toList, e', fr, rfl, by simp, fun i y hy j v hv => ?_⟩, hblk, by omega, hG⟩
          obtain ⟨_, hn1, hc1⟩ := World.cells?_some (hlx i y hy).1
          have hj : j < sz := by
            have := (List.getElem?_eq_some_iff.1 hv).1
            omega
          have := hc1 j hj
          rw [hv] at this
          rw [add_at, add_at] at this
          simp only [World.cell?] at this
          rw [hblk] at this
          simpa using this
      · cases hcell
end
/-! ### Structs of numbers, truth values and structs, taken apart -/
section
variable {H : Type} {enc : TypeId × Value → H} {P : Program} {W : World} {sp : Nat → Bool} {held : Bool}
end
theorem wf_u8 {n : Int} (h : (Lit.int .u8 n).wf = true) : ∃ k : Nat, n = (k : Int) ∧ k < 256 := by
  have h1 : (0 : Int) ≤ n ∧ n ≤ 255 := by simpa [Lit.wf, IntKind.min, IntKind.max, IntKind.bits, IntKind.signed] using h
  exact ⟨n.toNat, by omega, by omega⟩
end Go.Proofs.YtkcfgglmlogjbaaGreat
end
section
set_option linter.unusedVariables false
set_option maxRecDepth 20000
namespace Go.Proofs.YtkcfgglmlogjbaaGreat
open Go.ChangeShapes Go.WideShapes Go.ChangeAt Go.RowKit Go.Joins Go.Deep
theorem rowOwn : ownKnob Tryz.prog.godebug = none := by kernel_rfl
theorem rowLaid : laidOutB Tryz.prog = true := by kernel_rfl
theorem rowMaps : mapsRowed Tryz.prog = true := by kernel_rfl
theorem rowFull : ∀ t e, t < Tryz.prog.types.size → Tryz.prog.underlying t = some (.slice e) → 0 < Tryz.prog.cellsOf e := slices_full_of Tryz.prog (by kernel_rfl)
end Go.Proofs.YtkcfgglmlogjbaaGreat
end
section
namespace Go.Proofs.YtkcfgglmlogjbaaGreat
open Go.ChangeShapes Go.WideShapes Go.ChangeAt Go.RowKit Go.Joins Go.Deep
section
variable {H : Type} {enc : TypeId × Value → H} {P : Program} {W : World} {sp : Nat → Bool} {held : Bool} {α : Type} {enc' : α → List Value} {G : α → Prop} {sz : Nat}
theorem open_argT {t e : TypeId} {fuel : Nat} {cv : List Value} {y9 : DataW H × List MemPlace} (ht : P.underlying t = some (.slice e)) (hsz : P.cellsOf e = sz) (hpos : 0 < sz)
    (dec : ∀ (m : Nat) (cs : List Value) (y : DataW H × List MemPlace), DataW.trod enc P W 0 sp held m e cs = some y → ∃ x : α, cs = enc' x ∧ G x)
    (hf : DataW.trod enc P W 0 sp held fuel t cv = some y9) :
    ∃ (oa : Option Addr) (x : Ent) (l : List α) (c : Nat), cv = [.slice oa l.length c] ∧ Arg oa x sz enc' l ∧ x.ok W ∧ l.length ≤ maxLen ∧ ∀ y ∈ l, G y := by
  rcases open_slice ht hf with ⟨hc, _⟩ | ⟨a, len, cap, m, n, D, Pl, hc, hb, hl, hm, hmm, _, hx⟩
  · subst hc
    exact ⟨none, ⟨none, cl [] 0⟩, [], 0, rfl, .inl ⟨rfl, rfl⟩, ⟨0, rfl⟩, Nat.zero_le _, fun y hy => by cases hy⟩
  · subst hc
    have hml : len ≤ m := by rw [hmm]; split <;> omega
    obtain ⟨l, hll, hlx⟩ := list_choose (R := fun i (x : α) => W.cells? 0 (a.add (i * sz)) sz = some (enc' x) ∧ G x) len (fun i hi => by
      obtain ⟨cs', h1, h2⟩ := hx i (by omega)
      obtain ⟨x, rfl, hg⟩ := dec _ _ _ h2
      exact ⟨x, by rw [← hsz]; exact h1, hg⟩)
    have hG : ∀ y ∈ l, G y := fun y hy => by
      obtain ⟨i, hi⟩ := List.mem_iff_getElem?.1 hy
      exact (hlx i y hi).2
    subst hll
    cases l with
    | nil => exact ⟨some a, ⟨none, cl [] 0⟩, [], cap, rfl, .inl ⟨rfl, rfl⟩, ⟨0, rfl⟩, Nat.zero_le _, hG⟩
    | cons y0 l0 =>
      obtain ⟨_, hn0, hc0⟩ := World.cells?_some (hlx 0 y0 rfl).1
      have hcell := hc0 0 hpos
      have hsome : ∃ u, (enc' y0)[0]? = some u := ⟨_, List.getElem?_eq_getElem (by omega)⟩
      obtain ⟨u, hu⟩ := hsome
      rw [hu] at hcell
      obtain ⟨b, k, s⟩ := a
      have a0 : ∀ a : Addr, a.add 0 = a := fun a => by simp [Addr.add]
      rw [Nat.zero_mul, a0, a0] at hcell
      simp only [World.cell?] at hcell
      split at hcell
      · rename_i cs e' fr hblk
        cases s with
        | some s => simp at hcell
        | none =>
          refine ⟨some ⟨b, k, none⟩, ⟨some b, .cells cs e' fr⟩, y0 :: l0, cap, rfl, .inr ⟨b, k, cs.toList, e', fr, rfl, by simp, fun i y hy j v hv => ?_⟩, hblk, by omega, hG⟩
          obtain ⟨_, hn1, hc1⟩ := World.cells?_some (hlx i y hy).1
          have hj : j < sz := by
            have := (List.getElem?_eq_some_iff.1 hv).1
            omega
          have := hc1 j hj
          rw [hv] at this
          rw [add_at, add_at] at this
          simp only [World.cell?] at this
          rw [hblk] at this
          simpa using this
      · cases hcell
end
end Go.Proofs.YtkcfgglmlogjbaaGreat
end
section
namespace Go.Proofs.YtkcfgglmlogjbaaGreat
section
variable {X : Ctx} {p : Post} {E : Env} {H : Heap} {o : Oper}
theorem R_min {x y : Operand} {tys : Array TypeId} {k k' : IntKind} {m n : Int} (ho : o.op = .call { callee := .builtin .min, args := #[x, y], argTypes := tys }) (hx : ev E x = some (.int k m)) (hy : ev E y = some (.int k' n)) : Runs X o E H (.int k (min m n)) :=
  ⟨(by rw [ho]; intro c e; cases e), fun a w ha _ => by
    simp [execOp, ho, resolve, ha.eval hx, ha.eval hy, invoke, builtin, Go.Lib.run_min_ints]⟩
end
end Go.Proofs.YtkcfgglmlogjbaaGreat
end
section
set_option linter.unusedSectionVars false
namespace Go.Proofs.YtkcfgglmlogjbaaGreat
open Go.RowKit (Below)
section
variable {X : Ctx} {ops : Array Oper} {p : Post} [NoPan p] {C : World → Prop}
theorem wpOpIn_late {j : Nat} {oi oj : Oper} {v : Value} {K : Act → World → Prop} {a : Act} {w : World} (hj : ops[j]? = some oj) (hap : oi.apart ops oj = true)
    (hsj : ∀ cs b, oj.op ≠ .select cs b) (hdj : ∀ c, oj.op ≠ .defer c) (h : wpOpIn (fen X.ro) 0 X.P ops p.toQ j K a w) :
    wpOpIn (fen X.ro) 0 X.P ops p.toQ j (fun a'' w' => ∃ a', a'' = a'.put oi.dst v ∧ K a' w') (a.put oi.dst v) w := by
  obtain ⟨h1, h2, h3⟩ := Oper.apart_spec hap
  unfold wpOpIn at *
  simp only [hj] at *
  rw [wanted_put oj a oi.dst v h1]
  split
  · rename_i hw
    simp only [hw, if_true] at h
    unfold Oper.wpIn at *
    refine ⟨about_true, ?_⟩
    have h := h.2
    rw [semAt_of hdj] at h
    rw [semAt_of hdj, execOp_put oj hsj a oi.dst v h1]
    generalize (execOp a.eval oj).run X.P w = r at *
    cases r with
    | ok x w' =>
      cases x <;> simp only [Oper.uponIn] at h ⊢
      case value u => exact ⟨_, Act.put_comm a v u h2, h⟩
      case skip => exact ⟨_, Act.put_comm a v undef h2, h⟩
      case defer d => exact ⟨_, by rw [Act.put_defers, Act.put_comm _ v undef h2], h⟩
      case enter f args =>
        refine ⟨h.1, CallsIn.mono h.2 fun e w'' he => ?_⟩
        cases e with
        | returned u => exact ⟨_, Act.put_comm a v u h2, he⟩
        | panicked c => exact (NoPan.pan _ _ _ he).elim
        | outgrown => exact he
      case row row args => exact ⟨h.1, RowsIn.mono h.2 fun u w'' he => ⟨_, Act.put_comm a v u h2, he⟩⟩
      case round l f tmps assign body =>
        refine ⟨h.1, RoundIn.mono h.2 fun e w'' he => ?_⟩
        cases e with
        | returned u => exact ⟨_, Act.put_comm a v u h2, he⟩
        | panicked c => exact (NoPan.pan _ _ _ he).elim
        | outgrown => exact he
    | halt x w' =>
      cases x <;> simp only [Oper.uponIn] at h ⊢
      case panic u => exact (NoPan.pan _ _ _ h).elim
  · rename_i hw
    simp only [hw] at h
    exact ⟨about_true, _, Act.put_comm a v undef h2, h.2⟩
theorem wpOpIn_keep {Z : Act → Prop} {j : Nat} {oj : Oper} {K : Act → World → Prop} {a : Act} {w : World} (hj : ops[j]? = some oj) (hdj : ∀ c, oj.op ≠ .defer c)
    (hZ : ∀ a u, Z a → Z (a.put oj.dst u)) (hZd : ∀ (a : Act) d, Z a → Z { a with defers := d :: a.defers }) (hz : Z a) (h : wpOpIn (fen X.ro) 0 X.P ops p.toQ j K a w) :
    wpOpIn (fen X.ro) 0 X.P ops p.toQ j (fun a' w' => Z a' ∧ K a' w') a w := by
  unfold wpOpIn at *
  simp only [hj] at *
  split
  · rename_i hw
    simp only [hw, if_true] at h
    unfold Oper.wpIn at *
    refine ⟨about_true, ?_⟩
    have h := h.2
    rw [semAt_of hdj] at h
    rw [semAt_of hdj]
    generalize (execOp a.eval oj).run X.P w = r at *
    cases r with
    | ok x w' =>
      cases x <;> simp only [Oper.uponIn] at h ⊢
      case value u => exact ⟨hZ _ _ hz, h⟩
      case skip => exact ⟨hZ _ _ hz, h⟩
      case defer d => exact ⟨hZ _ _ (hZd _ _ hz), h⟩
      case enter f args =>
        refine ⟨h.1, CallsIn.mono h.2 fun e w'' he => ?_⟩
        cases e with
        | returned u => exact ⟨hZ _ _ hz, he⟩
        | panicked c => exact (NoPan.pan _ _ _ he).elim
        | outgrown => exact he
      case row row args => exact ⟨h.1, RowsIn.mono h.2 fun u w'' he => ⟨hZ _ _ hz, he⟩⟩
      case round l f tmps assign body =>
        refine ⟨h.1, RoundIn.mono h.2 fun e w'' he => ?_⟩
        cases e with
        | returned u => exact ⟨hZ _ _ hz, he⟩
        | panicked c => exact (NoPan.pan _ _ _ he).elim
        | outgrown => exact he
    | halt x w' =>
      cases x <;> simp only [Oper.uponIn] at h ⊢
      case panic u => exact (NoPan.pan _ _ _ h).elim
  · rename_i hw
    simp only [hw] at h
    exact ⟨about_true, hZ _ _ hz, h.2⟩
end
theorem pigeon : ∀ (ks m : List Nat), ks.Nodup → (∀ k ∈ ks, k ∈ m) → ks.length ≤ m.length
  | [], _, _, _ => Nat.zero_le _
  | k :: ks, m, hn, h => by
    have hk : k ∈ m := h k (List.mem_cons_self ..)
    obtain ⟨hk1, hn1⟩ := List.nodup_cons.1 hn
    have := pigeon ks (m.erase k) hn1 (fun x hx => (List.mem_erase_of_ne (by intro e; subst e; exact hk1 hx)).2 (h x (List.mem_cons_of_mem _ hx)))
    rw [List.length_erase_of_mem hk] at this
    have hp : 0 < m.length := List.length_pos_of_mem hk
    simp only [List.length_cons]
    omega
inductive Tag where
  | q
  | n (B : List Nat)
  | b (B : List Nat)
def Tag.isB : Tag → Bool
  | .b _ => true
  | _ => false
/-- An operation that only lays a new block. -/
structure Born (X : Ctx) (ops : Array Oper) (C : World → Prop) (o : Oper) (a : Act) (V : Nat → Value) (O : Obj) : Prop where
  want : Region.wanted o (yielded ops a.tmps) = true
  run : ∀ w, C w → (execOp a.eval o).run X.P w = .ok (.value (V w.heap.size)) (w.alloc O)
def Borns (X : Ctx) (ops : Array Oper) (C : World → Prop) (B : List Nat) (a : Act) : Prop := ∀ k ∈ B, ∃ o V O, ops[k]? = some o ∧ Born X ops C o a V O
/-- The walk in an order of ours; 'S': the blocks in play. -/
def BW (X : Ctx) (ops : Array Oper) (p : Post) (C : World → Prop) : List (Nat × Tag) → (Nat → Prop) → Act → World → Prop
  | [], _, a, w => p.nrm a w
  | (i, .q) :: r, S, a, w => ∃ o v, ops[i]? = some o ∧ YieldsC X ops C o v a ∧ ∀ w', Bel w w' → BW X ops p C r S (a.put o.dst v) w'
  | (i, .n B) :: r, S, a, w => Borns X ops C B a ∧ wpOpIn (fen X.ro) 0 X.P ops p.toQ i (fun a' w' => C w' ∧ w.heap.size ≤ w'.heap.size ∧ ∃ S' : Nat → Prop, (∀ k, S' k → (S k ∨ w.heap.size ≤ k) ∧ k < w'.heap.size) ∧ (∀ k, k < w.heap.size → ¬ S k → w'.heap[k]? = w.heap[k]?) ∧ ∀ w'', Bel w' w'' → BW X ops p C r S' a' w'') a w
  | (i, .b B) :: r, S, a, w => Borns X ops C B a ∧ ∃ o V O, ops[i]? = some o ∧ Born X ops C o a V O ∧ ∀ b w', Bel w w' → X.w0.heap.size ≤ b → w'.heap[b]? = some O → ¬ S b → BW X ops p C r (fun k => S k ∨ k = b) (a.put o.dst (V b)) w'
def apartK (ops : Array Oper) (i k : Nat) : Bool := match ops[i]?, ops[k]? with | some x, some y => x.apart ops y | _, _ => false
def okStep (ops : Array Oper) (i : Nat) (B : List Nat) (r : List (Nat × Tag)) (listed : Array Bool) : Bool :=
  (Region.ready .any ops listed).contains i && (Region.ready .any ops listed).all (fun k => k == i || B.contains k) && !B.contains i &&
  (Region.ready .any ops (B.foldr (fun k l => l.setIfInBounds k true) listed)).all (fun k => k == i) &&
  B.all (fun k => (Region.ready .any ops listed).contains k && apartK ops i k && apartK ops k i && r.any (fun t => t.1 == k && t.2.isB) && B.all (fun k' => k' == k || apartK ops k k'))
def orderW (ops : Array Oper) : List (Nat × Tag) → Array Bool → Bool
  | [], listed => (Region.ready .any ops listed).isEmpty
  | (i, tg) :: r, listed => (match tg with
      | .q => (Region.ready .any ops listed).contains i && Region.free .any ops listed i
      | .n B => okStep ops i B r listed
      | .b B => okStep ops i B r listed) && !(r.any fun t => t.1 == i) && orderW ops r (listed.setIfInBounds i true)
/-- What came up early. -/
structure Er where
  k : Nat
  o : Oper
  v : Value
  b : Nat
  O : Obj
  w : World
def puts (es : List Er) (a : Act) : Act := es.foldr (fun e a => a.put e.o.dst e.v) a
def marks (es : List Er) (l : Array Bool) : Array Bool := es.foldr (fun e l => l.setIfInBounds e.k true) l
section
variable {X : Ctx} {ops : Array Oper} {p : Post} [NoPan p] {C : World → Prop}
structure ErOk (X : Ctx) (ops : Array Oper) (C : World → Prop) (S : Nat → Prop) (listed : Array Bool) (a : Act) (w : World) (e : Er) : Prop where
  op : ops[e.k]? = some e.o
  cw : C e.w
  run : (execOp a.eval e.o).run X.P e.w = .ok (.value e.v) (e.w.alloc e.O)
  num : e.b = e.w.heap.size
  here : w.heap[e.b]? = some e.O
  out : ¬ S e.b
  rdy : e.k ∈ Region.ready .any ops listed
theorem alloc_inj {w : World} {O O' : Obj} (h : w.alloc O = w.alloc O') : O = O' := by
  have h1 : w.heap.push O = w.heap.push O' := congrArg World.heap h
  have h2 := congrArg Array.back? h1
  simpa using h2
theorem put_puts {o : Oper} {v : Value} : ∀ (es : List Er) (a : Act), (∀ e ∈ es, o.apart ops e.o = true) → (puts es a).put o.dst v = puts es (a.put o.dst v)
  | [], _, _ => rfl
  | e :: es, a, h => by
    obtain ⟨_, h2, _⟩ := Oper.apart_spec (h e (List.mem_cons_self ..))
    show ((puts es a).put e.o.dst e.v).put o.dst v = (puts es (a.put o.dst v)).put e.o.dst e.v
    rw [← put_puts es a (fun f hf => h f (List.mem_cons_of_mem _ hf)), Act.put_comm _ v e.v h2]
theorem exec_puts {o : Oper} (hs : ∀ cs b, o.op ≠ .select cs b) : ∀ (es : List Er) (a : Act), (∀ e ∈ es, e.o.apart ops o = true) → execOp (puts es a).eval o = execOp a.eval o
  | [], _, _ => rfl
  | e :: es, a, h => by
    obtain ⟨h1, _, _⟩ := Oper.apart_spec (h e (List.mem_cons_self ..))
    show execOp ((puts es a).put e.o.dst e.v).eval o = _
    rw [execOp_put o hs _ e.o.dst e.v h1]
    exact exec_puts hs es a (fun f hf => h f (List.mem_cons_of_mem _ hf))
theorem want_puts {o : Oper} : ∀ (es : List Er) (a : Act), (∀ e ∈ es, e.o.apart ops o = true) → Region.wanted o (yielded ops (puts es a).tmps) = Region.wanted o (yielded ops a.tmps)
  | [], _, _ => rfl
  | e :: es, a, h => by
    obtain ⟨h1, _, _⟩ := Oper.apart_spec (h e (List.mem_cons_self ..))
    show Region.wanted o (yielded ops ((puts es a).put e.o.dst e.v).tmps) = _
    rw [wanted_put o _ e.o.dst e.v h1]
    exact want_puts es a (fun f hf => h f (List.mem_cons_of_mem _ hf))
theorem wpOpIn_lates {j : Nat} {oj : Oper} {K : Act → World → Prop} {w : World} (hj : ops[j]? = some oj) (hsd : noSD ops = true) :
    ∀ (es : List Er) (a : Act), (∀ e ∈ es, e.o.apart ops oj = true) → wpOpIn (fen X.ro) 0 X.P ops p.toQ j K a w → wpOpIn (fen X.ro) 0 X.P ops p.toQ j (fun a'' w' => ∃ a', a'' = puts es a' ∧ K a' w') (puts es a) w
  | [], a, _, h => wpOpIn_mono (fun a' w' k => ⟨a', rfl, k⟩) h
  | e :: es, a, he, h => by
    have h1 := wpOpIn_lates hj hsd es a (fun f hf => he f (List.mem_cons_of_mem _ hf)) h
    have h2 := wpOpIn_late (v := e.v) hj (he e (List.mem_cons_self ..)) (noSD_sel hsd hj).1 (noSD_sel hsd hj).2 h1
    refine wpOpIn_mono ?_ h2
    rintro a'' w' ⟨a1, rfl, a2, rfl, k⟩
    exact ⟨a2, rfl, k⟩
theorem marks_getD {es : List Er} {l : Array Bool} {k : Nat} (d : Bool) (h : ∀ e ∈ es, e.k ≠ k) : (marks es l).getD k d = l.getD k d := by
  induction es with
  | nil => rfl
  | cons e es ih =>
    show ((marks es l).setIfInBounds e.k true).getD k d = _
    rw [getD_set_ne d (h e (List.mem_cons_self ..)), ih (fun f hf => h f (List.mem_cons_of_mem _ hf))]
theorem marks_set {es : List Er} {l : Array Bool} {i : Nat} (h : ∀ e ∈ es, e.k ≠ i) : (marks es l).setIfInBounds i true = marks es (l.setIfInBounds i true) := by
  induction es with
  | nil => rfl
  | cons e es ih =>
    show ((marks es l).setIfInBounds e.k true).setIfInBounds i true = (marks es (l.setIfInBounds i true)).setIfInBounds e.k true
    rw [← ih (fun f hf => h f (List.mem_cons_of_mem _ hf)), Array.setIfInBounds_comm _ _ (h e (List.mem_cons_self ..))]
/-- What is ready with the early ones done, is the one that is on or another of B. -/
theorem ready_back {es : List Er} {l : Array Bool} {i : Nat} {B : List Nat} (hB : ∀ e ∈ es, e.k ∈ B) (h2 : ∀ k ∈ Region.ready .any ops (B.foldr (fun k l => l.setIfInBounds k true) l), k = i) {k : Nat}
    (hk : k ∈ Region.ready .any ops (marks es l)) : k = i ∨ k ∈ B := by
  by_cases hkB : k ∈ B
  · exact .inr hkB
  left
  refine h2 k ?_
  have getB : ∀ (B : List Nat) (j : Nat) (d : Bool), j ∉ B → (B.foldr (fun k l => l.setIfInBounds k true) l).getD j d = l.getD j d := fun B => by
    induction B with
    | nil => intro j d _; rfl
    | cons b B ih =>
      intro j d hj
      simp only [List.foldr_cons]
      rw [getD_set_ne d (show b ≠ j from by rintro rfl; exact hj (List.mem_cons_self ..)), ih j d (fun h => hj (List.mem_cons_of_mem _ h))]
  have up : ∀ (B : List Nat) (j : Nat), l.getD j false = true → (B.foldr (fun k l => l.setIfInBounds k true) l).getD j false = true := fun B => by
    induction B with
    | nil => intro j h; exact h
    | cons b B ih => intro j h; exact getD_set_true (ih j h)
  have inB : ∀ (B : List Nat) (j : Nat), j ∈ B → j < l.size → (B.foldr (fun k l => l.setIfInBounds k true) l).getD j false = true := fun B => by
    induction B with
    | nil => intro j h; cases h
    | cons b B ih =>
      intro j h hl
      have hs : ∀ B : List Nat, (B.foldr (fun k l => l.setIfInBounds k true) l).size = l.size := fun B => by
        induction B with
        | nil => rfl
        | cons b B ih => simp only [List.foldr_cons, Array.size_setIfInBounds]; exact ih
      rcases List.mem_cons.1 h with rfl | h
      · simp [hs, hl]
      · exact getD_set_true (ih j h hl)
  rw [mem_ready] at hk ⊢
  obtain ⟨h0, o, ho, hall⟩ := hk
  have hne : ∀ e ∈ es, e.k ≠ k := fun e he e2 => hkB (e2 ▸ hB e he)
  rw [marks_getD true hne] at h0
  refine ⟨by rw [getB B k true hkB]; exact h0, o, ho, fun e he hb => ?_⟩
  have h3 := hall e he hb
  by_cases hj : e.on ∈ B
  · refine inB B _ hj ?_
    have hs : (marks es l).size = l.size := by
      clear hne h3 hall h0 hB
      induction es with
      | nil => rfl
      | cons f es ih => show ((marks es l).setIfInBounds f.k true).size = _; rw [Array.size_setIfInBounds]; exact ih
    rcases Nat.lt_or_ge e.on l.size with h | h
    · exact h
    · simp [Array.getElem?_eq_none (show (marks es l).size ≤ e.on by omega)] at h3
  · rw [marks_getD false (k := e.on) (fun f hf e2 => hj (by rw [← e2]; exact hB f hf))] at h3
    exact up B _ h3
theorem ready_marks {es : List Er} {l : Array Bool} {k : Nat} (hk : k ∈ Region.ready .any ops l) (h : ∀ e ∈ es, e.k ≠ k) : k ∈ Region.ready .any ops (marks es l) := by
  induction es with
  | nil => exact hk
  | cons e es ih => exact ready_mono (ih (fun f hf => h f (List.mem_cons_of_mem _ hf))) (Ne.symm (h e (List.mem_cons_self ..)))
structure Inv (X : Ctx) (ops : Array Oper) (C : World → Prop) (l : List (Nat × Tag)) (S : Nat → Prop) (listed : Array Bool) (es : List Er) (a : Act) (w : World) : Prop where
  ok : ∀ e ∈ es, ErOk X ops C S listed a w e
  nd : (es.map Er.k).Nodup
  ap : ∀ e ∈ es, ∀ f ∈ es, e.k ≠ f.k → e.o.apart ops f.o = true
  tg : ∀ e ∈ es, ∃ B, (e.k, Tag.b B) ∈ l
  bs : ∀ e ∈ es, ∀ f ∈ es, e.k ≠ f.k → e.b ≠ f.b
  cw : C w
  lt : ∀ k, S k → k < w.heap.size
theorem born_born {o : Oper} {a : Act} {V : Nat → Value} {O : Obj} {e : Er} (h : Born X ops C o a V O) (cw : C e.w) (hr : (execOp a.eval o).run X.P e.w = .ok (.value e.v) (e.w.alloc e.O)) (hb : e.b = e.w.heap.size) : e.v = V e.b ∧ e.O = O := by
  have := h.run e.w cw
  rw [hr] at this
  simp only [Result.ok.injEq, Next.value.injEq] at this
  rw [hb]
  exact ⟨this.1, alloc_inj this.2⟩
theorem apart_symm {x y : Oper} (h : x.apart ops y = true) : y.apart ops x = true := by
  obtain ⟨h1, h2, h3⟩ := Oper.apart_spec h
  unfold Oper.apart
  cases hx : x.dst with
  | none =>
    cases hy : y.dst with
    | none => rfl
    | some d => have := h3 d hy; simp [this]
  | some d =>
    have a1 := h1 d hx
    cases hy : y.dst with
    | none => simp [a1]
    | some d' =>
      have a3 := h3 d' hy
      have a2 := h2 d hx
      rw [hy] at a2
      have a2' : d ≠ d' := fun e => a2 (by rw [e])
      simp [a1, a3, a2']
theorem apartK_spec {i k : Nat} {x y : Oper} (h : apartK ops i k = true) (hx : ops[i]? = some x) (hy : ops[k]? = some y) : x.apart ops y = true := by
  simpa [apartK, hx, hy] using h
theorem marks_false {es : List Er} {l : Array Bool} {k : Nat} (h : (marks es l).getD k true = false) : l.getD k true = false := by
  induction es with
  | nil => exact h
  | cons e es ih =>
    apply ih
    by_cases e2 : e.k = k
    · subst e2
      have : ((marks es l).setIfInBounds e.k true).getD e.k true = false := h
      rcases Nat.lt_or_ge e.k (marks es l).size with hl | hl
      · simp [hl] at this
      · simp [Array.getElem?_eq_none (show ((marks es l).setIfInBounds e.k true).size ≤ e.k by simpa using hl)] at this
    · have : ((marks es l).setIfInBounds e.k true).getD k true = false := h
      rwa [getD_set_ne true e2] at this
theorem marks_mem {es : List Er} {l : Array Bool} {e : Er} (he : e ∈ es) : (marks es l).getD e.k true = true := by
  induction es with
  | nil => cases he
  | cons f es ih =>
    show ((marks es l).setIfInBounds f.k true).getD e.k true = true
    by_cases e2 : f.k = e.k
    · rw [e2]
      rcases Nat.lt_or_ge e.k (marks es l).size with hl | hl
      · simp [hl]
      · simp [Array.getElem?_eq_none (show ((marks es l).setIfInBounds e.k true).size ≤ e.k by simpa using hl)]
    · rw [getD_set_ne true e2]
      rcases List.mem_cons.1 he with rfl | h
      · exact absurd rfl e2
      · exact ih h
structure Step (ops : Array Oper) (i : Nat) (B : List Nat) (r : List (Nat × Tag)) (listed : Array Bool) : Prop where
  rdy : i ∈ Region.ready .any ops listed
  all : ∀ k ∈ Region.ready .any ops listed, k = i ∨ k ∈ B
  out : i ∉ B
  nxt : ∀ k ∈ Region.ready .any ops (B.foldr (fun k l => l.setIfInBounds k true) listed), k = i
  brd : ∀ k ∈ B, k ∈ Region.ready .any ops listed
  ap : ∀ k ∈ B, apartK ops i k = true
  tg : ∀ k ∈ B, ∃ B', (k, Tag.b B') ∈ r
  apb : ∀ k ∈ B, ∀ k' ∈ B, k' = k ∨ apartK ops k k' = true
theorem okStep_spec {i : Nat} {B : List Nat} {r : List (Nat × Tag)} {listed : Array Bool} (h : okStep ops i B r listed = true) : Step ops i B r listed := by
  simp only [okStep, Bool.and_eq_true, List.contains_iff_mem, List.all_eq_true, Bool.or_eq_true, beq_iff_eq, Bool.not_eq_true'] at h
  obtain ⟨⟨⟨⟨h1, h2⟩, h3⟩, h4⟩, h5⟩ := h
  refine ⟨h1, h2, fun hm => ?_, h4, fun k hk => (h5 k hk).1.1.1.1, fun k hk => (h5 k hk).1.1.1.2, fun k hk => ?_, fun k hk => (h5 k hk).2⟩
  · have : B.contains i = true := by simpa using hm
    rw [this] at h3; cases h3
  · have := (h5 k hk).1.2
    simp only [List.any_eq_true, Bool.and_eq_true, beq_iff_eq] at this
    obtain ⟨⟨k', tg⟩, hm, rfl, ht⟩ := this
    cases tg with
    | b B' => exact ⟨B', hm⟩
    | q => cases ht
    | n _ => cases ht
theorem AnyC.early {l : List (Nat × Tag)} {S : Nat → Prop} {listed : Array Bool} {es : List Er} {a : Act} {w : World} {m k i : Nat} {B : List Nat} {r : List (Nat × Tag)} (hCb : ∀ w w', C w → Bel w w' → C w') (hsd : noSD ops = true)
    (hI : Inv X ops C l S listed es a w) (hs : Step ops i B r listed) (hsub : ∀ x ∈ r, x ∈ l) (hB : Borns X ops C B a) (hkB : k ∈ B) (hk : k ∈ Region.ready .any ops (marks es listed)) (hes : ∀ e ∈ es, e.k = i ∨ e.k ∈ B)
    (go : ∀ e w'', Bel w w'' → Inv X ops C l S listed (e :: es) a w'' → AnyC X ops p C m (marks (e :: es) listed) (puts (e :: es) a) w'') :
    wpOpIn (fen X.ro) 0 X.P ops p.toQ k (fun a' w' => C w' ∧ ∀ w'', Bel w' w'' → AnyC X ops p C m ((marks es listed).setIfInBounds k true) a' w'') (puts es a) w := by
  obtain ⟨o, V, O, ho, hb⟩ := hB k hkB
  have hnk : ∀ e ∈ es, e.k ≠ k := fun e he e2 => by
    have h1 := (mem_ready.1 hk).1
    rw [← e2, marks_mem he] at h1; cases h1
  have hap : ∀ e ∈ es, e.o.apart ops o = true ∧ o.apart ops e.o = true := fun e he => by
    have hop := (hI.ok e he).op
    rcases hes e he with h | h
    · have := apartK_spec (hs.ap k hkB) (h ▸ hop) ho
      exact ⟨this, apart_symm this⟩
    · rcases hs.apb k hkB e.k h with h2 | h2
      · exact absurd h2 (hnk e he)
      · have := apartK_spec h2 ho hop
        exact ⟨apart_symm this, this⟩
  have hrun : (execOp (puts es a).eval o).run X.P w = .ok (.value (V w.heap.size)) (w.alloc O) := by
    rw [exec_puts (noSD_sel hsd ho).1 es a (fun e he => (hap e he).1)]
    exact hb.run w hI.cw
  have hbel : Bel w (w.alloc O) := Bel.alloc' w O
  have hnew : (w.alloc O).heap[w.heap.size]? = some O := by show (w.heap.push O)[w.heap.size]? = some O; simp
  have hsz : (w.alloc O).heap.size = w.heap.size + 1 := by show (w.heap.push O).size = _; simp
  unfold wpOpIn
  simp only [ho, want_puts es a (fun e he => (hap e he).1), hb.want, if_true]
  refine ⟨about_true, ?_⟩
  rw [semAt_of (noSD_sel hsd ho).2, hrun]
  refine ⟨hCb _ _ hI.cw hbel, fun w'' hb'' => ?_⟩
  refine go ⟨k, o, V w.heap.size, w.heap.size, O, w⟩ w'' (hbel.trans' hb'') ?_
  have hlt : ∀ e ∈ es, e.b < w.heap.size := fun e he => by
    have := (hI.ok e he).here
    exact (Array.getElem?_eq_some_iff.1 this).1
  refine ⟨fun e he => ?_, ?_, fun e he f hf => ?_, fun e he => ?_, fun e he f hf => ?_, hCb _ _ hI.cw (hbel.trans' hb''), fun x hx => Nat.lt_of_lt_of_le (hI.lt x hx) (hbel.trans' hb'').size⟩
  · rcases List.mem_cons.1 he with rfl | he
    · refine ⟨ho, hI.cw, hb.run w hI.cw, rfl, ?_, fun h => Nat.lt_irrefl _ (hI.lt _ h), hs.brd k hkB⟩
      show w''.heap[w.heap.size]? = some O
      rw [hb''.block _ (by rw [hsz]; omega)]
      exact hnew
    · have h := hI.ok e he
      exact ⟨h.op, h.cw, h.run, h.num, by rw [(hbel.trans' hb'').block _ (hlt e he)]; exact h.here, h.out, h.rdy⟩
  · rw [List.map_cons, List.nodup_cons]
    refine ⟨fun hm => ?_, hI.nd⟩
    obtain ⟨e, he, h⟩ := List.mem_map.1 hm
    exact hnk e he h
  · intro hne
    rcases List.mem_cons.1 he with rfl | he <;> rcases List.mem_cons.1 hf with rfl | hf
    · exact absurd rfl hne
    · exact (hap f hf).2
    · exact (hap e he).1
    · exact hI.ap e he f hf hne
  · rcases List.mem_cons.1 he with rfl | he
    · obtain ⟨B', h⟩ := hs.tg k hkB
      exact ⟨B', hsub _ h⟩
    · exact hI.tg e he
  · intro hne
    rcases List.mem_cons.1 he with rfl | he <;> rcases List.mem_cons.1 hf with rfl | hf
    · exact absurd rfl hne
    · exact (Nat.ne_of_lt (hlt f hf)).symm
    · exact Nat.ne_of_lt (hlt e he)
    · exact hI.bs e he f hf hne
theorem Inv.len {r : List (Nat × Tag)} {i : Nat} {tg : Tag} {S : Nat → Prop} {listed : Array Bool} {es : List Er} {a : Act} {w : World} (h : Inv X ops C ((i, tg) :: r) S listed es a w) (hne : ∀ e ∈ es, e.k ≠ i) : es.length ≤ r.length := by
  have := pigeon (es.map Er.k) (r.map (·.1)) h.nd (fun k hk => by
    obtain ⟨e, he, rfl⟩ := List.mem_map.1 hk
    obtain ⟨B, hb⟩ := h.tg e he
    rcases List.mem_cons.1 hb with e1 | hb
    · exact absurd (congrArg Prod.fst e1) (hne e he)
    · exact List.mem_map.2 ⟨_, hb, rfl⟩)
  simpa using this
theorem Inv.up {r : List (Nat × Tag)} {i : Nat} {tg : Tag} {S S' : Nat → Prop} {listed : Array Bool} {es : List Er} {a a' : Act} {w w' : World} (h : Inv X ops C ((i, tg) :: r) S listed es a w) (hne : ∀ e ∈ es, e.k ≠ i)
    (cw : C w') (hrun : ∀ e ∈ es, (execOp a'.eval e.o).run X.P e.w = (execOp a.eval e.o).run X.P e.w) (hh : ∀ e ∈ es, w'.heap[e.b]? = w.heap[e.b]?) (hout : ∀ e ∈ es, ¬ S' e.b) (hlt : ∀ k, S' k → k < w'.heap.size) :
    Inv X ops C r S' (listed.setIfInBounds i true) es a' w' := by
  refine ⟨fun e he => ?_, h.nd, h.ap, fun e he => ?_, h.bs, cw, hlt⟩
  · have k := h.ok e he
    exact ⟨k.op, k.cw, by rw [hrun e he]; exact k.run, k.num, by rw [hh e he]; exact k.here, hout e he, ready_mono k.rdy (hne e he)⟩
  · obtain ⟨B, hb⟩ := h.tg e he
    rcases List.mem_cons.1 hb with e1 | hb
    · exact absurd (congrArg Prod.fst e1) (hne e he)
    · exact ⟨B, hb⟩
theorem Inv.early_lt {l : List (Nat × Tag)} {S : Nat → Prop} {listed : Array Bool} {es : List Er} {a : Act} {w : World} (h : Inv X ops C l S listed es a w) : ∀ e ∈ es, e.b < w.heap.size := fun e he =>
  (Array.getElem?_eq_some_iff.1 (h.ok e he).here).1
theorem BW.turn {i : Nat} {B : List Nat} {r : List (Nat × Tag)} {listed : Array Bool} {S : Nat → Prop} {a : Act} (hC0 : ∀ w, C w → X.w0.heap.size ≤ w.heap.size) (hsd : noSD ops = true)
    (IH : ∀ (n : Nat) (es : List Er) (a : Act) (w : World) (S : Nat → Prop), r.length ≤ n + es.length → Inv X ops C r S (listed.setIfInBounds i true) es a w → (∀ w', Bel w w' → BW X ops p C r S a w') → AnyC X ops p C n (marks es (listed.setIfInBounds i true)) (puts es a) w)
    (n : Nat) (es : List Er) (w : World) (hn : ((i, Tag.b B) :: r).length ≤ n + es.length) (hI : Inv X ops C ((i, Tag.b B) :: r) S listed es a w) (hB : ∀ w', Bel w w' → BW X ops p C ((i, Tag.b B) :: r) S a w')
    (hex : ∃ e ∈ es, e.k = i) : AnyC X ops p C n (marks es listed) (puts es a) w := by
  obtain ⟨e, he, hei⟩ := hex
  obtain ⟨s, t, rfl⟩ := List.append_of_mem he
  have hnd := hI.nd
  simp only [List.map_append, List.map_cons] at hnd
  have hdis : ∀ f ∈ s ++ t, f.k ≠ e.k := fun f hf hk => by
    have h1 := List.nodup_append.1 hnd
    rcases List.mem_append.1 hf with hf | hf
    · exact h1.2.2 _ (List.mem_map.2 ⟨f, hf, rfl⟩) _ (List.mem_cons_self ..) hk
    · exact (List.nodup_cons.1 h1.2.1).1 (List.mem_map.2 ⟨f, hf, hk⟩)
  have hsub : ∀ f ∈ s ++ t, f ∈ s ++ e :: t := fun f hf => by
    rcases List.mem_append.1 hf with h | h
    · exact List.mem_append_left _ h
    · exact List.mem_append_right _ (List.mem_cons_of_mem _ h)
  have hap : ∀ f ∈ s ++ t, e.o.apart ops f.o = true := fun f hf => hI.ap e he f (hsub f hf) (Ne.symm (hdis f hf))
  have hne : ∀ f ∈ s ++ t, f.k ≠ i := fun f hf => by rw [← hei]; exact hdis f hf
  have hp : puts (s ++ e :: t) a = puts (s ++ t) (a.put e.o.dst e.v) := by
    unfold puts
    rw [List.foldr_append, List.foldr_append, List.foldr_cons]
    congr 1
    exact put_puts t a (fun f hf => hap f (List.mem_append_right _ hf))
  have hm : marks (s ++ e :: t) listed = marks (s ++ t) (listed.setIfInBounds i true) := by
    unfold marks
    rw [List.foldr_append, List.foldr_append, List.foldr_cons, hei]
    congr 1
    exact marks_set (fun f hf => hne f (List.mem_append_right _ hf))
  rw [hp, hm]
  have hke := hI.ok e he
  refine IH n (s ++ t) (a.put e.o.dst e.v) w (fun k => S k ∨ k = e.b) (by simp only [List.length_append, List.length_cons] at hn ⊢; omega) ?_ fun w' hb => ?_
  · refine ⟨fun f hf => ?_, ?_, fun f hf g hg => hI.ap f (hsub f hf) g (hsub g hg), fun f hf => ?_, fun f hf g hg => hI.bs f (hsub f hf) g (hsub g hg), hI.cw, fun k hk => ?_⟩
    · have h := hI.ok f (hsub f hf)
      refine ⟨h.op, h.cw, ?_, h.num, h.here, fun hS => ?_, ready_mono h.rdy (hne f hf)⟩
      · rw [execOp_put f.o (noSD_sel hsd h.op).1 a e.o.dst e.v (Oper.apart_spec (hap f hf)).1]; exact h.run
      · rcases hS with h1 | h1
        · exact h.out h1
        · exact hI.bs f (hsub f hf) e he (hdis f hf) h1
    · rw [List.map_append]
      have h1 := List.nodup_append.1 hnd
      refine List.nodup_append.2 ⟨h1.1, (List.nodup_cons.1 h1.2.1).2, fun x hx y hy => h1.2.2 x hx y (List.mem_cons_of_mem _ hy)⟩
    · obtain ⟨B', hb⟩ := hI.tg f (hsub f hf)
      rcases List.mem_cons.1 hb with e1 | hb
      · exact absurd (congrArg Prod.fst e1) (hne f hf)
      · exact ⟨B', hb⟩
    · rcases hk with hk | rfl
      · exact hI.lt k hk
      · exact hI.early_lt e he
  · obtain ⟨_, o, V, O, ho, hbn, hgo⟩ := hB w' hb
    have heo : e.o = o := by
      have := hke.op
      rw [hei, ho] at this
      exact (Option.some.inj this).symm
    subst heo
    obtain ⟨h1, h2⟩ := born_born hbn hke.cw hke.run hke.num
    have := hgo e.b w' (Bel.refl _) (by rw [hke.num]; exact hC0 _ hke.cw) (by rw [hb.block _ (hI.early_lt e he), ← h2]; exact hke.here) hke.out
    rw [h1]; exact this
theorem BW.any (hC0 : ∀ w, C w → X.w0.heap.size ≤ w.heap.size) (hCb : ∀ w w', C w → Bel w w' → C w') (hsd : noSD ops = true) : ∀ (l : List (Nat × Tag)) (listed : Array Bool), orderW ops l listed = true → ∀ (n : Nat) (es : List Er) (a : Act) (w : World) (S : Nat → Prop),
    l.length ≤ n + es.length → Inv X ops C l S listed es a w → (∀ w', Bel w w' → BW X ops p C l S a w') → AnyC X ops p C n (marks es listed) (puts es a) w
  | [], listed, hO, n, es, a, w, S, hn, hI, hB => by
    have : es = [] := by
      cases es with
      | nil => rfl
      | cons e es => obtain ⟨_, h⟩ := hI.tg e (List.mem_cons_self ..); cases h
    subst this
    have hr : Region.ready .any ops listed = [] := by simpa [orderW] using hO
    have hp : p.nrm a w := hB w (Bel.refl _)
    cases n with
    | zero => exact ⟨hr, hp⟩
    | succ n => exact ⟨fun _ => hp, fun i hi => by rw [show marks [] listed = listed from rfl, hr] at hi; cases hi⟩
  | (i, tg) :: r, listed, hO, n, es, a, w, S, hn, hI, hB => by
    simp only [orderW, Bool.and_eq_true, Bool.not_eq_true'] at hO
    obtain ⟨⟨hT, hir⟩, hR⟩ := hO
    have hir' : ∀ tg', (i, tg') ∉ r := fun tg' h => by
      have : (r.any fun t => t.1 == i) = true := List.any_eq_true.2 ⟨_, h, by simp⟩
      rw [this] at hir; cases hir
    have IH := BW.any hC0 hCb hsd r (listed.setIfInBounds i true) hR
    have hnb : ∀ e ∈ es, e.k = i → ∃ B, tg = .b B := fun e he hk => by
      obtain ⟨B, hb⟩ := hI.tg e he
      rcases List.mem_cons.1 hb with e1 | hb
      · exact ⟨B, (congrArg Prod.snd e1).symm⟩
      · rw [hk] at hb; exact absurd hb (hir' _)
    cases tg with
    | q =>
      have hne : ∀ e ∈ es, e.k ≠ i := fun e he hk => by obtain ⟨B, h⟩ := hnb e he hk; cases h
      have hl := hI.len hne
      simp only [Bool.and_eq_true, List.contains_iff_mem] at hT
      obtain ⟨hrd, hfr⟩ := hT
      obtain ⟨o, v, ho, hy, hk⟩ := hB w (Bel.refl _)
      cases n with
      | zero => simp only [List.length_cons] at hn; omega
      | succ m =>
        have hiun := (mem_ready.1 hrd).1
        have hap : ∀ e ∈ es, o.apart ops e.o = true := fun e he => by
          have h := hI.ok e he
          obtain ⟨hun, oe, hoe, hall⟩ := mem_ready.1 h.rdy
          rw [h.op] at hoe; cases hoe
          refine Region.free_spec ho hfr e.k e.o h.op (hne e he) hun (fun ed hed hb he2 => ?_)
          have h1 := hall ed hed hb
          rw [he2] at h1
          rcases Nat.lt_or_ge i listed.size with h' | h'
          · simp [h'] at hiun h1; rw [hiun] at h1; cases h1
          · simp [Array.getElem?_eq_none h'] at h1
        refine AnyC.take (v := v) hCb ho hsd m (marks es listed) (puts es a) w (fun j oj hj hji hun hno => Region.free_spec ho hfr j oj hj hji (marks_false hun) hno) (ready_marks hrd hne) ?_ hI.cw fun w' hb => ?_
        · unfold YieldsC QRun at hy ⊢
          rw [want_puts es a (fun e he => apart_symm (hap e he)), exec_puts (noSD_sel hsd ho).1 es a (fun e he => apart_symm (hap e he))]
          exact hy
        · rw [marks_set hne, put_puts es a hap]
          refine IH m es (a.put o.dst v) w' S (by simp only [List.length_cons] at hn; omega) (hI.up hne (hCb _ _ hI.cw hb) (fun e he => ?_) (fun e he => hb.block _ (hI.early_lt e he)) (fun e he => (hI.ok e he).out) (fun k h => Nat.lt_of_lt_of_le (hI.lt k h) hb.size)) (fun w'' hb' => hk w'' (hb.trans' hb'))
          rw [execOp_put e.o (noSD_sel hsd (hI.ok e he).op).1 a o.dst v (Oper.apart_spec (hap e he)).1]
    | n B =>
      have hs := okStep_spec hT
      have hne : ∀ e ∈ es, e.k ≠ i := fun e he hk => by obtain ⟨B, h⟩ := hnb e he hk; cases h
      have heB : ∀ e ∈ es, e.k ∈ B := fun e he => (hs.all _ (hI.ok e he).rdy).resolve_left (hne e he)
      clear hnb
      induction n generalizing es w with
      | zero => have hl := hI.len hne; simp only [List.length_cons] at hn; omega
      | succ m ihm =>
        refine ⟨fun h => (by have := ready_marks hs.rdy hne; rw [h] at this; cases this), fun k hk => ?_⟩
        obtain ⟨hBs, hwp⟩ := hB w (Bel.refl _)
        rcases ready_back heB hs.nxt hk with rfl | hkB
        · obtain ⟨_, oi, hoi, _⟩ := mem_ready.1 hs.rdy
          have hap : ∀ e ∈ es, e.o.apart ops oi = true := fun e he => apart_symm (apartK_spec (hs.ap _ (heB e he)) hoi (hI.ok e he).op)
          have h1 := wpOpIn_keep (Z := fun a' => ∀ e ∈ es, (execOp a'.eval e.o).run X.P e.w = (execOp a.eval e.o).run X.P e.w) hoi (noSD_sel hsd hoi).2
            (fun a' u hz e he => by rw [execOp_put e.o (noSD_sel hsd (hI.ok e he).op).1 a' oi.dst u (Oper.apart_spec (apart_symm (hap e he))).1]; exact hz e he) (fun a' d hz e he => hz e he) (fun e he => rfl) hwp
          refine wpOpIn_mono ?_ (wpOpIn_lates hoi hsd es a hap h1)
          rintro a'' w' ⟨a', rfl, hz, hc, hsz, S', hS, hkp, hgo⟩
          refine ⟨hc, fun w'' hb => ?_⟩
          rw [marks_set hne]
          refine IH m es a' w'' S' (by simp only [List.length_cons] at hn; omega) (hI.up hne (hCb _ _ hc hb) hz (fun e he => ?_) (fun e he h => ?_) (fun k h => Nat.lt_of_lt_of_le (hS k h).2 hb.size)) (fun w3 hb' => hgo w3 (hb.trans' hb'))
          · have hl := hI.early_lt e he
            rw [hb.block _ (Nat.lt_of_lt_of_le hl hsz)]
            exact hkp _ hl (hI.ok e he).out
          · rcases (hS _ h).1 with h | h
            · exact (hI.ok e he).out h
            · exact Nat.lt_irrefl _ (Nat.lt_of_lt_of_le (hI.early_lt e he) h)
        · refine AnyC.early hCb hsd hI hs (fun x hx => List.mem_cons_of_mem _ hx) hBs hkB hk (fun e he => .inr (heB e he)) fun e w'' hb hI' => ?_
          have hne' : ∀ f ∈ e :: es, f.k ≠ i := fun f hf hk => by
            obtain ⟨B', hb⟩ := hI'.tg f hf
            rcases List.mem_cons.1 hb with e1 | hb
            · exact absurd (congrArg Prod.snd e1) (by intro h; cases h)
            · rw [hk] at hb; exact hir' _ hb
          exact ihm (e :: es) w'' (by simp only [List.length_cons] at hn ⊢; omega) hI' (fun w3 hb' => hB w3 (hb.trans' hb')) hne' (fun f hf => (hs.all _ (hI'.ok f hf).rdy).resolve_left (hne' f hf))
    | b B =>
      have hs := okStep_spec hT
      have heB : ∀ e ∈ es, e.k = i ∨ e.k ∈ B := fun e he => hs.all _ (hI.ok e he).rdy
      clear hnb
      induction n generalizing es w with
      | zero =>
        by_cases hex : ∃ e ∈ es, e.k = i
        · exact BW.turn hC0 hsd IH 0 es w hn hI hB hex
        · have hne : ∀ e ∈ es, e.k ≠ i := fun e he hk => hex ⟨e, he, hk⟩
          have hl := hI.len hne; simp only [List.length_cons] at hn; omega
      | succ m ihm =>
        by_cases hex : ∃ e ∈ es, e.k = i
        · exact BW.turn hC0 hsd IH (m + 1) es w hn hI hB hex
        have hne : ∀ e ∈ es, e.k ≠ i := fun e he hk => hex ⟨e, he, hk⟩
        have heB' : ∀ e ∈ es, e.k ∈ B := fun e he => (heB e he).resolve_left (hne e he)
        refine ⟨fun h => (by have := ready_marks hs.rdy hne; rw [h] at this; cases this), fun k hk => ?_⟩
        obtain ⟨hBs, o, V, O, ho, hb, hgo⟩ := hB w (Bel.refl _)
        rcases ready_back heB' hs.nxt hk with rfl | hkB
        · have hap : ∀ e ∈ es, o.apart ops e.o = true := fun e he => apartK_spec (hs.ap _ (heB' e he)) ho (hI.ok e he).op
          have hbel : Bel w (w.alloc O) := Bel.alloc' w O
          have hnew : (w.alloc O).heap[w.heap.size]? = some O := by show (w.heap.push O)[w.heap.size]? = some O; simp
          have hsz : (w.alloc O).heap.size = w.heap.size + 1 := by show (w.heap.push O).size = _; simp
          unfold wpOpIn
          simp only [ho, want_puts es a (fun e he => apart_symm (hap e he)), hb.want, if_true]
          refine ⟨about_true, ?_⟩
          rw [semAt_of (noSD_sel hsd ho).2, exec_puts (noSD_sel hsd ho).1 es a (fun e he => apart_symm (hap e he)), hb.run w hI.cw]
          refine ⟨hCb _ _ hI.cw hbel, fun w'' hb'' => ?_⟩
          show AnyC X ops p C m _ ((puts es a).put o.dst (V w.heap.size)) w''
          rw [marks_set hne, put_puts es a hap]
          have hbb := hbel.trans' hb''
          refine IH m es (a.put o.dst (V w.heap.size)) w'' (fun k => S k ∨ k = w.heap.size) (by simp only [List.length_cons] at hn; omega)
            (hI.up hne (hCb _ _ hI.cw hbb) (fun e he => by rw [execOp_put e.o (noSD_sel hsd (hI.ok e he).op).1 a o.dst _ (Oper.apart_spec (hap e he)).1]) (fun e he => hbb.block _ (hI.early_lt e he)) (fun e he h => ?_) (fun k h => ?_))
            (fun w3 hb3 => hgo w.heap.size w3 (hbb.trans' hb3) (hC0 _ hI.cw) ?_ (fun h => Nat.lt_irrefl _ (hI.lt _ h)))
          · rcases h with h | h
            · exact (hI.ok e he).out h
            · exact Nat.lt_irrefl _ (h ▸ hI.early_lt e he)
          · rcases h with h | rfl
            · exact Nat.lt_of_lt_of_le (hI.lt k h) hbb.size
            · exact Nat.lt_of_lt_of_le (by rw [hsz]; omega) hb''.size
          · rw [(hb''.trans' hb3).block _ (by rw [hsz]; omega)]
            exact hnew
        · refine AnyC.early hCb hsd hI hs (fun x hx => List.mem_cons_of_mem _ hx) hBs hkB hk heB fun e w'' hb hI' => ?_
          exact ihm (e :: es) w'' (by simp only [List.length_cons] at hn ⊢; omega) hI' (fun w3 hb' => hB w3 (hb.trans' hb')) (fun f hf => hs.all _ (hI'.ok f hf).rdy)
end
/-! ### The walk over states -/
/-- The same walk, told from H and w on. -/
abbrev Ctx.at (X : Ctx) (H : Heap) (w : World) : Ctx := { X with H0 := H, w0 := w }
/-- An operation that only lays a block, in every memory that keeps what is named. -/
def Births (X : Ctx) (o : Oper) (E : Env) (H : Heap) (V : Nat → Value) (O : Obj) : Prop :=
  ∀ a w, AE X E a → HW X.H0 X.w0 H w → (execOp a.eval o).run X.P w = .ok (.value (V w.heap.size)) (w.alloc O)
def BornsE (X : Ctx) (ops : Array Oper) (Hq : Heap) (B : List Nat) (E : Env) : Prop :=
  ∀ k ∈ B, ∃ o V O, ops[k]? = some o ∧ wantedE ops E o = some true ∧ Births X o E Hq V O
/-- 'Hq': what no operation of the region turns. -/
def WB (X : Ctx) (ops : Array Oper) (p : Post) (Hq : Heap) (l : List (Nat × Tag)) (E : Env) (H : Heap) : Prop :=
  ∀ a w S, (∀ k, S k ↔ k ∈ keys H) → AE X E a → HW X.H0 X.w0 H w → BW X ops p (fun w => HW X.H0 X.w0 Hq w) l S a w
section
variable {X : Ctx} {ops : Array Oper} {p : Post} {Hq : Heap} {E : Env} {H F : Heap} {r : List (Nat × Tag)} {i : Nat} {o : Oper} {B : List Nat}
theorem BornsE.nil : BornsE X ops Hq [] E := fun _ h => by cases h
theorem BornsE.cons {k : Nat} {V : Nat → Value} {O : Obj} (ho : ops[k]? = some o) (hg : wantedE ops E o = some true) (h : Births X o E Hq V O) (t : BornsE X ops Hq B E) : BornsE X ops Hq (k :: B) E := fun j hj => by
  rcases List.mem_cons.1 hj with rfl | hj
  · exact ⟨o, V, O, ho, hg, h⟩
  · exact t j hj
theorem BornsE.borns {a : Act} (h : BornsE X ops Hq B E) (ha : AE X E a) : Borns X ops (fun w => HW X.H0 X.w0 Hq w) B a := fun k hk => by
  obtain ⟨o, V, O, ho, hg, hb⟩ := h k hk
  exact ⟨o, V, O, ho, wantedE_spec ha hg, fun w hw => hb a w ha hw⟩
theorem WC_drawB [NoPan p] {id : Nat} {l : List Oper} (Hq : Heap) (ord : List (Nat × Tag)) (hm : X.P.follows .mixedOrders = true) (hsd : noSD l.toArray = true) (hlen : ord.length = l.length)
    (hB : orderW l.toArray ord (Array.replicate l.length false) = true) (hq : Pulls Hq H F) (h : WB X l.toArray p Hq ord E H) : WC X (.region id l.toArray true) p E H := by
  intro a w ha hw
  refine wpIn_region_any hm ?_
  have hb : Bel w { w with drawn := w.drawn + 1 } := Bel.drew' w
  have hw1 := hw.bel hb
  have h1 := BW.any (X := X) (p := p) (C := fun w => HW X.H0 X.w0 Hq w) (fun _ h => h.size) (fun _ _ h b => h.bel b) hsd ord _ hB ord.length [] a _ (fun k => k ∈ keys H) (by simp)
    ⟨fun e h => (by cases h), List.nodup_nil, fun e h => (by cases h), fun e h => (by cases h), fun e h => (by cases h), (hw1.perm hq.perm).left, fun k hk => hw1.hok.lt hk⟩
    (fun w' hb' => h a _ _ (fun _ => Iff.rfl) ha (hw1.bel hb'))
  rw [hlen] at h1
  have := AnyC.sound _ _ _ _ h1
  simpa [marks, puts] using this
theorem WB_nil (h : WQ X p.nrm E H) : WB X ops p Hq [] E H := fun a w _ _ ha hw => h a w ha hw
theorem WB_val {d : Nat} {v : Value} (ho : ops[i]? = some o) (hg : wantedE ops E o = some true) (hd : o.dst = some d) (hN : Nat.blt d X.N = true) (h : Runs X o E Hq v)
    (k : WB X ops p Hq r ((d, v) :: E) H) : WB X ops p Hq ((i, .q) :: r) E H := fun a w S hS ha hw =>
  ⟨o, v, ho, .inl ⟨wantedE_spec ha hg, fun w' hw' => .inl (h.2 a w' ha hw')⟩, fun w' hb => k _ _ S hS (by rw [hd]; exact ha.put d v hN) (hw.bel hb)⟩
theorem WB_set {s : Nat} {v v' : Value} {l : List (Nat × Tag)} (h : gtE E s = some v') (he : v' = v) (k : WB X ops p Hq l ((s, v) :: E) H) : WB X ops p Hq l E H := by
  subst he
  intro a w S hS ha hw
  refine k a w S hS ⟨ha.size, ha.defers, fun t v ht => ?_⟩ hw
  rw [get_cons] at ht
  split at ht
  · rename_i e; subst e; cases ht; exact ha.env _ _ h
  · exact ha.env _ _ ht
theorem HW.self {H0 H H' : Heap} {w0 w w' : World} (hw : HW H0 w0 H w) (c : HW H w H' w') : HW H0 w0 H' w' := by
  have := hw.frame (Hp := H) (F := []) (by rw [List.append_nil]) c
  rwa [List.append_nil] at this
theorem WB_turn {a : Act} {w : World} {S : Nat → Prop} {R : Value → Heap → Prop} (hS : ∀ k, S k ↔ k ∈ keys H) (hbs : BornsE X ops Hq B E) (ho : ops[i]? = some o) (hg : wantedE ops E o = some true)
    (h : ∀ w, Does (X.at H w) o E H R) (ha : AE X E a) (hw : HW X.H0 X.w0 H w) (k : ∀ v H' w'', R v H' → HW X.H0 X.w0 H' w'' → (∃ F, Pulls Hq H' F) ∧ ∀ S', (∀ k, S' k ↔ k ∈ keys H') → BW X ops p (fun w => HW X.H0 X.w0 Hq w) r S' (a.put o.dst v) w'') :
    BW X ops p (fun w => HW X.H0 X.w0 Hq w) ((i, .n B) :: r) S a w := by
  refine ⟨hbs.borns ha, ?_⟩
  simp only [wpOpIn, ho, wantedE_spec ha hg, if_true]
  refine h w a w ⟨ha.size, ha.defers, ha.env⟩ (HW.start hw.hok) _ _ fun v H' w' hr (hw' : HW H w H' w') => ?_
  have hwX := hw.self hw'
  obtain ⟨⟨F, hq⟩, -⟩ := k v H' w' hr hwX
  refine ⟨(hwX.perm hq.perm).left, hw'.size, fun j => j ∈ keys H', fun j hj => ⟨?_, hw'.hok.lt hj⟩, fun j hj hn => hw'.kept j hj (fun h => hn ((hS j).2 h)), fun w'' hb => (k v H' w'' hr (hwX.bel hb)).2 _ fun _ => Iff.rfl⟩
  rcases hw'.own j hj with h | h
  · exact .inl ((hS j).2 h)
  · exact .inr h
/-- An operation that turns something, where beside it only births may come up. -/
theorem WB_do {d : Nat} {R : Value → Heap → Prop} (ho : ops[i]? = some o) (hg : wantedE ops E o = some true) (hd : o.dst = some d) (hN : Nat.blt d X.N = true) (hbs : BornsE X ops Hq B E) (h : ∀ w, Does (X.at H w) o E H R)
    (k : ∀ v H', R v H' → (∃ F, Pulls Hq H' F) ∧ WB X ops p Hq r ((d, v) :: E) H') : WB X ops p Hq ((i, .n B) :: r) E H := fun _ _ _ hS ha hw =>
  WB_turn hS hbs ho hg h ha hw fun v H' _ hr hw' => ⟨(k v H' hr).1, fun S' hS' => (k v H' hr).2 _ _ S' hS' (by rw [hd]; exact ha.put d v hN) hw'⟩
theorem WB_do0 {R : Value → Heap → Prop} (ho : ops[i]? = some o) (hg : wantedE ops E o = some true) (hd : o.dst = none) (hbs : BornsE X ops Hq B E) (h : ∀ w, Does (X.at H w) o E H R)
    (k : ∀ v H', R v H' → (∃ F, Pulls Hq H' F) ∧ WB X ops p Hq r E H') : WB X ops p Hq ((i, .n B) :: r) E H := fun _ _ _ hS ha hw =>
  WB_turn hS hbs ho hg h ha hw fun v H' _ hr hw' => ⟨(k v H' hr).1, fun S' hS' => (k v H' hr).2 _ _ S' hS' (by rw [hd]; exact ha.put0 v) hw'⟩
theorem WB_birth {d : Nat} {V : Nat → Value} {O : Obj} (ho : ops[i]? = some o) (hg : wantedE ops E o = some true) (hd : o.dst = some d) (hN : Nat.blt d X.N = true) (hbs : BornsE X ops Hq B E) (h : Births X o E Hq V O)
    (k : ∀ b, WB X ops p Hq r ((d, V b) :: E) (⟨some b, O⟩ :: H)) : WB X ops p Hq ((i, .b B) :: r) E H := fun a w S hS ha hw => by
  refine ⟨hbs.borns ha, o, V, O, ho, ⟨wantedE_spec ha hg, fun w' hw' => h a w' ha hw'⟩, fun b w' hb hge hO hn => ?_⟩
  have hw' := hw.bel hb
  refine k b _ w' _ (fun j => ?_) (by rw [hd]; exact ha.put d _ hN) ⟨⟨?_, fun x hx => ?_⟩, hw'.os, hw'.tape, hw'.output, hw'.size, hw'.kept, fun j hj => ?_, hw'.dr⟩
  · simp only [keys, List.filterMap_cons, List.mem_cons]
    rw [hS j, or_comm]; rfl
  · have hn' : b ∉ keys H := fun h => hn ((hS b).2 h)
    simpa [keys] using ⟨by simpa [keys] using hn', by simpa [keys] using hw'.hok.nodup⟩
  · rcases List.mem_cons.1 hx with rfl | hx
    · exact hO
    · exact hw'.hok.ok x hx
  · have hj' : j = b ∨ j ∈ keys H := by simpa [keys] using hj
    rcases hj' with rfl | hj'
    · exact .inr hge
    · exact hw'.own j hj'
theorem B_alloc {t : TypeId} {zs : List Value} (ho : o.op = .alloc t) (hz : Zv X.P t zs) : Births X o E H (fun b => .pointer (some ⟨b, 0, none⟩)) (cl zs t) := by
  intro a w ha hw
  obtain ⟨z, h1, h2⟩ := hz
  simp [execOp, ho, Instr.alloc, h2 w, newVar, newRow, h1, cl]
theorem B_buildSlice {t e : TypeId} {sz bytes n : Nat} {zs cs : List Value} {parts : List (Nat × Operand)} {vs : List (Nat × Value)} (ho : o.op = .buildSlice t n parts.toArray) (hs : SI X.P t e sz bytes zs)
    (hv : evParts E parts = some vs) (hf : fillS sz (List.replicate n zs).flatten vs = some cs) (hn : Nat.ble (n * sz) 16777216 = true) :
    Births X o E H (fun b => .slice (some ⟨b, 0, none⟩) n n) (cl cs e) := by
  intro a w ha hw
  obtain ⟨h1, i, z, h2, h3, h4, h5, h6, h7, h8⟩ := hs
  have hp := ha.parts hv
  have hpa : (parts.toArray.map fun (i, x) => (i, a.eval x)) = vs.toArray := by rw [← hp]; simp
  have hle : ¬ (n * sz > 16777216) := by simp only [Nat.ble_eq] at hn; omega
  have hfl := fillS_eq sz vs _ cs hf
  have hm := made_eq zs n (by omega)
  rw [h7] at hm
  by_cases h0 : n * sz = 0
  · have hn0 : n = 0 := by rcases Nat.mul_eq_zero.1 h0 with h | h <;> omega
    subst hn0
    simp only [List.replicate_zero, List.flatten_nil] at hfl
    simp [execOp, ho, Instr.buildSlice, run_underlying h1, sizeOf, typeInfo, h2, h4, hp, Array.range_zero', hfl, newRow, cl]
  · simp only [madeCells] at hm
    have hsz : (sizeOf e).run X.P w = .ok sz w := by simp [sizeOf, typeInfo, h2, h4]
    have hzv : (zeroValue e).run X.P w = .ok z w := by simp [zeroValue, typeInfo, h2, h3]
    have hb : (Instr.buildSlice t n vs.toArray).run X.P w = .ok (.slice (some ⟨w.heap.size, 0, none⟩) n n) (w.alloc (cl cs e)) := by
      simp only [Instr.buildSlice, Sem.run_bind, run_underlying h1, Result.andThen_ok, hsz, if_neg hle, if_neg h0, hzv, Sem.run_pure, h6, hm, hfl]
      simp [newRow, cl]
    simp only [execOp, ho, hpa, Sem.run_bind, hb, Result.andThen_ok, Sem.run_pure]
end
/-- The same two, told what the region turns: all else stays. -/
theorem pulls_rest {xs H Hq : Heap} (h : Pulls xs H Hq) : ∀ {X : Ctx} {w : World}, HW X.H0 X.w0 H w → HW X.H0 X.w0 Hq w := fun hw =>
  HW.left (hw.perm (h.perm.trans List.perm_append_comm))
theorem WC_drawR {X : Ctx} {p : Post} [NoPan p] {E : Env} {H Hq : Heap} {id : Nat} {l : List Oper} (xs : Heap) (ord : List (Nat × Bool)) (hm : X.P.follows .mixedOrders = true) (hsd : noSD l.toArray = true) (hlen : ord.length = l.length)
    (hB : orderB l.toArray ord (Array.replicate l.length false) = true) (hq : Pulls xs H Hq) (h : WM X l.toArray p Hq ord E H) : WC X (.region id l.toArray true) p E H := by
  intro a w ha hw
  refine wpIn_region_any hm ?_
  have hb : Bel w { w with drawn := w.drawn + 1 } := Bel.drew' w
  have hw1 := hw.bel hb
  have h1 := MW.any (X := X) (p := p) (C := fun w => HW X.H0 X.w0 Hq w) (fun _ _ h b => h.bel b) hsd ord _ a _ hB (pulls_rest hq hw1) (h a _ ha hw1)
  rw [hlen] at h1
  have := AnyC.sound _ _ _ _ h1
  simpa using this
theorem WC_drawBR {X : Ctx} {p : Post} [NoPan p] {E : Env} {H Hq : Heap} {id : Nat} {l : List Oper} (xs : Heap) (ord : List (Nat × Tag)) (hm : X.P.follows .mixedOrders = true) (hsd : noSD l.toArray = true) (hlen : ord.length = l.length)
    (hB : orderW l.toArray ord (Array.replicate l.length false) = true) (hq : Pulls xs H Hq) (h : WB X l.toArray p Hq ord E H) : WC X (.region id l.toArray true) p E H := by
  intro a w ha hw
  refine wpIn_region_any hm ?_
  have hb : Bel w { w with drawn := w.drawn + 1 } := Bel.drew' w
  have hw1 := hw.bel hb
  have h1 := BW.any (X := X) (p := p) (C := fun w => HW X.H0 X.w0 Hq w) (fun _ h => h.size) (fun _ _ h b => h.bel b) hsd ord _ hB ord.length [] a _ (fun k => k ∈ keys H) (by simp)
    ⟨fun e h => (by cases h), List.nodup_nil, fun e h => (by cases h), fun e h => (by cases h), fun e h => (by cases h), pulls_rest hq hw1, fun k hk => hw1.hok.lt hk⟩
    (fun w' hb' => h a _ _ (fun _ => Iff.rfl) ha (hw1.bel hb'))
  rw [hlen] at h1
  have := AnyC.sound _ _ _ _ h1
  simpa [marks, puts] using this
end Go.Proofs.YtkcfgglmlogjbaaGreat
end
section
namespace Go.Proofs.YtkcfgglmlogjbaaGreat
open Go.MapKept (IsKey)
/-- What lies in a map. -/
structure Mp {κ α : Type} (d : TypeDesc) (ek : κ → Value) (ev : α → Value) (es : Array MapEntry) (L : List (κ × α)) : Prop where
  perm : (es.toList.map fun e => (e.key, e.val)).Perm (L.map fun x => (ek x.1, ev x.2))
  nodup : (L.map (·.1)).Nodup
  key : ∀ k, IsKey d (ek k)
  inj : ∀ a b, ek a = ek b → a = b
section
variable {κ α : Type} {d : TypeDesc} {ek : κ → Value} {ev : α → Value} {es : Array MapEntry} {L L' : List (κ × α)}
theorem Mp.empty (hk : ∀ k, IsKey d (ek k)) (hi : ∀ a b, ek a = ek b → a = b) : Mp d ek ev #[] ([] : List (κ × α)) := ⟨by simp, by simp, hk, hi⟩
theorem Mp.to (h : Mp d ek ev es L) (p : L.Perm L') : Mp d ek ev es L' := ⟨h.perm.trans (p.map _), (p.map _).nodup_iff.1 h.nodup, h.key, h.inj⟩
theorem Mp.size (h : Mp d ek ev es L) : es.size = L.length := by
  have := h.perm.length_eq
  simpa using this
theorem Mp.keys (h : Mp d ek ev es L) : ∀ x ∈ es.toList, IsKey d x.key := fun x hx => by
  have : (x.key, x.val) ∈ L.map fun x => (ek x.1, ev x.2) := h.perm.mem_iff.1 (List.mem_map.2 ⟨x, hx, rfl⟩)
  obtain ⟨y, _, e⟩ := List.mem_map.1 this
  have e1 : ek y.1 = x.key := congrArg Prod.fst e
  rw [← e1]; exact h.key _
theorem Mp.has (h : Mp d ek ev es L) {x : κ × α} (hx : x ∈ L) : ∃ e ∈ es.toList, e.key = ek x.1 ∧ e.val = ev x.2 := by
  have : (ek x.1, ev x.2) ∈ es.toList.map fun e => (e.key, e.val) := h.perm.mem_iff.2 (List.mem_map.2 ⟨x, hx, rfl⟩)
  obtain ⟨e, he, hh⟩ := List.mem_map.1 this
  exact ⟨e, he, congrArg Prod.fst hh, congrArg Prod.snd hh⟩
theorem Mp.back (h : Mp d ek ev es L) {e : MapEntry} (he : e ∈ es.toList) : ∃ x ∈ L, e.key = ek x.1 ∧ e.val = ev x.2 := by
  have : (e.key, e.val) ∈ L.map fun x => (ek x.1, ev x.2) := h.perm.mem_iff.1 (List.mem_map.2 ⟨e, he, rfl⟩)
  obtain ⟨x, hx, hh⟩ := List.mem_map.1 this
  exact ⟨x, hx, (congrArg Prod.fst hh).symm, (congrArg Prod.snd hh).symm⟩
theorem key_uniq {L : List (κ × α)} (h : (L.map (·.1)).Nodup) {k : κ} {a b : α} (ha : (k, a) ∈ L) (hb : (k, b) ∈ L) : a = b := by
  induction L with
  | nil => cases ha
  | cons x L ih =>
    rw [List.map_cons, List.nodup_cons] at h
    rcases List.mem_cons.1 ha with e1 | ha2
    · rcases List.mem_cons.1 hb with e2 | hb2
      · have := e1.trans e2.symm; exact congrArg Prod.snd this
      · exact absurd (List.mem_map.2 ⟨(k, b), hb2, (congrArg Prod.fst e1 : k = x.1)⟩) h.1
    · rcases List.mem_cons.1 hb with e2 | hb2
      · exact absurd (List.mem_map.2 ⟨(k, a), ha2, (congrArg Prod.fst e2 : k = x.1)⟩) h.1
      · exact ih h.2 ha2 hb2
theorem Mp.find (h : Mp d ek ev es L) {k : κ} {a : α} (hx : (k, a) ∈ L) : ∃ j e, Instr.findNow d (ek k) es.toList 0 = some (some (j, ev a)) ∧ es.toList[j]? = some e ∧ e.key = ek k := by
  rcases MapKept.findNow_spec (h.key k) es.toList 0 h.keys with ⟨_, h2⟩ | ⟨j, e, h1, h2, h3⟩
  · obtain ⟨e, he, hk, _⟩ := h.has hx
    exact absurd hk (h2 e he)
  · obtain ⟨⟨k', b⟩, hy, e1, e2⟩ := h.back (List.mem_of_getElem? h2)
    obtain rfl := h.inj _ _ (e1.symm.trans h3)
    obtain rfl := key_uniq h.nodup hx hy
    exact ⟨j, e, by rw [h1, Nat.zero_add, e2], h2, h3⟩
theorem Mp.none (h : Mp d ek ev es L) {k : κ} (hx : k ∉ L.map (·.1)) : Instr.findNow d (ek k) es.toList 0 = some none ∧ ∀ e ∈ es.toList, e.key ≠ ek k := by
  rcases MapKept.findNow_spec (h.key k) es.toList 0 h.keys with h1 | ⟨j, e, _, h2, h3⟩
  · exact h1
  · obtain ⟨⟨k', b⟩, hy, e1, _⟩ := h.back (List.mem_of_getElem? h2)
    obtain rfl := h.inj _ _ (e1.symm.trans h3)
    exact absurd (List.mem_map.2 ⟨_, hy, rfl⟩) hx
theorem Mp.add (h : Mp d ek ev es L) {k : κ} (a : α) (c : Nat) (hx : k ∉ L.map (·.1)) : Mp d ek ev (es.push { key := ek k, val := ev a, born := c }) ((k, a) :: L) := by
  refine ⟨?_, by simpa using ⟨by simpa using hx, h.nodup⟩, h.key, h.inj⟩
  rw [Array.toList_push, List.map_append]
  exact List.perm_append_comm.trans (.cons _ h.perm)
theorem perm_middle_split {β : Type} {l : List β} {j : Nat} {e : β} (h : l[j]? = some e) : ∃ s t, l = s ++ e :: t ∧ s.length = j := by
  obtain ⟨hl, rfl⟩ := List.getElem?_eq_some_iff.1 h
  exact ⟨l.take j, l.drop (j + 1), by rw [List.getElem_cons_drop, List.take_append_drop], by simp; omega⟩
theorem modify_at {β : Type} (f : β → β) : ∀ (s t : List β) (e : β), (s ++ e :: t).modify s.length f = s ++ f e :: t
  | [], t, e => by simp
  | x :: s, t, e => by simpa using modify_at f s t e
theorem Mp.split (h : Mp d ek ev es L) {k : κ} {a : α} (hx : (k, a) ∈ L) {j : Nat} {e : MapEntry} (hj : es.toList[j]? = some e) (he : e.key = ek k) :
    ∃ s t A B, es.toList = s ++ e :: t ∧ s.length = j ∧ L = A ++ (k, a) :: B ∧ ((s ++ t).map fun e => (e.key, e.val)).Perm ((A ++ B).map fun x => (ek x.1, ev x.2)) := by
  obtain ⟨s, t, hs, hl⟩ := perm_middle_split hj
  obtain ⟨A, B, hL⟩ := List.append_of_mem hx
  refine ⟨s, t, A, B, hs, hl, hL, ?_⟩
  obtain ⟨⟨k', b⟩, hy, e1, e2⟩ := h.back (List.mem_of_getElem? hj)
  obtain rfl := h.inj _ _ (e1.symm.trans he)
  obtain rfl := key_uniq h.nodup hx hy
  have hp := h.perm
  rw [hs, hL] at hp
  simp only [List.map_append, List.map_cons] at hp ⊢
  have h1 := List.perm_middle.symm.trans (hp.trans List.perm_middle)
  rw [e1, e2] at h1
  exact List.Perm.cons_inv h1
theorem split_ne {A B : List (κ × α)} {k : κ} {a : α} (h : ((A ++ (k, a) :: B).map (·.1)).Nodup) : ∀ x ∈ A ++ B, x.1 ≠ k := by
  have h1 := ((List.perm_middle (l₁ := A) (a := (k, a)) (l₂ := B)).map (fun x : κ × α => x.1)).nodup_iff.1 h
  rw [List.map_cons, List.nodup_cons] at h1
  intro x hx e
  exact h1.1 (List.mem_map.2 ⟨x, hx, e⟩)
/-- What lies there after a key's value is set anew; after a key is taken out. -/
def setL [DecidableEq κ] (L : List (κ × α)) (k : κ) (a : α) : List (κ × α) := L.map fun x => if x.1 = k then (k, a) else x
theorem setL_same [DecidableEq κ] {A : List (κ × α)} {k : κ} {a : α} (h : ∀ x ∈ A, x.1 ≠ k) : setL A k a = A := by
  induction A with
  | nil => rfl
  | cons x A ih =>
    show (if x.1 = k then (k, a) else x) :: setL A k a = _
    rw [if_neg (h x (List.mem_cons_self ..)), ih (fun y hy => h y (List.mem_cons_of_mem _ hy))]
theorem Mp.set [DecidableEq κ] (h : Mp d ek ev es L) {k : κ} {a : α} (b : α) (hx : (k, a) ∈ L) {j : Nat} {e : MapEntry} (hj : es.toList[j]? = some e) (he : e.key = ek k) :
    Mp d ek ev (es.modify j fun e => { e with key := ek k, val := ev b }) (setL L k b) := by
  obtain ⟨s, t, A, B, hs, hl, hL, hp⟩ := h.split hx hj he
  have hnd := h.nodup
  subst hL
  have hne := split_ne hnd
  have hA : setL A k b = A := setL_same fun x hx => hne x (List.mem_append_left _ hx)
  have hB : setL B k b = B := setL_same fun x hx => hne x (List.mem_append_right _ hx)
  have hset : setL (A ++ (k, a) :: B) k b = A ++ (k, b) :: B := by
    show List.map _ _ = _
    rw [List.map_append, List.map_cons, if_pos rfl]
    exact congr (congrArg _ hA) (congrArg _ hB)
  rw [hset]
  refine ⟨?_, by simpa using hnd, h.key, h.inj⟩
  have hm : (es.modify j fun e => { e with key := ek k, val := ev b }).toList = s ++ { e with key := ek k, val := ev b } :: t := by
    rw [Array.toList_modify, hs]
    subst hl
    exact modify_at _ s t e
  rw [hm]
  simp only [List.map_append, List.map_cons] at hp ⊢
  exact List.perm_middle.trans ((List.Perm.cons _ hp).trans List.perm_middle.symm)
end
section
variable {X : Ctx} {E : Env} {H F : Heap} {o : Oper} {κ α : Type} {d : TypeDesc} {ek : κ → Value} {ev : α → Value} {es : Array MapEntry} {c b : Nat} {L : List (κ × α)} {mt kt et : TypeId} {x y z : Operand}
theorem HW.mapAt {H0 : Heap} {w0 w : World} (hw : HW H0 w0 H w) (hm : (⟨some b, .map es c⟩ : Ent) ∈ H) : w.heap[b]? = some (.map es c) := hw.hok.ok _ hm
theorem D_makeMap (ho : o.op = .makeMap mt none) : Does X o E H (fun v H' => ∃ b, v = .map (some b) ∧ H' = ⟨some b, .map #[] 0⟩ :: H) := by
  intro a w ha hw next Q k
  refine ⟨about_true, ?_⟩
  rw [semAt_of (by rw [ho]; intro c e; cases e)]
  have hrun : (execOp a.eval o).run X.P w = .ok (.value (.map (some w.heap.size))) (w.alloc (.map #[] 0)) := by
    have h : (Instr.makeMap mt none).run X.P w = .ok (.map (some w.heap.size)) (w.alloc (.map #[] 0)) := rfl
    simp [execOp, ho, h]
  rw [hrun]
  exact k _ _ _ ⟨_, rfl, rfl⟩ (hw.alloc _)
theorem HW.turnMap {H0 : Heap} {w0 w : World} {ob : Obj} (hw : HW H0 w0 H w) (hp : Pull ⟨some b, .map es c⟩ H F) : HW H0 w0 (⟨some b, ob⟩ :: F) { w with heap := w.heap.setIfInBounds b ob } := by
  have hb : w.heap[b]? = some (.map es c) := hw.mapAt (pull_mem hp)
  obtain ⟨h1, h2⟩ := MapKept.heap_set (o' := ob) hb
  exact hw.turn hp (by simp) h1 (fun k hk => h2 k hk) rfl rfl rfl
end
section
variable {X : Ctx} {E : Env} {H : Heap} {o : Oper} {x : Operand} {t : TypeId}
theorem eqi_map {P : Program} (w : World) (d : Nat) (t k e : TypeId) (r : Option Nat) (h : P.underlying t = some (.map k e)) : (Op.equalIn (d + 1) t (.map r) (.map none)).run P w = .ok r.isNone w := by
  cases r <;> simp [Op.equalIn, run_underlying h]
theorem R_mapEqNil {t' k e : TypeId} {r : Option Nat} (ho : o.op = .binOp .eql t x (.const (.map none)) t') (hu : X.P.underlying t = some (.map k e)) (hx : Go.Proofs.YtkcfgglmlogjbaaGreat.ev E x = some (.map r)) : Runs X o E H (.bool r.isNone) :=
  R_bin ho hx rfl (fun w => by simp [eqGuard]) fun w => by
    have h := eqi_map (P := X.P) w 9999 t k e r hu
    simp only [binOp, Op.equal, Op.maxDepth, Sem.run_bind, h, Result.andThen_ok, Sem.run_pure]
end
end Go.Proofs.YtkcfgglmlogjbaaGreat
end
section
namespace Go.Proofs.YtkcfgglmlogjbaaGreat
section
variable {X : Ctx} {E : Env} {H : Heap} {o : Oper} {t e : TypeId} {x y : Operand} {sz n : Nat}
theorem R_buildArr {parts : List (Nat × Operand)} {vs : List (Nat × Value)} {zs cs : List Value} (ho : o.op = .build t parts.toArray) (hu : X.P.underlying t = some (.array n e)) (hs : ∀ w, (sizeOf e).run X.P w = .ok sz w) (hz : Zv X.P t zs)
    (hv : evParts E parts = some vs) (hf : fillS sz zs vs = some cs) : Runs X o E H (.agg cs.toArray) :=
  ⟨(by rw [ho]; intro c e; cases e), fun a w ha _ => by
    obtain ⟨z, h1, h2⟩ := hz
    have hp := ha.parts hv
    have hfl := fillS_eq sz vs zs cs hf
    have hpa : (parts.toArray.map fun (i, x) => (i, a.eval x)) = vs.toArray := by rw [← hp]; simp
    simp only [execOp, ho, hpa, Instr.build]
    simp only [Sem.run_bind, h2 w, Result.andThen_ok, run_underlying hu, hs w, h1, hfl, Sem.run_pure]⟩
theorem R_indexArrA {k : IntKind} {i : Int} {cs vs : List Value} (ho : o.op = .index t x y) (hu : X.P.underlying t = some (.array n e)) (hs : Ag X.P e sz) (hx : Go.Proofs.YtkcfgglmlogjbaaGreat.ev E x = some (.agg cs.toArray)) (hy : Go.Proofs.YtkcfgglmlogjbaaGreat.ev E y = some (.int k i)) (hi : 0 ≤ i ∧ i < n) (hn : vs.length = sz) (hv : At cs (i.toNat * sz) vs) : Runs X o E H (.agg vs.toArray) :=
  ⟨(by rw [ho]; intro c e; cases e), fun a w ha _ => by
    have hsub : List.take sz (List.drop (i.toNat * sz) cs) = vs := by
      apply List.ext_getElem?
      intro j
      by_cases hj : j < sz
      · rw [List.getElem?_take_of_lt hj, List.getElem?_drop]
        have hlt : j < vs.length := by omega
        rw [hv j vs[j] (by simp [hlt])]
        simp [hlt]
      · rw [List.getElem?_eq_none (by simp; omega), List.getElem?_eq_none (by omega)]
    have h : (Instr.index t (.agg cs.toArray) (.int k i)).run X.P w = .ok (.agg vs.toArray) w := by
      simp [Instr.index, asIntOf, run_underlying hu, hi.1, hi.2, (hs w).1, (hs w).2, part, hsub]
    simp [execOp, ho, ha.eval hx, ha.eval hy, h]⟩
end
section
variable {X : Ctx} {E : Env} {H : Heap} {o : Oper} {t u : TypeId} {x y : Operand} {sz len : Nat}
end
end Go.Proofs.YtkcfgglmlogjbaaGreat
end
section
namespace Go.Proofs.YtkcfgglmlogjbaaGreat
section
variable {X : Ctx} {E : Env} {H : Heap} {o : Oper}
theorem addr_add0 (ad : Addr) : ad.add 0 = ad := by cases ad; simp [Addr.add]
/-- x[:h] of a slice. -/
theorem R_sliceTo {t u : TypeId} {x y : Operand} {ad : Option Addr} {n c sz m : Nat} {kk : IntKind} (ho : o.op = .slice t x none (some y) none) (hu : X.P.underlying t = some (.slice u)) (hs : ∀ w, (sizeOf u).run X.P w = .ok sz w)
    (hx : ev E x = some (.slice ad n c)) (hy : ev E y = some (.int kk (m : Int))) (hm : m ≤ c) : Runs X o E H (.slice ad m c) :=
  ⟨(by rw [ho]; intro c e; cases e), fun a w ha _ => by
    simp [execOp, ho, ha.eval hx, ha.eval hy, Instr.sliceAt, Instr.slice, Instr.sliceBounds, Instr.sliceBound, asIntOf, run_underlying hu, hs w, hm]
    cases ad <;> simp [addr_add0]⟩
/-- x[l:] of a slice. -/
theorem R_sliceFrom {t u : TypeId} {x y : Operand} {b k n c sz m : Nat} {kk : IntKind} (ho : o.op = .slice t x (some y) none none) (hu : X.P.underlying t = some (.slice u)) (hs : ∀ w, (sizeOf u).run X.P w = .ok sz w)
    (hx : ev E x = some (.slice (some ⟨b, k, none⟩) n c)) (hy : ev E y = some (.int kk (m : Int))) (hm : m ≤ n) : Runs X o E H (.slice (some (if c = m then ⟨b, k, none⟩ else ⟨b, k + m * sz, none⟩)) (n - m) (c - m)) :=
  ⟨(by rw [ho]; intro c e; cases e), fun a w ha _ => by
    simp [execOp, ho, ha.eval hx, ha.eval hy, Instr.sliceAt, Instr.slice, Instr.sliceBounds, Instr.sliceBound, asIntOf, run_underlying hu, hs w, hm]
    by_cases e : c = m <;> simp [e, Addr.add]⟩
theorem R_sliceFromK {t u : TypeId} {x y : Operand} {b k n c sz m : Nat} {kk : IntKind} (ho : o.op = .slice t x (some y) none none) (hu : X.P.underlying t = some (.slice u)) (hs : ∀ w, (sizeOf u).run X.P w = .ok sz w)
    (hx : ev E x = some (.slice (some ⟨b, k, none⟩) n c)) (hy : ev E y = some (.int kk (m : Int))) (hm : m ≤ n) : Runs X o E H (.slice (some ⟨b, if c = m then k else k + m * sz, none⟩) (n - m) (c - m)) := by
  have h := R_sliceFrom (H := H) ho hu hs hx hy hm
  by_cases e : c = m
  · rw [if_pos e] at h ⊢; exact h
  · rw [if_neg e] at h ⊢; exact h
/-- x[l:h] of a slice. -/
theorem R_sliceLH {t u : TypeId} {x y z : Operand} {b k n c sz m h : Nat} {kk kz : IntKind} (ho : o.op = .slice t x (some y) (some z) none) (hu : X.P.underlying t = some (.slice u)) (hs : ∀ w, (sizeOf u).run X.P w = .ok sz w)
    (hx : ev E x = some (.slice (some ⟨b, k, none⟩) n c)) (hy : ev E y = some (.int kk (m : Int))) (hz : ev E z = some (.int kz (h : Int))) (hm : m ≤ h) (hc : h ≤ c) : Runs X o E H (.slice (some (if c = m then ⟨b, k, none⟩ else ⟨b, k + m * sz, none⟩)) (h - m) (c - m)) :=
  ⟨(by rw [ho]; intro c e; cases e), fun a w ha _ => by
    simp [execOp, ho, ha.eval hx, ha.eval hy, ha.eval hz, Instr.sliceAt, Instr.slice, Instr.sliceBounds, Instr.sliceBound, asIntOf, run_underlying hu, hs w, hm, hc]
    by_cases e : c = m <;> simp [e, Addr.add]⟩
end
end Go.Proofs.YtkcfgglmlogjbaaGreat
end
