/-
  A layer of symbolic execution over the kit's fenced walk: the frame's slots as a finite map, the heap as a list of known blocks, contracts with a small footprint.
-/
import Derived.WalkKit
import Derived.TacticsIn
import Derived.OrdersIn
import Derived.RangeFuncRecord
import Derived.RangeFuncCalls
import Derived.KernelRfl
import Derived.Deep.LoopGhost
namespace Go.Proofs.Ytiokpmgbabpikaa

/-- The fence of all our walks: everything is let in; 'ro': the record of the loop whose round this is. -/
def fen (ro : Option Nat) : Fence := { Fence.wide with round := ro }
theorem fen_none : fen none = Fence.wide := rfl

abbrev Env := List (Nat × Value)
def gtE : Env → Nat → Option Value
  | [], _ => none
  | (k, v) :: E, s => bif Nat.beq k s then some v else gtE E s

theorem get_cons (k : Nat) (v : Value) (E : Env) (s : Nat) : gtE ((k, v) :: E) s = if k = s then some v else gtE E s := by
  simp only [gtE]
  by_cases h : k = s
  · subst h; simp
  · have hb : Nat.beq k s = false := by simpa [← Nat.beq_eq] using h
    rw [hb, if_neg h]; rfl

/-- A block that is known: its number (none: the array of a nil slice) and what it is. -/
structure Ent where
  b : Option Nat
  o : Obj
abbrev Heap := List Ent
def cl (cs : List Value) (e : TypeId) : Obj := .cells cs.toArray e (0, 0)
def Ent.ok (x : Ent) (w : World) : Prop :=
  match x.b with
  | some b => w.heap[b]? = some x.o
  | none => ∃ e, x.o = cl [] e
def keys (H : Heap) : List Nat := H.filterMap Ent.b

structure HOK (H : Heap) (w : World) : Prop where
  nodup : (keys H).Nodup
  ok : ∀ x ∈ H, x.ok w

structure HW (H0 : Heap) (w0 : World) (H : Heap) (w : World) : Prop where
  hok : HOK H w
  os : w.os = w0.os
  tape : w.tape = w0.tape
  output : w.output = w0.output
  size : w0.heap.size ≤ w.heap.size
  kept : ∀ k, k < w0.heap.size → k ∉ keys H0 → w.heap[k]? = w0.heap[k]?
  own : ∀ k ∈ keys H, k ∈ keys H0 ∨ w0.heap.size ≤ k
  dr : w0.drawn ≤ w.drawn

theorem HW.start {H : Heap} {w : World} (h : HOK H w) : HW H w H w :=
  ⟨h, rfl, rfl, rfl, Nat.le_refl _, fun _ _ _ => rfl, fun _ hk => .inl hk, Nat.le_refl _⟩

theorem mem_keys {H : Heap} {k : Nat} : k ∈ keys H ↔ ∃ x ∈ H, x.b = some k := by
  simp [keys, List.mem_filterMap]
theorem HOK.lt {H : Heap} {w : World} (h : HOK H w) {k : Nat} (hk : k ∈ keys H) : k < w.heap.size := by
  obtain ⟨x, hx, hb⟩ := mem_keys.1 hk
  have := h.ok x hx
  simp only [Ent.ok, hb] at this
  exact (Array.getElem?_eq_some_iff.1 this).1
theorem keys_append (A B : Heap) : keys (A ++ B) = keys A ++ keys B := by simp [keys, List.filterMap_append]
theorem keys_perm {A B : Heap} (h : A.Perm B) : (keys A).Perm (keys B) := h.filterMap _
theorem HOK.perm {A B : Heap} {w : World} (h : HOK A w) (p : A.Perm B) : HOK B w :=
  ⟨(keys_perm p).nodup_iff.1 h.nodup, fun x hx => h.ok x (p.mem_iff.2 hx)⟩
theorem HW.perm {H0 A B : Heap} {w0 w : World} (h : HW H0 w0 A w) (p : A.Perm B) : HW H0 w0 B w :=
  ⟨h.hok.perm p, h.os, h.tape, h.output, h.size, h.kept, fun k hk => h.own k ((keys_perm p).mem_iff.2 hk), h.dr⟩
theorem HOK.left {A B : Heap} {w : World} (h : HOK (A ++ B) w) : HOK A w :=
  ⟨by have := h.nodup; rw [keys_append] at this; exact (List.nodup_append.1 this).1, fun x hx => h.ok x (List.mem_append_left _ hx)⟩
theorem HW.left {H0 A B : Heap} {w0 w : World} (h : HW H0 w0 (A ++ B) w) : HW H0 w0 A w :=
  ⟨h.hok.left, h.os, h.tape, h.output, h.size, h.kept, fun k hk => h.own k (by rw [keys_append]; exact List.mem_append_left _ hk), h.dr⟩

/-- **THE FRAME.** -/
theorem HW.frame {H0 H Hp F H' : Heap} {w0 w w' : World} (h : HW H0 w0 H w) (p : H.Perm (Hp ++ F)) (c : HW Hp w H' w') : HW H0 w0 (H' ++ F) w' := by
  have h1 := h.perm p
  have hlt : ∀ k ∈ keys F, k < w.heap.size := fun k hk => h1.hok.lt (by rw [keys_append]; exact List.mem_append_right _ hk)
  have hnd := h1.hok.nodup
  rw [keys_append, List.nodup_append] at hnd
  obtain ⟨-, hF, hdis⟩ := hnd
  refine ⟨⟨?_, ?_⟩, c.os.trans h.os, c.tape.trans h.tape, c.output.trans h.output, Nat.le_trans h.size c.size, ?_, ?_, Nat.le_trans h.dr c.dr⟩
  · rw [keys_append, List.nodup_append]
    refine ⟨c.hok.nodup, hF, fun x hx y hy e => ?_⟩
    subst e
    rcases c.own x hx with h2 | h2
    · exact hdis x h2 x hy rfl
    · have := hlt x hy; omega
  · intro x hx
    rcases List.mem_append.1 hx with hx | hx
    · exact c.hok.ok x hx
    · have h2 := h1.hok.ok x (List.mem_append_right _ hx)
      cases hb : x.b with
      | none => simp only [Ent.ok, hb] at h2 ⊢; exact h2
      | some b =>
        simp only [Ent.ok, hb] at h2 ⊢
        have hbF : b ∈ keys F := mem_keys.2 ⟨x, hx, hb⟩
        rw [c.kept b (hlt b hbF) (fun hp => hdis b hp b hbF rfl)]
        exact h2
  · intro k hk hn
    rw [c.kept k (Nat.lt_of_lt_of_le hk h.size) ?_, h.kept k hk hn]
    intro hp
    rcases h1.own k (by rw [keys_append]; exact List.mem_append_left _ hp) with h2 | h2
    · exact hn h2
    · omega
  · intro k hk
    rw [keys_append] at hk
    rcases List.mem_append.1 hk with hk | hk
    · rcases c.own k hk with h2 | h2
      · exact h1.own k (by rw [keys_append]; exact List.mem_append_left _ h2)
      · right; have := h.size; omega
    · exact h1.own k (by rw [keys_append]; exact List.mem_append_right _ hk)

/-- Entry x is taken out of a heap. -/
inductive Pull (x : Ent) : Heap → Heap → Prop
  | head {l : Heap} : Pull x (x :: l) l
  | tail {y : Ent} {l l' : Heap} : Pull x l l' → Pull x (y :: l) (y :: l')
inductive Pulls : Heap → Heap → Heap → Prop
  | nil {H : Heap} : Pulls [] H H
  | cons {x : Ent} {xs H H1 H2 : Heap} : Pull x H H1 → Pulls xs H1 H2 → Pulls (x :: xs) H H2
  | all {H : Heap} : Pulls H H []
  | skip {y : Ent} {xs H F : Heap} : Pulls xs H F → Pulls xs (y :: H) (y :: F)
  | ofPerm {xs H F : Heap} : H.Perm (xs ++ F) → Pulls xs H F
theorem Pull.perm {x : Ent} {H H1 : Heap} (h : Pull x H H1) : H.Perm (x :: H1) := by
  induction h with
  | head => exact .refl _
  | tail _ ih => exact (List.Perm.cons _ ih).trans (.swap _ _ _)
theorem Pulls.perm {xs H F : Heap} (h : Pulls xs H F) : H.Perm (xs ++ F) := by
  induction h with
  | nil => exact .refl _
  | cons h _ ih => exact h.perm.trans (.cons _ ih)
  | all => simp
  | skip _ ih => exact (List.Perm.cons _ ih).trans List.perm_middle.symm
  | ofPerm h => exact h

/-- What stays the same through a walk: the program, the round, the frame's size, its deferred calls, and where it began. -/
structure Ctx where
  P : Program
  ro : Option Nat
  N : Nat
  D : List Deferred
  H0 : Heap
  w0 : World

structure AE (X : Ctx) (E : Env) (a : Act) : Prop where
  size : a.tmps.size = X.N
  defers : a.defers = X.D
  env : ∀ s v, gtE E s = some v → a.tmps[s]? = some v

def ev (E : Env) : Operand → Option Value
  | .tmp t => gtE E t
  | .const v => some v
  | .global g => some (.pointer (some ⟨g, 0, none⟩))
  | .func f => some (.func (.func f) #[] #[])
theorem AE.eval {X : Ctx} {E : Env} {a : Act} (h : AE X E a) {x : Operand} {v : Value} (hx : ev E x = some v) : a.eval x = v := by
  cases x with
  | tmp t =>
    have := h.env t v hx
    simp [Act.eval, Array.getD_eq_getD_getElem?, this]
  | const c => simpa [ev, Act.eval] using hx
  | global g => simpa [ev, Act.eval] using hx
  | func f => simpa [ev, Act.eval] using hx
theorem AE.put {X : Ctx} {E : Env} {a : Act} (h : AE X E a) (d : Nat) (v : Value) (hd : Nat.blt d X.N = true) : AE X ((d, v) :: E) (a.put (some d) v) := by
  have hd' : d < X.N := by simpa [Nat.blt_eq] using hd
  refine ⟨by simpa [Act.put] using h.size, h.defers, fun s u hs => ?_⟩
  rw [get_cons] at hs
  simp only [Act.put]
  by_cases e : d = s
  · subst e
    rw [if_pos rfl] at hs
    have : d < a.tmps.size := by rw [h.size]; exact hd'
    simpa [this] using hs
  · rw [if_neg e] at hs
    rw [Array.getElem?_setIfInBounds_ne e]
    exact h.env s u hs
theorem AE.put0 {X : Ctx} {E : Env} {a : Act} (h : AE X E a) (v : Value) : AE X E (a.put none v) := h
def evs (E : Env) : List Operand → Option (List Value)
  | [] => some []
  | x :: xs => match ev E x, evs E xs with
    | some v, some vs => some (v :: vs)
    | _, _ => none
theorem AE.evals {X : Ctx} {E : Env} {a : Act} (h : AE X E a) : ∀ {xs : List Operand} {vs : List Value}, evs E xs = some vs → xs.map a.eval = vs
  | [], vs, hx => by simp [evs] at hx; simp [hx]
  | x :: xs, vs, hx => by
    simp only [evs] at hx
    split at hx
    · rename_i v vs' h1 h2
      cases hx
      simp [h.eval h1, h.evals h2]
    · cases hx

/-- One environment says no more than another. -/
inductive Le : Env → Env → Prop
  | nil {E : Env} : Le [] E
  | cons {s : Nat} {v v' : Value} {E' E : Env} : gtE E s = some v' → v' = v → Le E' E → Le ((s, v) :: E') E
theorem Le.get {E' E : Env} (h : Le E' E) : ∀ s v, gtE E' s = some v → gtE E s = some v := by
  induction h with
  | nil => intro s v hs; simp [gtE] at hs
  | cons h1 h2 _ ih =>
    intro s v hs
    rw [get_cons] at hs
    split at hs
    · rename_i e; subst e; cases hs; rw [h1, h2]
    · exact ih s v hs
def Lq (E' E : Env) : Prop := ∀ s v, gtE E' s = some v → gtE E s = some v
theorem Le.lq {E' E : Env} (h : Le E' E) : Lq E' E := h.get
theorem Lq.refl (E : Env) : Lq E E := fun _ _ h => h
theorem AE.le {X : Ctx} {E' E : Env} {a : Act} (h : AE X E a) (l : Lq E' E) : AE X E' a := ⟨h.size, h.defers, fun s v hs => h.env s v (l s v hs)⟩

theorem any_beq (ds : List Nat) (k : Nat) : ds.any (Nat.beq k) = true ↔ k ∈ ds := by
  rw [List.any_eq_true]
  constructor
  · rintro ⟨x, hx, e⟩
    rw [Nat.beq_eq] at e
    exact e ▸ hx
  · intro h
    exact ⟨k, h, by rw [Nat.beq_eq]⟩
/-- What is left of an environment when some slots are forgotten. -/
def dropE (ds : List Nat) : Env → Env
  | [] => []
  | (k, v) :: E => bif ds.any (Nat.beq k) then dropE ds E else (k, v) :: dropE ds E
theorem get_dropE (ds : List Nat) : ∀ (E : Env) (s : Nat), gtE (dropE ds E) s = if s ∈ ds then none else gtE E s
  | [], s => by simp [dropE, gtE]
  | (k, v) :: E, s => by
    have ih := get_dropE ds E s
    simp only [dropE]
    have hk : ds.any (Nat.beq k) = decide (k ∈ ds) := by
      rw [Bool.eq_iff_iff, any_beq]; simp
    rw [hk]
    by_cases h : k ∈ ds
    · simp only [h, decide_true, cond_true, ih, get_cons]
      by_cases e : k = s
      · subst e; simp [h]
      · rw [if_neg e]
    · simp only [h, decide_false, cond_false, get_cons, ih]
      by_cases e : k = s
      · subst e; simp [h]
      · simp only [if_neg e]
theorem get_append : ∀ (A B : Env) (s : Nat), gtE (A ++ B) s = (gtE A s).or (gtE B s)
  | [], B, s => by simp [gtE]
  | (k, v) :: A, B, s => by
    simp only [List.cons_append, get_cons, get_append A B s]
    split <;> simp
/-- Only slots out of ds have been written. -/
inductive Pushed (ds : List Nat) (B : Env) : Env → Prop
  | refl : Pushed ds B B
  | push {d : Nat} {v : Value} {E : Env} : ds.any (Nat.beq d) = true → Pushed ds B E → Pushed ds B ((d, v) :: E)
theorem Pushed.get {ds : List Nat} {B E : Env} (h : Pushed ds B E) (s : Nat) (hs : s ∉ ds) : gtE E s = gtE B s := by
  induction h with
  | refl => rfl
  | push h1 _ ih =>
    rename_i d v E
    rw [get_cons, if_neg, ih]
    intro e; subst e
    apply hs
    exact (any_beq _ _).1 h1
theorem le_frame {ds : List Nat} {A A' E0 E : Env} (hp : Pushed ds (A ++ dropE ds E0) E) (hA : ∀ s ∈ A.map (·.1), s ∈ ds) (hl : Lq A' E) : Lq (A' ++ dropE ds E0) E := by
  intro s v hs
  rw [get_append] at hs
  cases h : gtE A' s with
  | some u => rw [h] at hs; simp at hs; subst hs; exact hl s u h
  | none =>
    rw [h, get_dropE] at hs
    by_cases hm : s ∈ ds
    · simp [hm] at hs
    · simp only [hm, if_false, Option.none_or] at hs
      rw [hp.get s hm, get_append, get_dropE, if_neg hm, hs]
      have : gtE A s = none := by
        clear hp hl
        induction A with
        | nil => rfl
        | cons x A ih =>
          obtain ⟨k, u⟩ := x
          rw [get_cons, if_neg, ih (fun t ht => hA t (by simp at ht ⊢; exact .inr ht))]
          intro e; subst e; exact hm (hA k (by simp))
      rw [this]; rfl

/-! ### Posts -/
structure Post where
  nrm : Act → World → Prop
  ret : Act → World → Prop
  ex : Nat → Act → World → Prop
def Post.toQ (p : Post) : Exit → Act → World → Prop
  | .normal => p.nrm
  | .ret => p.ret
  | .exit id => p.ex id
  | _ => fun _ _ => False

/-- Posts of parts: each names the outer one once. -/
def Post.seq (X : Ctx) (y : Code) (p : Post) : Post := { p with nrm := fun a w => y.wpIn (fen X.ro) 0 X.P p.toQ a w }
def Post.blk (id : Nat) (p : Post) : Post := { p with ex := fun i => bif Nat.beq i id then p.nrm else p.ex i }
def Post.to (K : Act → World → Prop) (p : Post) : Post := { p with nrm := K }
def WQ (X : Ctx) (K : Act → World → Prop) (E : Env) (H : Heap) : Prop := ∀ a w, AE X E a → HW X.H0 X.w0 H w → K a w
def WC (X : Ctx) (c : Code) (p : Post) (E : Env) (H : Heap) : Prop := ∀ a w, AE X E a → HW X.H0 X.w0 H w → c.wpIn (fen X.ro) 0 X.P p.toQ a w
def WL (X : Ctx) (ops : Array Oper) (p : Post) (l : List Oper) (E : Env) (H : Heap) : Prop := ∀ a w, AE X E a → HW X.H0 X.w0 H w → wpListIn (fen X.ro) 0 X.P ops p.toQ l a w

section rules
variable {X : Ctx} {p : Post} {E : Env} {H : Heap}

theorem WQ_code {y : Code} (h : WC X y p E H) : WQ X (fun a w => y.wpIn (fen X.ro) 0 X.P p.toQ a w) E H := h
theorem WC_seq {x y : Code} (h : WC X x (Post.seq X y p) E H) : WC X (.seq x y) p E H :=
  fun a w ha hw => wpIn_seq (wpIn_mono (h a w ha hw) fun e a w q => by cases e <;> exact q)
theorem WC_skip (h : WQ X p.nrm E H) : WC X .skip p E H := fun a w ha hw => wpIn_skip (h a w ha hw)
theorem WC_ret (h : WQ X p.ret E H) : WC X .ret p E H := fun a w ha hw => wpIn_ret (h a w ha hw)
theorem WC_exit {id : Nat} (h : WQ X (p.ex id) E H) : WC X (.exit id) p E H := fun a w ha hw => wpIn_exit (h a w ha hw)
theorem WC_label {l : Nat} (h : WQ X p.nrm E H) : WC X (.label l) p E H := fun a w ha hw => wpIn_label (h a w ha hw)
theorem WC_block {id : Nat} {c : Code} (h : WC X c (Post.blk id p) E H) : WC X (.block id c) p E H :=
  fun a w ha hw => wpIn_block (wpIn_mono (h a w ha hw) fun e a w q => by
    cases e with
    | exit i =>
      simp only [Exit.inBlock]
      by_cases hi : i = id
      · subst hi; simpa [Post.toQ, Post.blk] using q
      · have hb : Nat.beq i id = false := by simpa [← Nat.beq_eq] using hi
        rw [if_neg hi]
        simpa [Post.toQ, Post.blk, hb] using q
    | normal => exact q
    | ret => exact q
    | goto => exact q
    | panic => exact q
    | outgrown => exact q)
theorem WC_T {c : Operand} {x y : Code} (hc : ev E c = some (.bool true)) (h : WC X x p E H) : WC X (.cond c x y) p E H :=
  fun a w ha hw => wpIn_cond_true (ha.eval hc) (h a w ha hw)
theorem WC_F {c : Operand} {x y : Code} (hc : ev E c = some (.bool false)) (h : WC X y p E H) : WC X (.cond c x y) p E H :=
  fun a w ha hw => wpIn_cond_false (ha.eval hc) (h a w ha hw)
theorem WC_if {c : Operand} {x y : Code} {b : Bool} (hc : ev E c = some (.bool b)) (h1 : b = true → WC X x p E H) (h2 : b = false → WC X y p E H) : WC X (.cond c x y) p E H :=
  fun a w ha hw => wpIn_cond_split (ha.eval hc) (fun e => h1 e a w ha hw) (fun e => h2 e a w ha hw)
theorem WC_dec {c : Operand} {x y : Code} {q : Prop} [Decidable q] (hc : ev E c = some (.bool (decide q))) (h1 : q → WC X x p E H) (h2 : ¬ q → WC X y p E H) : WC X (.cond c x y) p E H :=
  WC_if hc (fun e => h1 (of_decide_eq_true e)) (fun e => h2 (of_decide_eq_false e))
theorem WC_dT {c : Operand} {x y : Code} {q : Prop} [Decidable q] (hc : ev E c = some (.bool (decide q))) (hq : q) (h : WC X x p E H) : WC X (.cond c x y) p E H :=
  WC_dec hc (fun _ => h) (fun e => absurd hq e)
theorem WC_dF {c : Operand} {x y : Code} {q : Prop} [Decidable q] (hc : ev E c = some (.bool (decide q))) (hq : ¬ q) (h : WC X y p E H) : WC X (.cond c x y) p E H :=
  WC_dec hc (fun e => absurd e hq) (fun _ => h)
theorem WC_region {id : Nat} {l : List Oper} (h : WL X l.toArray p l E H) : WC X (.region id l.toArray false) p E H :=
  fun a w ha hw => wpIn_region_lit (h a w ha hw)
theorem WL_nil {ops : Array Oper} (h : WQ X p.nrm E H) : WL X ops p [] E H := fun a w ha hw => h a w ha hw

/-- Only what is listed is kept. -/
theorem WC_le {c : Code} {E' : Env} {H' F : Heap} (l : Lq E' E) (q : Pulls H' H F) (h : WC X c p E' H') : WC X c p E H :=
  fun a w ha hw => h a w (ha.le l) (hw.perm q.perm).left
theorem WQ_le {K : Act → World → Prop} {E' : Env} {H' F : Heap} (l : Lq E' E) (q : Pulls H' H F) (h : WQ X K E' H') : WQ X K E H :=
  fun a w ha hw => h a w (ha.le l) (hw.perm q.perm).left
theorem WC_perm {c : Code} {H' : Heap} (q : H.Perm H') (h : WC X c p E H') : WC X c p E H := fun a w ha hw => h a w ha (hw.perm q)
theorem WL_perm {ops : Array Oper} {l : List Oper} {H' : Heap} (q : H.Perm H') (h : WL X ops p l E H') : WL X ops p l E H := fun a w ha hw => h a w ha (hw.perm q)

/-- A cut: what comes next is walked once, from one form of the state. -/
theorem WC_cut {G : Type} {x y : Code} (I : G → Prop) (EI : G → Env) (HI : G → Heap)
    (h : WC X x (Post.to (fun a w => ∃ g, I g ∧ AE X (EI g) a ∧ HW X.H0 X.w0 (HI g) w) p) E H)
    (k : ∀ g, I g → WC X y p (EI g) (HI g)) : WC X (.seq x y) p E H :=
  fun a w ha hw => wpIn_seq (wpIn_mono (h a w ha hw) fun e a w q => by
    cases e with
    | normal => obtain ⟨g, hg, h1, h2⟩ := q; exact k g hg a w h1 h2
    | _ => exact q)
theorem WQ_cut {G : Type} {I : G → Prop} {EI : G → Env} {HI : G → Heap} {F : Heap} (g : G) (hI : I g) (l : Lq (EI g) E) (q : Pulls (HI g) H F) :
    WQ X (fun a w => ∃ g, I g ∧ AE X (EI g) a ∧ HW X.H0 X.w0 (HI g) w) E H :=
  fun _ _ ha hw => ⟨g, hI, ha.le l, (hw.perm q.perm).left⟩

theorem wpIn_loop_ghost {F : Fence} {n : Nat} {P : Program} {Q : Exit → Act → World → Prop} {a : Act} {w : World} {c : Code} (I : Nat → Act → World → Prop) (n₀ : Nat) (h₀ : I n₀ a w)
    (round : ∀ m a w, I m a w → c.wpIn F n P (Exit.then (fun a' w' => ∃ m', m' < m ∧ I m' a' w') Q) a w) : (Code.loop c).wpIn F n P Q a w := by
  refine wpIn_loop (fun a w => ∃ m, I m a w) (fun a w => leastOf (fun m => I m a w)) ⟨n₀, h₀⟩ ?_
  intro a w hI
  refine wpIn_mono (round _ a w (leastOf_spec hI).1) ?_
  intro e a' w' hq
  cases e with
  | normal =>
    obtain ⟨m', hlt, hI'⟩ := hq
    exact show (∃ m, I m a' w') ∧ leastOf (fun m => I m a' w') < leastOf (fun m => I m a w) from ⟨⟨m', hI'⟩, Nat.lt_of_le_of_lt ((leastOf_spec ⟨m', hI'⟩).2 m' hI') hlt⟩
  | exit id => exact hq
  | goto l => exact hq
  | ret => exact hq
  | panic ch => exact hq
  | outgrown => exact hq

/-- What a round of a loop hands on. -/
def Next (X : Ctx) {G : Type} (I : G → Prop) (EI : G → Env) (HI : G → Heap) (μ : G → Nat) (m : Nat) (a : Act) (w : World) : Prop :=
  ∃ g, I g ∧ μ g < m ∧ AE X (EI g) a ∧ HW X.H0 X.w0 (HI g) w
theorem WC_loop {G : Type} {body : Code} (I : G → Prop) (EI : G → Env) (HI : G → Heap) (μ : G → Nat) {F : Heap} (g0 : G) (h0 : I g0) (l : Lq (EI g0) E) (q : Pulls (HI g0) H F)
    (round : ∀ g, I g → WC X body (Post.to (Next X I EI HI μ (μ g)) p) (EI g) (HI g)) : WC X (.loop body) p E H :=
  fun a w ha hw => by
    refine wpIn_loop_ghost (fun m a w => ∃ g, μ g = m ∧ I g ∧ AE X (EI g) a ∧ HW X.H0 X.w0 (HI g) w) (μ g0) ⟨g0, rfl, h0, ha.le l, (hw.perm q.perm).left⟩ ?_
    rintro m a w ⟨g, rfl, hg, ha, hw⟩
    refine wpIn_mono (round g hg a w ha hw) ?_
    intro e a' w' hq
    cases e with
    | normal => obtain ⟨g', h1, h2, h3, h4⟩ := hq; exact ⟨μ g', h2, g', rfl, h1, h3, h4⟩
    | _ => exact hq
def subB (A : Env) (ds : List Nat) : Bool := A.all fun x => ds.any (Nat.beq x.1)
theorem subB_spec {A : Env} {ds : List Nat} (h : subB A ds = true) : ∀ s ∈ A.map (·.1), s ∈ ds := by
  intro s hs
  obtain ⟨x, hx, rfl⟩ := List.mem_map.1 hs
  have := List.all_eq_true.1 h x hx
  exact (any_beq _ _).1 this
/-- A loop: 'ds': the slots that a round writes; EI: what is said of some of them; HI: what turns; all else stays. -/
theorem WC_loopF {G : Type} {body : Code} (ds : List Nat) (I : G → Prop) (EI : G → Env) (HI : G → Heap) (μ : G → Nat) {F : Heap} (g0 : G) (h0 : I g0) (l : Lq (EI g0) E) (q : Pulls (HI g0) H F)
    (round : ∀ g, I g → WC X body (Post.to (Next X I (fun g => EI g ++ dropE ds E) (fun g => HI g ++ F) μ (μ g)) p) (EI g ++ dropE ds E) (HI g ++ F)) : WC X (.loop body) p E H := by
  intro a w ha hw
  refine WC_loop (E := EI g0 ++ dropE ds E) (H := HI g0 ++ F) (F := []) I (fun g => EI g ++ dropE ds E) (fun g => HI g ++ F) μ g0 h0 ?_ .all round a w (ha.le ?_) (hw.perm q.perm)
  · exact Lq.refl _
  · intro s v hs
    rw [get_append] at hs
    cases h : gtE (EI g0) s with
    | some u => rw [h] at hs; simp at hs; subst hs; exact l s u h
    | none =>
      rw [h, get_dropE] at hs
      by_cases hm : s ∈ ds
      · simp [hm] at hs
      · simpa [hm] using hs
/-- The same, HI telling all that is held. -/
theorem WC_loopH {G : Type} {body : Code} (ds : List Nat) (I : G → Prop) (EI : G → Env) (HI : G → Heap) (μ : G → Nat) {F : Heap} (g0 : G) (h0 : I g0) (l : Lq (EI g0) E) (q : Pulls (HI g0) H F)
    (round : ∀ g, I g → WC X body (Post.to (Next X I (fun g => EI g ++ dropE ds E) HI μ (μ g)) p) (EI g ++ dropE ds E) (HI g)) : WC X (.loop body) p E H := by
  intro a w ha hw
  refine WC_loop (E := EI g0 ++ dropE ds E) (H := HI g0) (F := []) I (fun g => EI g ++ dropE ds E) HI μ g0 h0 ?_ .all round a w (ha.le ?_) (hw.perm q.perm).left
  · exact Lq.refl _
  · intro s v hs
    rw [get_append] at hs
    cases h : gtE (EI g0) s with
    | some u => rw [h] at hs; simp at hs; subst hs; exact l s u h
    | none =>
      rw [h, get_dropE] at hs
      by_cases hm : s ∈ ds
      · simp [hm] at hs
      · simpa [hm] using hs
theorem WQ_nextH {G : Type} {ds : List Nat} {E0 : Env} {I : G → Prop} {EI : G → Env} {HI : G → Heap} {μ : G → Nat} {m : Nat} {F : Heap} {gg : G} (g : G) (hI : I g) (hm : μ g < m) (l : Lq (EI g) E) (hp : Pushed ds (EI gg ++ dropE ds E0) E)
    (hs : subB (EI gg) ds = true) (q : Pulls (HI g) H F) : WQ X (Next X I (fun g => EI g ++ dropE ds E0) HI μ m) E H :=
  fun _ _ ha hw => ⟨g, hI, hm, ha.le (le_frame hp (subB_spec hs) l), (hw.perm q.perm).left⟩
theorem WQ_nextF {G : Type} {ds : List Nat} {E0 : Env} {I : G → Prop} {EI : G → Env} {HI : G → Heap} {μ : G → Nat} {m : Nat} {F0 F : Heap} {gg : G} (g : G) (hI : I g) (hm : μ g < m) (l : Lq (EI g) E) (hp : Pushed ds (EI gg ++ dropE ds E0) E)
    (hs : subB (EI gg) ds = true) (q : Pulls (HI g ++ F0) H F) : WQ X (Next X I (fun g => EI g ++ dropE ds E0) (fun g => HI g ++ F0) μ m) E H :=
  fun _ _ ha hw => ⟨g, hI, hm, ha.le (le_frame hp (subB_spec hs) l), (hw.perm q.perm).left⟩
theorem WQ_next {G : Type} {I : G → Prop} {EI : G → Env} {HI : G → Heap} {μ : G → Nat} {m : Nat} {F : Heap} (g : G) (hI : I g) (hm : μ g < m) (l : Lq (EI g) E) (q : Pulls (HI g) H F) :
    WQ X (Next X I EI HI μ m) E H :=
  fun _ _ ha hw => ⟨g, hI, hm, ha.le l, (hw.perm q.perm).left⟩
end rules

/-! ### Operations -/
/-- A quiet operation: one value, and nothing turns. -/
def Runs (X : Ctx) (o : Oper) (E : Env) (H : Heap) (v : Value) : Prop :=
  (∀ c, o.op ≠ .defer c) ∧ ∀ a w, AE X E a → HW X.H0 X.w0 H w → (execOp a.eval o).run X.P w = .ok (.value v) w
/-- Any operation that goes on. -/
def Does (X : Ctx) (o : Oper) (E : Env) (H : Heap) (R : Value → Heap → Prop) : Prop :=
  ∀ a w, AE X E a → HW X.H0 X.w0 H w → ∀ (next : Act → World → Prop) (Q : Exit → Act → World → Prop),
    (∀ v H' w', R v H' → HW X.H0 X.w0 H' w' → next (a.put o.dst v) w') → o.wpIn (fen X.ro) 0 X.P a w next Q

theorem about_true {ro : Option Nat} {P : Program} {o : Oper} {w : World} {a : Act} : ∀ f, o.about P w a.eval = some f → (fen ro).fn f := fun _ _ => trivial

theorem Runs.does {X : Ctx} {o : Oper} {E : Env} {H : Heap} {v : Value} (h : Runs X o E H v) : Does X o E H (fun u H' => u = v ∧ H' = H) := by
  intro a w ha hw next Q k
  refine ⟨about_true, ?_⟩
  rw [Oper.semAt_eq _ _ _ h.1, h.2 a w ha hw]
  exact k v H w ⟨rfl, rfl⟩ hw

def wantedE (ops : Array Oper) (E : Env) (o : Oper) : Option Bool :=
  match o.guard with
  | none => some true
  | some (j, b) => match (ops[j]?).bind (·.dst) with
    | none => some false
    | some d => match gtE E d with
      | none => none
      | some (.bool c) => some (c == b)
      | some _ => some false
theorem wantedE_spec {X : Ctx} {ops : Array Oper} {E : Env} {o : Oper} {a : Act} {t : Bool} (ha : AE X E a) (h : wantedE ops E o = some t) : Region.wanted o (yielded ops a.tmps) = t := by
  unfold wantedE at h
  unfold Region.wanted
  cases hg : o.guard with
  | none => simp only [hg] at h ⊢; simpa using h
  | some x =>
    obtain ⟨j, b⟩ := x
    simp only [hg] at h ⊢
    unfold yielded
    cases hd : (ops[j]?).bind (·.dst) with
    | none => simp only [hd] at h; simp only [Option.bind_none]; simpa using h
    | some d =>
      simp only [hd] at h
      cases he : gtE E d with
      | none => simp [he] at h
      | some v =>
        have h1 := ha.env d v he
        simp only [Option.bind_some, h1]
        cases v <;> simp_all

section steps
variable {X : Ctx} {p : Post} {E : Env} {H : Heap} {ops : Array Oper} {o : Oper} {rest : List Oper}

theorem WL_do {d : Nat} {R : Value → Heap → Prop} (hg : wantedE ops E o = some true) (hd : o.dst = some d) (hN : Nat.blt d X.N = true) (h : Does X o E H R)
    (k : ∀ v H', R v H' → WL X ops p rest ((d, v) :: E) H') : WL X ops p (o :: rest) E H := by
  intro a w ha hw
  unfold wpListIn
  rw [if_pos (wantedE_spec ha hg)]
  exact h a w ha hw _ _ fun v H' w' hr hw' => k v H' hr _ _ (by rw [hd]; exact ha.put d v hN) hw'
theorem WL_do0 {R : Value → Heap → Prop} (hg : wantedE ops E o = some true) (hd : o.dst = none) (h : Does X o E H R)
    (k : ∀ v H', R v H' → WL X ops p rest E H') : WL X ops p (o :: rest) E H := by
  intro a w ha hw
  unfold wpListIn
  rw [if_pos (wantedE_spec ha hg)]
  exact h a w ha hw _ _ fun v H' w' hr hw' => k v H' hr _ _ (by rw [hd]; exact ha.put0 v) hw'
theorem WL_val {d : Nat} {v : Value} (hg : wantedE ops E o = some true) (hd : o.dst = some d) (hN : Nat.blt d X.N = true) (h : Runs X o E H v)
    (k : WL X ops p rest ((d, v) :: E) H) : WL X ops p (o :: rest) E H :=
  WL_do hg hd hN h.does fun u H' ⟨hu, hH⟩ => by rw [hu, hH]; exact k
theorem WL_skip {d : Nat} (hg : wantedE ops E o = some false) (hd : o.dst = some d) (hN : Nat.blt d X.N = true) (k : WL X ops p rest ((d, undef) :: E) H) : WL X ops p (o :: rest) E H := by
  intro a w ha hw
  unfold wpListIn
  rw [if_neg (by rw [wantedE_spec ha hg]; simp)]
  exact ⟨about_true, k _ _ (by rw [hd]; exact ha.put d undef hN) hw⟩
theorem WL_skip0 (hg : wantedE ops E o = some false) (hd : o.dst = none) (k : WL X ops p rest E H) : WL X ops p (o :: rest) E H := by
  intro a w ha hw
  unfold wpListIn
  rw [if_neg (by rw [wantedE_spec ha hg]; simp)]
  exact ⟨about_true, k _ _ (by rw [hd]; exact ha.put0 undef) hw⟩
theorem WL_split {s : Nat} {b : Bool} {l : List Oper} (h : gtE E s = some (.bool b)) (h1 : b = true → WL X ops p l ((s, .bool true) :: E) H) (h2 : b = false → WL X ops p l ((s, .bool false) :: E) H) : WL X ops p l E H := by
  have key : ∀ (c : Bool), b = c → ∀ a, AE X E a → AE X ((s, .bool c) :: E) a := fun c hc a ha => ⟨ha.size, ha.defers, fun t v ht => by
    rw [get_cons] at ht
    split at ht
    · rename_i e; subst e; cases ht; rw [← hc]; exact ha.env _ _ h
    · exact ha.env _ _ ht⟩
  intro a w ha hw
  cases hb : b with
  | true => exact h1 hb a w (key true hb a ha) hw
  | false => exact h2 hb a w (key false hb a ha) hw
theorem WL_splitD {s : Nat} {q : Prop} [Decidable q] {l : List Oper} (h : gtE E s = some (.bool (decide q))) (h1 : q → WL X ops p l ((s, .bool true) :: E) H) (h2 : ¬ q → WL X ops p l ((s, .bool false) :: E) H) : WL X ops p l E H :=
  WL_split h (fun e => h1 (of_decide_eq_true e)) (fun e => h2 (of_decide_eq_false e))
/-- A slot's value said otherwise. -/
theorem WL_set {s : Nat} {v v' : Value} {l : List Oper} (h : gtE E s = some v') (he : v' = v) (k : WL X ops p l ((s, v) :: E) H) : WL X ops p l E H := by
  subst he
  intro a w ha hw
  refine k a w ⟨ha.size, ha.defers, fun t v ht => ?_⟩ hw
  rw [get_cons] at ht
  split at ht
  · rename_i e; subst e; cases ht; exact ha.env _ _ h
  · exact ha.env _ _ ht
theorem WC_set {s : Nat} {v v' : Value} {c : Code} (h : gtE E s = some v') (he : v' = v) (k : WC X c p ((s, v) :: E) H) : WC X c p E H := by
  subst he
  intro a w ha hw
  refine k a w ⟨ha.size, ha.defers, fun t v ht => ?_⟩ hw
  rw [get_cons] at ht
  split at ht
  · rename_i e; subst e; cases ht; exact ha.env _ _ h
  · exact ha.env _ _ ht
end steps

/-! ### Short words for the steps that every walk asks for -/
theorem plZ {x : Ent} {H F : Heap} (h : Pull x H F := by repeat (first | exact Pull.head | apply Pull.tail)) : Pull x H F := h
theorem pqZ {A H F : Heap} (h : Pulls A H F := by repeat (first | exact Pulls.nil | exact Pulls.all | (apply Pulls.cons; (repeat (first | exact Pull.head | apply Pull.tail))) | apply Pulls.skip)) : Pulls A H F := h
theorem mmZ {x : Ent} {H : Heap} (h : x ∈ H := by repeat (first | exact List.Mem.head _ | refine List.Mem.tail _ ?_)) : x ∈ H := h
theorem leZ {A E : Env} (h : Le A E := by repeat (first | exact Le.nil | refine Le.cons rfl (by first | rfl | (congr 1; omega)) ?_)) : Lq A E := h.lq
theorem psZ {ds : List Nat} {B E : Env} (h : Pushed ds B E := by repeat (first | exact Pushed.refl | refine Pushed.push rfl ?_)) : Pushed ds B E := h

end Go.Proofs.Ytiokpmgbabpikaa
