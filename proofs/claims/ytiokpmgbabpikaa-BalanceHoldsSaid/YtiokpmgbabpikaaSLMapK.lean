/-
  Maps whose keys may be structs, ranges over a map that the loop does not write, and heaps with parts that are not told block by block.
-/
import Derived.Test.YtiokpmgbabpikaaSLMap
import Derived.Laws.IdiomRangeMap
set_option linter.unusedVariables false
set_option linter.unusedSimpArgs false
namespace Go.Proofs.Ytiokpmgbabpikaa

/-! ### Parts of a heap that stay as they are -/
theorem Pull.app {x : Ent} {B B' : Heap} (h : Pull x B B') : ∀ A : Heap, Pull x (A ++ B) (A ++ B')
  | [] => h
  | _ :: A => .tail (Pull.app h A)
theorem Pulls.app {ys B F : Heap} (h : Pulls ys B F) : ∀ A : Heap, Pulls (A ++ ys) (A ++ B) F
  | [] => h
  | _ :: A => .cons .head (Pulls.app h A)
theorem Pulls.skipA {xs B F : Heap} (h : Pulls xs B F) : ∀ A : Heap, Pulls xs (A ++ B) (A ++ F)
  | [] => h
  | _ :: A => .skip (Pulls.skipA h A)
theorem Pulls.appE (A B : Heap) : Pulls A (A ++ B) B := by
  have := Pulls.app (ys := []) (B := B) (F := B) .nil A
  rw [List.append_nil] at this; exact this
/-- A part of a heap taken out as a whole, wherever it lies. -/
inductive PullA (A : Heap) : Heap → Heap → Prop
  | here {B : Heap} : PullA A (A ++ B) B
  | all : PullA A A []
  | tail {y : Ent} {l l' : Heap} : PullA A l l' → PullA A (y :: l) (y :: l')
  | app {l l' : Heap} (C : Heap) : PullA A l l' → PullA A (C ++ l) (C ++ l')
theorem PullA.perm {A H F : Heap} (h : PullA A H F) : H.Perm (A ++ F) := by
  induction h with
  | here => exact .refl _
  | all => simp
  | tail _ ih => exact (List.Perm.cons _ ih).trans List.perm_middle.symm
  | app C _ ih =>
    refine (List.Perm.append_left C ih).trans ?_
    rw [← List.append_assoc, ← List.append_assoc]
    exact List.Perm.append_right _ List.perm_append_comm
theorem Pulls.chunk {A xs H H1 F : Heap} (h : PullA A H H1) (k : Pulls xs H1 F) : Pulls (A ++ xs) H F :=
  .ofPerm (h.perm.trans (by rw [List.append_assoc]; exact List.Perm.append_left A k.perm))
theorem Pulls.chunk1 {A H F : Heap} (h : PullA A H F) : Pulls A H F := .ofPerm h.perm
theorem Pull.assoc {x : Ent} {A B C F : Heap} (h : Pull x (A ++ (B ++ C)) F) : Pull x ((A ++ B) ++ C) F := by rw [List.append_assoc]; exact h
theorem PullA.assoc {X A B C F : Heap} (h : PullA X (A ++ (B ++ C)) F) : PullA X ((A ++ B) ++ C) F := by rw [List.append_assoc]; exact h
theorem Pulls.assoc {xs A B C F : Heap} (h : Pulls xs (A ++ (B ++ C)) F) : Pulls xs ((A ++ B) ++ C) F := by rw [List.append_assoc]; exact h
theorem Pulls.assocX {A B C H F : Heap} (h : Pulls (A ++ (B ++ C)) H F) : Pulls ((A ++ B) ++ C) H F := by rw [List.append_assoc]; exact h
theorem mem_assoc {x : Ent} {A B C : Heap} (h : x ∈ A ++ (B ++ C)) : x ∈ (A ++ B) ++ C := by rw [List.append_assoc]; exact h
theorem plY {x : Ent} {H F : Heap} (h : Pull x H F := by repeat (first | exact Pull.head | apply Pull.tail | apply Pull.assoc | apply Pull.app)) : Pull x H F := h
theorem pqY {A H F : Heap} (h : Pulls A H F := by repeat (first | exact Pulls.nil | exact Pulls.all | (apply Pulls.cons; (repeat (first | exact Pull.head | apply Pull.tail | apply Pull.assoc | apply Pull.app))) | apply Pulls.assocX | (apply Pulls.chunk; (repeat (first | exact PullA.here | exact PullA.all | apply PullA.tail | apply PullA.assoc | apply PullA.app))) | exact Pulls.appE _ _ | apply Pulls.skip | apply Pulls.assoc | apply Pulls.skipA)) : Pulls A H F := h
theorem mmY {x : Ent} {H : Heap} (h : x ∈ H := by repeat (first | exact List.Mem.head _ | refine List.Mem.tail _ ?_ | refine mem_assoc ?_ | refine List.mem_append_right _ ?_)) : x ∈ H := h
theorem HW.rebase {H H2 H' : Heap} {w w' : World} (hp : H2.Perm H) (r : HW H w H' w') : HW H2 w H' w' :=
  ⟨r.hok, r.os, r.tape, r.output, r.size, fun k hk hn => r.kept k hk (fun h => hn ((keys_perm hp).mem_iff.2 h)), fun k hk => (r.own k hk).imp (fun h => (keys_perm hp).mem_iff.2 h) id, r.dr⟩
theorem Spec.fr {P : Program} {f : FuncId} {args : List Value} {H : Heap} {post : Value → Heap → Prop} (h : Spec P f args H post) (F : Heap) : Spec P f args (H ++ F) (fun v H' => ∃ H1, post v H1 ∧ H' = H1 ++ F) :=
  ⟨h.enters, fun w hw => (h.calls w hw.left).mono fun e w' ⟨v, H', e1, p, r⟩ => ⟨v, H' ++ F, e1, ⟨H', p, rfl⟩, HW.frame (HW.start hw) (.refl _) r⟩⟩
theorem Spec.perm {P : Program} {f : FuncId} {args : List Value} {H H2 : Heap} {post : Value → Heap → Prop} (h : Spec P f args H post) (hp : H2.Perm H) : Spec P f args H2 post :=
  ⟨h.enters, fun w hw => (h.calls w (hw.perm hp)).mono fun e w' ⟨v, H', e1, p, r⟩ => ⟨v, H', e1, p, r.rebase hp⟩⟩

theorem Spec.re {P : Program} {f : FuncId} {args : List Value} {H : Heap} {post : Value → Heap → Prop} (h : Spec P f args H (fun r H' => ∃ H1, H'.Perm H1 ∧ post r H1)) : Spec P f args H post :=
  ⟨h.enters, fun w hw => (h.calls w hw).mono fun e w' ⟨v, H', e1, ⟨H1, p, q⟩, r⟩ => ⟨v, H1, e1, q, r.perm p⟩⟩

/-! ### Keys of any type -/
/-- Keys of a map's type, as the model handles them. -/
structure KeyOk (P : Program) (kt : TypeId) {κ : Type} (ek : κ → Value) : Prop where
  chk : ∀ (em : Bool) (k : κ) (w : World), (Instr.checkKey em 10000 kt (ek k)).run P w = .ok () w
  find : ∀ (k : κ) (l : List MapEntry) (w : World), (∀ x ∈ l, ∃ k', x.key = ek k') → ∃ r, (Instr.findKey kt (ek k) l).run P w = .ok r w ∧ ((r = none ∧ ∀ x ∈ l, x.key ≠ ek k) ∨ ∃ (j : Nat) (e : MapEntry), r = some (j, e.val) ∧ l[j]? = some e ∧ e.key = ek k)
  inj : ∀ a b, ek a = ek b → a = b
/-- What lies in a map, with the stamps of its entries. -/
structure Mk {κ α : Type} (ek : κ → Value) (ev : α → Value) (es : Array MapEntry) (c : Nat) (L : List (κ × α)) : Prop where
  perm : (es.toList.map fun e => (e.key, e.val)).Perm (L.map fun x => (ek x.1, ev x.2))
  nodup : (L.map (·.1)).Nodup
  born : ∀ e ∈ es.toList, e.born < c
  bnd : (es.toList.map (·.born)).Nodup
section
variable {κ α : Type} {P : Program} {kt : TypeId} {ek : κ → Value} {ev : α → Value} {es : Array MapEntry} {c : Nat} {L L' : List (κ × α)}
theorem Mk.empty : Mk ek ev #[] 0 ([] : List (κ × α)) := ⟨by simp, by simp, by simp, by simp⟩
theorem Mk.to (h : Mk ek ev es c L) (p : L.Perm L') : Mk ek ev es c L' := ⟨h.perm.trans (p.map _), (p.map _).nodup_iff.1 h.nodup, h.born, h.bnd⟩
theorem Mk.has (h : Mk ek ev es c L) {x : κ × α} (hx : x ∈ L) : ∃ e ∈ es.toList, e.key = ek x.1 ∧ e.val = ev x.2 := by
  have : (ek x.1, ev x.2) ∈ es.toList.map fun e => (e.key, e.val) := h.perm.mem_iff.2 (List.mem_map.2 ⟨x, hx, rfl⟩)
  obtain ⟨e, he, hh⟩ := List.mem_map.1 this
  exact ⟨e, he, congrArg Prod.fst hh, congrArg Prod.snd hh⟩
theorem Mk.back (h : Mk ek ev es c L) {e : MapEntry} (he : e ∈ es.toList) : ∃ x ∈ L, e.key = ek x.1 ∧ e.val = ev x.2 := by
  have : (e.key, e.val) ∈ L.map fun x => (ek x.1, ev x.2) := h.perm.mem_iff.1 (List.mem_map.2 ⟨e, he, rfl⟩)
  obtain ⟨x, hx, hh⟩ := List.mem_map.1 this
  exact ⟨x, hx, (congrArg Prod.fst hh).symm, (congrArg Prod.snd hh).symm⟩
theorem Mk.keys (h : Mk ek ev es c L) : ∀ x ∈ es.toList, ∃ k', x.key = ek k' := fun x hx => by
  obtain ⟨y, _, e1, _⟩ := h.back hx
  exact ⟨y.1, e1⟩
theorem Mk.find (K : KeyOk P kt ek) (h : Mk ek ev es c L) {k : κ} {a : α} (hx : (k, a) ∈ L) (w : World) : ∃ j, (Instr.findKey kt (ek k) es.toList).run P w = .ok (some (j, ev a)) w := by
  obtain ⟨r, h1, h2⟩ := K.find k es.toList w h.keys
  rcases h2 with ⟨_, h2⟩ | ⟨j, e, rfl, h2, h3⟩
  · obtain ⟨e, he, hk, _⟩ := h.has hx
    exact absurd hk (h2 e he)
  · obtain ⟨⟨k', b⟩, hy, e1, e2⟩ := h.back (List.mem_of_getElem? h2)
    obtain rfl := K.inj _ _ (e1.symm.trans h3)
    obtain rfl := key_uniq h.nodup hx hy
    exact ⟨j, by rw [h1, e2]⟩
theorem Mk.none (K : KeyOk P kt ek) (h : Mk ek ev es c L) {k : κ} (hx : k ∉ L.map (·.1)) (w : World) : (Instr.findKey kt (ek k) es.toList).run P w = .ok none w := by
  obtain ⟨r, h1, h2⟩ := K.find k es.toList w h.keys
  rcases h2 with ⟨rfl, _⟩ | ⟨j, e, rfl, h2, h3⟩
  · exact h1
  · obtain ⟨⟨k', b⟩, hy, e1, _⟩ := h.back (List.mem_of_getElem? h2)
    obtain rfl := K.inj _ _ (e1.symm.trans h3)
    exact absurd (List.mem_map.2 ⟨_, hy, rfl⟩) hx
theorem Mk.add (h : Mk ek ev es c L) {k : κ} (a : α) (hx : k ∉ L.map (·.1)) : Mk ek ev (es.push { key := ek k, val := ev a, born := c }) (c + 1) ((k, a) :: L) := by
  refine ⟨?_, by simpa using ⟨by simpa using hx, h.nodup⟩, fun e he => ?_, ?_⟩
  · rw [Array.toList_push, List.map_append]
    exact List.perm_append_comm.trans (.cons _ h.perm)
  · rw [Array.toList_push, List.mem_append, List.mem_singleton] at he
    rcases he with he | rfl
    · exact Nat.lt_succ_of_lt (h.born e he)
    · exact Nat.lt_succ_self c
  · rw [Array.toList_push, List.map_append, List.nodup_append]
    refine ⟨h.bnd, by simp, fun x hx y hy => ?_⟩
    obtain ⟨e, he, rfl⟩ := List.mem_map.1 hx
    have := h.born e he
    simp at hy
    omega
end
section
variable {X : Ctx} {E : Env} {H F : Heap} {o : Oper} {κ α : Type} {ek : κ → Value} {ev : α → Value} {es : Array MapEntry} {c b : Nat} {L : List (κ × α)} {mt kt et : TypeId} {x y z : Operand}
/-- v := m[k] -/
theorem R_lookK {k : κ} {a : α} (ho : o.op = .lookup mt x y false) (hu : X.P.underlying mt = some (.map kt et)) (K : KeyOk X.P kt ek) (hx : Go.Proofs.Ytiokpmgbabpikaa.ev E x = some (.map (some b))) (hy : Go.Proofs.Ytiokpmgbabpikaa.ev E y = some (ek k)) (hm : (⟨some b, .map es c⟩ : Ent) ∈ H) (hM : Mk ek ev es c L) (hin : (k, a) ∈ L) :
    Runs X o E H (ev a) :=
  ⟨(by rw [ho]; intro c e; cases e), fun A w ha hw => by
    obtain ⟨j, h1⟩ := hM.find K hin w
    have hl : (Instr.lookup mt (.map (some b)) (ek k) false).run X.P w = .ok (ev a) w := by
      simp [Instr.lookup, run_underlying hu, MapKept.run_getObj_map (hw.mapAt hm), K.chk, h1, Result.andThen]
    simp [execOp, ho, ha.eval hx, ha.eval hy, hl]⟩
theorem R_lookK0 {k : κ} {zv : Value} (ho : o.op = .lookup mt x y false) (hu : X.P.underlying mt = some (.map kt et)) (K : KeyOk X.P kt ek) (hx : Go.Proofs.Ytiokpmgbabpikaa.ev E x = some (.map (some b))) (hy : Go.Proofs.Ytiokpmgbabpikaa.ev E y = some (ek k)) (hm : (⟨some b, .map es c⟩ : Ent) ∈ H) (hM : Mk ek ev es c L) (hin : k ∉ L.map (·.1))
    (hz : ∀ w, (zeroValue et).run X.P w = .ok zv w) : Runs X o E H zv :=
  ⟨(by rw [ho]; intro c e; cases e), fun A w ha hw => by
    have h1 := hM.none K hin w
    have hl : (Instr.lookup mt (.map (some b)) (ek k) false).run X.P w = .ok zv w := by
      simp [Instr.lookup, run_underlying hu, MapKept.run_getObj_map (hw.mapAt hm), K.chk, h1, hz, Result.andThen]
    simp [execOp, ho, ha.eval hx, ha.eval hy, hl]⟩
/-- m[k] = v, of a key that does not lie there. -/
theorem D_mapAddK {k : κ} {v : α} (ho : o.op = .mapUpdate mt x y z) (hu : X.P.underlying mt = some (.map kt et)) (K : KeyOk X.P kt ek) (hx : Go.Proofs.Ytiokpmgbabpikaa.ev E x = some (.map (some b))) (hy : Go.Proofs.Ytiokpmgbabpikaa.ev E y = some (ek k)) (hz : Go.Proofs.Ytiokpmgbabpikaa.ev E z = some (ev v)) (hp : Pull ⟨some b, .map es c⟩ H F) (hM : Mk ek ev es c L) (hin : k ∉ L.map (·.1)) :
    Does X o E H (fun _ H' => ∃ es', Mk ek ev es' (c + 1) ((k, v) :: L) ∧ H' = ⟨some b, .map es' (c + 1)⟩ :: F) := by
  intro A w ha hw next Q kk
  refine ⟨about_true, ?_⟩
  rw [semAt_of (by rw [ho]; intro c e; cases e)]
  have hb := hw.mapAt (pull_mem hp)
  have h1 := hM.none K hin w
  have hrun : (execOp A.eval o).run X.P w = .ok .skip { w with heap := w.heap.setIfInBounds b (.map (es.push { key := ek k, val := ev v, born := c }) (c + 1)) } := by
    simp [execOp, ho, ha.eval hx, ha.eval hy, ha.eval hz, Instr.mapUpdate, run_underlying hu, MapKept.run_getObj_map hb, K.chk, h1, MapKept.run_setObj_map _ hb, Result.andThen]
  rw [hrun]
  exact kk undef _ _ ⟨_, hM.add v hin, rfl⟩ (hw.turnMap hp)
/-! ### for k, v := range m -/
theorem D_rangeMap (ho : o.op = .range mt x) (hu : X.P.underlying mt = some (.map kt et)) (hx : Go.Proofs.Ytiokpmgbabpikaa.ev E x = some (.map (some b))) (hm : (⟨some b, .map es c⟩ : Ent) ∈ H) :
    Does X o E H (fun v H' => ∃ bi, v = .pointer (some ⟨bi, 0, none⟩) ∧ H' = ⟨some bi, .mapIter (some b) c #[] c⟩ :: H) := by
  intro A w ha hw next Q kk
  refine ⟨about_true, ?_⟩
  rw [semAt_of (by rw [ho]; intro c e; cases e)]
  have hrun : (execOp A.eval o).run X.P w = .ok (.value (.pointer (some ⟨w.heap.size, 0, none⟩))) (w.alloc (.mapIter (some b) c #[] c)) := by
    simp [execOp, ho, ha.eval hx, run_range_map w mt kt et b es c hu (hw.mapAt hm)]
  rw [hrun]
  exact kk _ _ _ ⟨_, rfl, rfl⟩ (hw.alloc _)
theorem run_choose_next {P : Program} (w : World) {n : Nat} (hn : 0 < n) : ∃ j w1, j < n ∧ (w1 = w ∨ w1 = { w with drawn := w.drawn + 1 }) ∧ (choose (.mapNext n)).run P w = .ok j w1 := by
  by_cases hf : n ≤ 1
  · exact ⟨0, w, hn, .inl rfl, by simp [choose, Sem.run, Question.forced, hf]⟩
  · exact ⟨_, _, Nat.mod_lt _ hn, .inr rfl, by
      simp only [choose, Sem.run, Question.forced, decide_eq_true_eq, hf, if_false, Question.cut]
      rfl⟩
/-- The next entry, whichever; or none is left. -/
theorem D_nextMap {bi : Nat} {seen : Array Nat} (ho : o.op = .next x false) (hx : Go.Proofs.Ytiokpmgbabpikaa.ev E x = some (.pointer (some ⟨bi, 0, none⟩))) (hp : Pull ⟨some bi, .mapIter (some b) c seen c⟩ H F) (hm : (⟨some b, .map es c⟩ : Ent) ∈ H) (hb : ∀ e ∈ es.toList, e.born < c) :
    Does X o E H (fun v H' => (v = .tuple #[.bool false] ∧ H' = ⟨some bi, .mapIter (some b) c seen c⟩ :: F ∧ ∀ e ∈ es.toList, e.born ∈ seen) ∨ ∃ e ∈ es.toList, e.born ∉ seen ∧ v = .tuple #[.bool true, e.key, e.val] ∧ H' = ⟨some bi, .mapIter (some b) c (seen.push e.born) c⟩ :: F) := by
  intro A w ha hw next Q kk
  refine ⟨about_true, ?_⟩
  rw [semAt_of (by rw [ho]; intro c e; cases e)]
  have hmb := hw.mapAt hm
  have hw1 := hw.perm hp.perm
  have hib : w.heap[bi]? = some (.mapIter (some b) c seen c) := by
    have := hw1.hok.ok _ (List.mem_cons_self ..)
    simpa [Ent.ok] using this
  have hex : ∀ r, (Instr.next (.pointer (some ⟨bi, 0, none⟩)) false o.type).run X.P w = r → (execOp A.eval o).run X.P w = (r.andThen fun v w' => .ok (.value v) w') := fun r hr => by
    simp [execOp, ho, ha.eval hx, hr]
  have hg : (getObj bi).run X.P w = .ok (.mapIter (some b) c seen c) w := by simp [getObj, Sem.run, hib]
  have hg2 : (getObj b).run X.P w = .ok (.map es c) w := MapKept.run_getObj_map hmb
  have htest := next_test_false seen es c c hb (Nat.le_refl _)
  have e1 : (es.filter fun e => !seen.contains e.born).filter (fun x => decide (x.born < c)) = es.filter fun e => !seen.contains e.born := Array.filter_eq_self.2 (fun x hx => by
    have : x ∈ es.toList := by simp at hx ⊢; exact hx.1
    simpa using hb x this)
  have e2 : (es.filter fun e => !seen.contains e.born).filter (fun x => decide (x.born ≥ c)) = #[] := by
    rw [Array.filter_eq_empty_iff]
    intro x hx
    have : x ∈ es.toList := by simp at hx ⊢; exact hx.1
    have := hb x this
    simp
    omega
  have hmem : ∀ e, e ∈ es.filter (fun e => !seen.contains e.born) ↔ e ∈ es.toList ∧ e.born ∉ seen := fun e => by simp
  have hn : (Instr.next (.pointer (some ⟨bi, 0, none⟩)) false o.type).run X.P w = (if (es.filter fun e => !seen.contains e.born).isEmpty then .ok (.tuple #[.bool false]) w else
      (do let j ← choose (.mapNext (es.filter fun e => !seen.contains e.born).size)
          match ((es.filter fun e => !seen.contains e.born).map some)[j]? with
          | some (some e) => do
            setObj bi (.mapIter (some b) c (seen.push e.born) c)
            pure (.tuple #[.bool true, e.key, e.val])
          | some none => pure (.tuple #[.bool false])
          | none => stuck "Next: no such candidate" : Sem Value).run X.P w) := by
    simp only [Instr.next, Sem.run_bind, hg, hg2, Result.andThen_ok, htest, Bool.false_eq_true, if_false, e1, e2, Array.append_empty]
    by_cases h0 : (es.filter fun e => !seen.contains e.born).isEmpty = true
    · have : (es.filter fun e => !seen.contains e.born) = #[] := by simpa using h0
      rw [this]
      simp [choose, Sem.run, Question.forced, Result.andThen]
    · simp only [h0, if_false, Array.empty_append, Array.size_map, Bool.false_eq_true]
      rfl
  generalize es.filter (fun e => !seen.contains e.born) = Lf at hmem hn
  by_cases h0 : Lf.isEmpty = true
  · rw [if_pos h0] at hn
    rw [hex _ hn]
    refine kk _ _ _ (.inl ⟨rfl, rfl, fun e he => ?_⟩) hw1
    have hLe : Lf = #[] := by simpa using h0
    by_cases hs : e.born ∈ seen
    · exact hs
    · have := (hmem e).2 ⟨he, hs⟩
      rw [hLe] at this
      simp at this
  · rw [if_neg h0] at hn
    have hpos : 0 < Lf.size := by
      rcases Nat.eq_zero_or_pos Lf.size with h | h
      · exact absurd (by simpa using Array.eq_empty_of_size_eq_zero h) h0
      · exact h
    obtain ⟨j, w1, hj, hw1e, hrun⟩ := run_choose_next (P := X.P) w hpos
    have hb1 : Bel w w1 := by
      rcases hw1e with rfl | rfl
      · exact Bel.refl _
      · exact Bel.drew' w
    have hw2 := hw.bel hb1
    have hw2p := hw2.perm hp.perm
    have hlt : bi < w1.heap.size := hw2p.hok.lt (by simp [keys])
    have hib1 : w1.heap[bi]? = some (.mapIter (some b) c seen c) := by
      have := hw2p.hok.ok _ (List.mem_cons_self ..)
      simpa [Ent.ok] using this
    have hset : (setObj bi (.mapIter (some b) c (seen.push Lf[j].born) c)).run X.P w1 = .ok () { w1 with heap := w1.heap.setIfInBounds bi (.mapIter (some b) c (seen.push Lf[j].born) c) } := by
      simp only [setObj, Sem.run, hib1]
    have hn2 : (Instr.next (.pointer (some ⟨bi, 0, none⟩)) false o.type).run X.P w = .ok (.tuple #[.bool true, Lf[j].key, Lf[j].val]) { w1 with heap := w1.heap.setIfInBounds bi (.mapIter (some b) c (seen.push Lf[j].born) c) } := by
      rw [hn]
      simp only [Sem.run_bind, hrun, Result.andThen_ok, Array.getElem?_map, Array.getElem?_eq_getElem hj, Option.map_some, hset, Sem.run_pure]
    rw [hex _ hn2]
    have hin := (hmem Lf[j]).1 (Array.getElem_mem hj)
    refine kk _ _ _ (.inr ⟨Lf[j], hin.1, hin.2, rfl, rfl⟩) (hw2.turn hp (by simp) ?_ (fun k hk => ?_) rfl rfl rfl)
    · simp [Array.getElem?_setIfInBounds, hlt]
    · simp [Array.getElem?_setIfInBounds, Ne.symm hk]
/-- The key and the value of the round. -/
theorem R_entryMap {bi : Nat} {seen : Array Nat} {e : MapEntry} (ho : o.op = .entry x) (hx : Go.Proofs.Ytiokpmgbabpikaa.ev E x = some (.pointer (some ⟨bi, 0, none⟩))) (hi : (⟨some bi, .mapIter (some b) c (seen.push e.born) c⟩ : Ent) ∈ H) (hm : (⟨some b, .map es c⟩ : Ent) ∈ H) (he : e ∈ es.toList) (hn : (es.toList.map (·.born)).Nodup) : Runs X o E H (.tuple #[e.key, e.val]) :=
  ⟨(by rw [ho]; intro c e; cases e), fun A w ha hw => by
    have hmb := hw.mapAt hm
    have hib : w.heap[bi]? = some (.mapIter (some b) c (seen.push e.born) c) := by
      have := hw.hok.ok _ hi
      simpa [Ent.ok] using this
    have hg : (getObj bi).run X.P w = .ok (.mapIter (some b) c (seen.push e.born) c) w := by simp [getObj, Sem.run, hib]
    have hg2 : (getObj b).run X.P w = .ok (.map es c) w := MapKept.run_getObj_map hmb
    have hf : es.find? (·.born == e.born) = some e := by rw [← Array.find?_toList]; exact find_born e es.toList hn he
    have hl : (Instr.entry (.pointer (some ⟨bi, 0, none⟩))).run X.P w = .ok (.tuple #[e.key, e.val]) w := by
      simp only [Instr.entry, Sem.run_bind, hg, hg2, Result.andThen_ok, Array.back?_push, bne_self_eq_false, Bool.false_eq_true, if_false, hf]
      rfl
    simp [execOp, ho, ha.eval hx, hl]⟩
end
end Go.Proofs.Ytiokpmgbabpikaa
