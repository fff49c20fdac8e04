/-
  Maps: what a map holds is a list of keys and values, in any order; lookup, update, delete, len, clone. Interfaces that hold a value; rows of the model.
-/
import Derived.Test.YtiokpmgbabpikaaSLMarks
import Derived.Test.YtiokpmgbabpikaaSLBirth
import Derived.MapKept
import GoSem.Extern.MapsClone
namespace Go.Proofs.Ytiokpmgbabpikaa
open Go.MapKept (IsKey)

/-- What lies in a map. -/
structure Mp {κ α : Type} (d : TypeDesc) (ek : κ → Value) (ev : α → Value) (es : Array MapEntry) (L : List (κ × α)) : Prop where
  perm : (es.toList.map fun e => (e.key, e.val)).Perm (L.map fun x => (ek x.1, ev x.2))
  nodup : (L.map (·.1)).Nodup
  key : ∀ k, IsKey d (ek k)
  inj : ∀ a b, ek a = ek b → a = b
section
variable {κ α : Type} {d : TypeDesc} {ek : κ → Value} {ev : α → Value} {es : Array MapEntry} {L L' : List (κ × α)}
theorem Mp.empty (hk : ∀ k, IsKey d (ek k)) (hi : ∀ a b, ek a = ek b → a = b) : Mp d ek ev #[] ([] : List (κ × α)) := ⟨by simp, by simp, hk, hi⟩
theorem Mp.to (h : Mp d ek ev es L) (p : L.Perm L') : Mp d ek ev es L' := ⟨h.perm.trans (p.map _), (p.map _).nodup_iff.1 h.nodup, h.key, h.inj⟩
theorem Mp.size (h : Mp d ek ev es L) : es.size = L.length := by
  have := h.perm.length_eq
  simpa using this
theorem Mp.keys (h : Mp d ek ev es L) : ∀ x ∈ es.toList, IsKey d x.key := fun x hx => by
  have : (x.key, x.val) ∈ L.map fun x => (ek x.1, ev x.2) := h.perm.mem_iff.1 (List.mem_map.2 ⟨x, hx, rfl⟩)
  obtain ⟨y, _, e⟩ := List.mem_map.1 this
  have e1 : ek y.1 = x.key := congrArg Prod.fst e
  rw [← e1]; exact h.key _
theorem Mp.has (h : Mp d ek ev es L) {x : κ × α} (hx : x ∈ L) : ∃ e ∈ es.toList, e.key = ek x.1 ∧ e.val = ev x.2 := by
  have : (ek x.1, ev x.2) ∈ es.toList.map fun e => (e.key, e.val) := h.perm.mem_iff.2 (List.mem_map.2 ⟨x, hx, rfl⟩)
  obtain ⟨e, he, hh⟩ := List.mem_map.1 this
  exact ⟨e, he, congrArg Prod.fst hh, congrArg Prod.snd hh⟩
theorem Mp.back (h : Mp d ek ev es L) {e : MapEntry} (he : e ∈ es.toList) : ∃ x ∈ L, e.key = ek x.1 ∧ e.val = ev x.2 := by
  have : (e.key, e.val) ∈ L.map fun x => (ek x.1, ev x.2) := h.perm.mem_iff.1 (List.mem_map.2 ⟨e, he, rfl⟩)
  obtain ⟨x, hx, hh⟩ := List.mem_map.1 this
  exact ⟨x, hx, (congrArg Prod.fst hh).symm, (congrArg Prod.snd hh).symm⟩
theorem key_uniq {L : List (κ × α)} (h : (L.map (·.1)).Nodup) {k : κ} {a b : α} (ha : (k, a) ∈ L) (hb : (k, b) ∈ L) : a = b := by
  induction L with
  | nil => cases ha
  | cons x L ih =>
    rw [List.map_cons, List.nodup_cons] at h
    rcases List.mem_cons.1 ha with e1 | ha2
    · rcases List.mem_cons.1 hb with e2 | hb2
      · have := e1.trans e2.symm; exact congrArg Prod.snd this
      · exact absurd (List.mem_map.2 ⟨(k, b), hb2, (congrArg Prod.fst e1 : k = x.1)⟩) h.1
    · rcases List.mem_cons.1 hb with e2 | hb2
      · exact absurd (List.mem_map.2 ⟨(k, a), ha2, (congrArg Prod.fst e2 : k = x.1)⟩) h.1
      · exact ih h.2 ha2 hb2
theorem Mp.find (h : Mp d ek ev es L) {k : κ} {a : α} (hx : (k, a) ∈ L) : ∃ j e, Instr.findNow d (ek k) es.toList 0 = some (some (j, ev a)) ∧ es.toList[j]? = some e ∧ e.key = ek k := by
  rcases MapKept.findNow_spec (h.key k) es.toList 0 h.keys with ⟨_, h2⟩ | ⟨j, e, h1, h2, h3⟩
  · obtain ⟨e, he, hk, _⟩ := h.has hx
    exact absurd hk (h2 e he)
  · obtain ⟨⟨k', b⟩, hy, e1, e2⟩ := h.back (List.mem_of_getElem? h2)
    obtain rfl := h.inj _ _ (e1.symm.trans h3)
    obtain rfl := key_uniq h.nodup hx hy
    exact ⟨j, e, by rw [h1, Nat.zero_add, e2], h2, h3⟩
theorem Mp.none (h : Mp d ek ev es L) {k : κ} (hx : k ∉ L.map (·.1)) : Instr.findNow d (ek k) es.toList 0 = some none ∧ ∀ e ∈ es.toList, e.key ≠ ek k := by
  rcases MapKept.findNow_spec (h.key k) es.toList 0 h.keys with h1 | ⟨j, e, _, h2, h3⟩
  · exact h1
  · obtain ⟨⟨k', b⟩, hy, e1, _⟩ := h.back (List.mem_of_getElem? h2)
    obtain rfl := h.inj _ _ (e1.symm.trans h3)
    exact absurd (List.mem_map.2 ⟨_, hy, rfl⟩) hx
theorem Mp.add (h : Mp d ek ev es L) {k : κ} (a : α) (c : Nat) (hx : k ∉ L.map (·.1)) : Mp d ek ev (es.push { key := ek k, val := ev a, born := c }) ((k, a) :: L) := by
  refine ⟨?_, by simpa using ⟨by simpa using hx, h.nodup⟩, h.key, h.inj⟩
  rw [Array.toList_push, List.map_append]
  exact List.perm_append_comm.trans (.cons _ h.perm)
theorem perm_middle_split {β : Type} {l : List β} {j : Nat} {e : β} (h : l[j]? = some e) : ∃ s t, l = s ++ e :: t ∧ s.length = j := by
  obtain ⟨hl, rfl⟩ := List.getElem?_eq_some_iff.1 h
  exact ⟨l.take j, l.drop (j + 1), by rw [List.getElem_cons_drop, List.take_append_drop], by simp; omega⟩
theorem modify_at {β : Type} (f : β → β) : ∀ (s t : List β) (e : β), (s ++ e :: t).modify s.length f = s ++ f e :: t
  | [], t, e => by simp
  | x :: s, t, e => by simpa using modify_at f s t e
theorem Mp.split (h : Mp d ek ev es L) {k : κ} {a : α} (hx : (k, a) ∈ L) {j : Nat} {e : MapEntry} (hj : es.toList[j]? = some e) (he : e.key = ek k) :
    ∃ s t A B, es.toList = s ++ e :: t ∧ s.length = j ∧ L = A ++ (k, a) :: B ∧ ((s ++ t).map fun e => (e.key, e.val)).Perm ((A ++ B).map fun x => (ek x.1, ev x.2)) := by
  obtain ⟨s, t, hs, hl⟩ := perm_middle_split hj
  obtain ⟨A, B, hL⟩ := List.append_of_mem hx
  refine ⟨s, t, A, B, hs, hl, hL, ?_⟩
  obtain ⟨⟨k', b⟩, hy, e1, e2⟩ := h.back (List.mem_of_getElem? hj)
  obtain rfl := h.inj _ _ (e1.symm.trans he)
  obtain rfl := key_uniq h.nodup hx hy
  have hp := h.perm
  rw [hs, hL] at hp
  simp only [List.map_append, List.map_cons] at hp ⊢
  have h1 := List.perm_middle.symm.trans (hp.trans List.perm_middle)
  rw [e1, e2] at h1
  exact List.Perm.cons_inv h1
theorem split_ne {A B : List (κ × α)} {k : κ} {a : α} (h : ((A ++ (k, a) :: B).map (·.1)).Nodup) : ∀ x ∈ A ++ B, x.1 ≠ k := by
  have h1 := ((List.perm_middle (l₁ := A) (a := (k, a)) (l₂ := B)).map (fun x : κ × α => x.1)).nodup_iff.1 h
  rw [List.map_cons, List.nodup_cons] at h1
  intro x hx e
  exact h1.1 (List.mem_map.2 ⟨x, hx, e⟩)
/-- What lies there after a key's value is set anew; after a key is taken out. -/
def setL [DecidableEq κ] (L : List (κ × α)) (k : κ) (a : α) : List (κ × α) := L.map fun x => if x.1 = k then (k, a) else x
def delL [DecidableEq κ] (L : List (κ × α)) (k : κ) : List (κ × α) := L.filter fun x => decide (x.1 ≠ k)
theorem setL_same [DecidableEq κ] {A : List (κ × α)} {k : κ} {a : α} (h : ∀ x ∈ A, x.1 ≠ k) : setL A k a = A := by
  induction A with
  | nil => rfl
  | cons x A ih =>
    show (if x.1 = k then (k, a) else x) :: setL A k a = _
    rw [if_neg (h x (List.mem_cons_self ..)), ih (fun y hy => h y (List.mem_cons_of_mem _ hy))]
theorem Mp.set [DecidableEq κ] (h : Mp d ek ev es L) {k : κ} {a : α} (b : α) (hx : (k, a) ∈ L) {j : Nat} {e : MapEntry} (hj : es.toList[j]? = some e) (he : e.key = ek k) :
    Mp d ek ev (es.modify j fun e => { e with key := ek k, val := ev b }) (setL L k b) := by
  obtain ⟨s, t, A, B, hs, hl, hL, hp⟩ := h.split hx hj he
  have hnd := h.nodup
  subst hL
  have hne := split_ne hnd
  have hA : setL A k b = A := setL_same fun x hx => hne x (List.mem_append_left _ hx)
  have hB : setL B k b = B := setL_same fun x hx => hne x (List.mem_append_right _ hx)
  have hset : setL (A ++ (k, a) :: B) k b = A ++ (k, b) :: B := by
    show List.map _ _ = _
    rw [List.map_append, List.map_cons, if_pos rfl]
    exact congr (congrArg _ hA) (congrArg _ hB)
  rw [hset]
  refine ⟨?_, by simpa using hnd, h.key, h.inj⟩
  have hm : (es.modify j fun e => { e with key := ek k, val := ev b }).toList = s ++ { e with key := ek k, val := ev b } :: t := by
    rw [Array.toList_modify, hs]
    subst hl
    exact modify_at _ s t e
  rw [hm]
  simp only [List.map_append, List.map_cons] at hp ⊢
  exact List.perm_middle.trans ((List.Perm.cons _ hp).trans List.perm_middle.symm)
theorem Mp.del [DecidableEq κ] (h : Mp d ek ev es L) {k : κ} {a : α} (hx : (k, a) ∈ L) {j : Nat} {e : MapEntry} (hj : es.toList[j]? = some e) (he : e.key = ek k) :
    Mp d ek ev (es.eraseIdxIfInBounds j) (delL L k) := by
  obtain ⟨s, t, A, B, hs, hl, hL, hp⟩ := h.split hx hj he
  have hnd := h.nodup
  subst hL
  have hne := split_ne hnd
  have hdel : delL (A ++ (k, a) :: B) k = A ++ B := by
    unfold delL
    rw [List.filter_append, List.filter_cons_of_neg (by simp)]
    rw [List.filter_eq_self.2 (fun x hx => by simpa using hne x (List.mem_append_left _ hx)), List.filter_eq_self.2 (fun x hx => by simpa using hne x (List.mem_append_right _ hx))]
  rw [hdel]
  refine ⟨?_, ?_, h.key, h.inj⟩
  · have hm : (es.eraseIdxIfInBounds j).toList = s ++ t := by
      rw [Array.toList_eraseIdxIfInBounds, hs]
      subst hl
      simp [List.eraseIdx_append_of_length_le]
    rw [hm]; exact hp
  · have := ((List.perm_middle (l₁ := A) (a := (k, a)) (l₂ := B)).map (fun x : κ × α => x.1)).nodup_iff.1 hnd
    rw [List.map_cons, List.nodup_cons] at this
    exact this.2
end
section
variable {X : Ctx} {E : Env} {H F : Heap} {o : Oper} {κ α : Type} {d : TypeDesc} {ek : κ → Value} {ev : α → Value} {es : Array MapEntry} {c b : Nat} {L : List (κ × α)} {mt kt et : TypeId} {x y z : Operand}
theorem HW.mapAt {H0 : Heap} {w0 w : World} (hw : HW H0 w0 H w) (hm : (⟨some b, .map es c⟩ : Ent) ∈ H) : w.heap[b]? = some (.map es c) := hw.hok.ok _ hm
theorem run_look {P : Program} {w : World} (hu : P.underlying mt = some (.map kt et)) (hk : P.underlying kt = some d) (hb : w.heap[b]? = some (.map es c)) (hM : Mp d ek ev es L) {k : κ} {a : α} (hx : (k, a) ∈ L) (q : Bool) :
    (Instr.lookup mt (.map (some b)) (ek k) q).run P w = .ok (if q then .tuple #[ev a, .bool true] else ev a) w := by
  obtain ⟨j, e, h1, _⟩ := hM.find hx
  simp [Instr.lookup, run_underlying hu, MapKept.run_getObj_map hb, MapKept.run_checkKey hk (hM.key k), MapKept.run_findKey hk h1, Result.andThen]
theorem run_look0 {P : Program} {w : World} {zv : Value} (hu : P.underlying mt = some (.map kt et)) (hk : P.underlying kt = some d) (hb : w.heap[b]? = some (.map es c)) (hM : Mp d ek ev es L) {k : κ} (hx : k ∉ L.map (·.1)) (hz : (zeroValue et).run P w = .ok zv w) (q : Bool) :
    (Instr.lookup mt (.map (some b)) (ek k) q).run P w = .ok (if q then .tuple #[zv, .bool false] else zv) w := by
  have h1 := (hM.none hx).1
  simp [Instr.lookup, run_underlying hu, MapKept.run_getObj_map hb, MapKept.run_checkKey hk (hM.key k), MapKept.run_findKey hk h1, hz, Result.andThen]
/-- v, is := m[k] -/
theorem R_lookT {k : κ} {a : α} (ho : o.op = .lookup mt x y true) (hu : X.P.underlying mt = some (.map kt et)) (hk : X.P.underlying kt = some d) (hx : Go.Proofs.Ytiokpmgbabpikaa.ev E x = some (.map (some b))) (hy : Go.Proofs.Ytiokpmgbabpikaa.ev E y = some (ek k)) (hm : (⟨some b, .map es c⟩ : Ent) ∈ H) (hM : Mp d ek ev es L) (hin : (k, a) ∈ L) :
    Runs X o E H (.tuple #[ev a, .bool true]) :=
  ⟨(by rw [ho]; intro c e; cases e), fun A w ha hw => by
    simp [execOp, ho, ha.eval hx, ha.eval hy, run_look hu hk (hw.mapAt hm) hM hin true]⟩
theorem R_lookF {k : κ} {zv : Value} (ho : o.op = .lookup mt x y true) (hu : X.P.underlying mt = some (.map kt et)) (hk : X.P.underlying kt = some d) (hx : Go.Proofs.Ytiokpmgbabpikaa.ev E x = some (.map (some b))) (hy : Go.Proofs.Ytiokpmgbabpikaa.ev E y = some (ek k)) (hm : (⟨some b, .map es c⟩ : Ent) ∈ H) (hM : Mp d ek ev es L) (hin : k ∉ L.map (·.1))
    (hz : ∀ w, (zeroValue et).run X.P w = .ok zv w) : Runs X o E H (.tuple #[zv, .bool false]) :=
  ⟨(by rw [ho]; intro c e; cases e), fun A w ha hw => by
    simp [execOp, ho, ha.eval hx, ha.eval hy, run_look0 hu hk (hw.mapAt hm) hM hin (hz w) true]⟩
/-- v := m[k] -/
theorem R_look {k : κ} {a : α} (ho : o.op = .lookup mt x y false) (hu : X.P.underlying mt = some (.map kt et)) (hk : X.P.underlying kt = some d) (hx : Go.Proofs.Ytiokpmgbabpikaa.ev E x = some (.map (some b))) (hy : Go.Proofs.Ytiokpmgbabpikaa.ev E y = some (ek k)) (hm : (⟨some b, .map es c⟩ : Ent) ∈ H) (hM : Mp d ek ev es L) (hin : (k, a) ∈ L) :
    Runs X o E H (ev a) :=
  ⟨(by rw [ho]; intro c e; cases e), fun A w ha hw => by
    simp [execOp, ho, ha.eval hx, ha.eval hy, run_look hu hk (hw.mapAt hm) hM hin false]⟩
theorem R_look0 {k : κ} {zv : Value} (ho : o.op = .lookup mt x y false) (hu : X.P.underlying mt = some (.map kt et)) (hk : X.P.underlying kt = some d) (hx : Go.Proofs.Ytiokpmgbabpikaa.ev E x = some (.map (some b))) (hy : Go.Proofs.Ytiokpmgbabpikaa.ev E y = some (ek k)) (hm : (⟨some b, .map es c⟩ : Ent) ∈ H) (hM : Mp d ek ev es L) (hin : k ∉ L.map (·.1))
    (hz : ∀ w, (zeroValue et).run X.P w = .ok zv w) : Runs X o E H zv :=
  ⟨(by rw [ho]; intro c e; cases e), fun A w ha hw => by
    simp [execOp, ho, ha.eval hx, ha.eval hy, run_look0 hu hk (hw.mapAt hm) hM hin (hz w) false]⟩
theorem R_lenMap (ho : o.op = .call { callee := .builtin .len, args := #[x], argTypes := #[mt] }) (hu : X.P.underlying mt = some (.map kt et)) (hx : Go.Proofs.Ytiokpmgbabpikaa.ev E x = some (.map (some b))) (hm : (⟨some b, .map es c⟩ : Ent) ∈ H) (hM : Mp d ek ev es L) :
    Runs X o E H (.int .i64 (L.length : Int)) :=
  ⟨(by rw [ho]; intro c e; cases e), fun A w ha hw => by
    have hg := MapKept.run_getObj_map (P := X.P) (hw.mapAt hm)
    have hl : (Builtin.len_ #[mt] o.type #[.map (some b)]).run X.P w = .ok (goInt L.length) w := by
      simp [Builtin.len_, run_underlying hu, hg, Result.andThen, hM.size]
    simp [execOp, ho, resolve, ha.eval hx, invoke, builtin, hl, goInt]⟩
theorem D_makeMap (ho : o.op = .makeMap mt none) : Does X o E H (fun v H' => ∃ b, v = .map (some b) ∧ H' = ⟨some b, .map #[] 0⟩ :: H) := by
  intro a w ha hw next Q k
  refine ⟨about_true, ?_⟩
  rw [semAt_of (by rw [ho]; intro c e; cases e)]
  have hrun : (execOp a.eval o).run X.P w = .ok (.value (.map (some w.heap.size))) (w.alloc (.map #[] 0)) := by
    have h : (Instr.makeMap mt none).run X.P w = .ok (.map (some w.heap.size)) (w.alloc (.map #[] 0)) := rfl
    simp [execOp, ho, h]
  rw [hrun]
  exact k _ _ _ ⟨_, rfl, rfl⟩ (hw.alloc _)
theorem B_makeMap (ho : o.op = .makeMap mt none) : Births X o E H (fun b => .map (some b)) (.map #[] 0) := by
  intro a w ha hw
  have h : (Instr.makeMap mt none).run X.P w = .ok (.map (some w.heap.size)) (w.alloc (.map #[] 0)) := rfl
  simp [execOp, ho, h]
theorem HW.turnMap {H0 : Heap} {w0 w : World} {ob : Obj} (hw : HW H0 w0 H w) (hp : Pull ⟨some b, .map es c⟩ H F) : HW H0 w0 (⟨some b, ob⟩ :: F) { w with heap := w.heap.setIfInBounds b ob } := by
  have hb : w.heap[b]? = some (.map es c) := hw.mapAt (pull_mem hp)
  obtain ⟨h1, h2⟩ := MapKept.heap_set (o' := ob) hb
  exact hw.turn hp (by simp) h1 (fun k hk => h2 k hk) rfl rfl rfl
/-- m[k] = v, of a key that lies there; of one that does not. -/
theorem D_mapSet [DecidableEq κ] {k : κ} {a v : α} (ho : o.op = .mapUpdate mt x y z) (hu : X.P.underlying mt = some (.map kt et)) (hk : X.P.underlying kt = some d) (hx : Go.Proofs.Ytiokpmgbabpikaa.ev E x = some (.map (some b))) (hy : Go.Proofs.Ytiokpmgbabpikaa.ev E y = some (ek k)) (hz : Go.Proofs.Ytiokpmgbabpikaa.ev E z = some (ev v)) (hp : Pull ⟨some b, .map es c⟩ H F) (hM : Mp d ek ev es L) (hin : (k, a) ∈ L) :
    Does X o E H (fun _ H' => ∃ es' c', Mp d ek ev es' (setL L k v) ∧ H' = ⟨some b, .map es' c'⟩ :: F) := by
  intro A w ha hw next Q kk
  refine ⟨about_true, ?_⟩
  rw [semAt_of (by rw [ho]; intro c e; cases e)]
  have hb := hw.mapAt (pull_mem hp)
  obtain ⟨j, e, h1, h2, h3⟩ := hM.find hin
  have hj : es[j]? = some e := by simpa using h2
  have hrun : (execOp A.eval o).run X.P w = .ok .skip { w with heap := w.heap.setIfInBounds b (.map (es.modify j fun e => { e with key := ek k, val := ev v }) c) } := by
    simp [execOp, ho, ha.eval hx, ha.eval hy, ha.eval hz, Instr.mapUpdate, run_underlying hu, MapKept.run_getObj_map hb, MapKept.run_checkKey hk (hM.key k), MapKept.run_findKey hk h1, hj, h3, MapKept.run_keyThatStays (hM.key k), MapKept.run_setObj_map _ hb, Result.andThen]
  rw [hrun]
  exact kk undef _ _ ⟨_, _, hM.set v hin h2 h3, rfl⟩ (hw.turnMap hp)
theorem D_mapAdd {k : κ} {v : α} (ho : o.op = .mapUpdate mt x y z) (hu : X.P.underlying mt = some (.map kt et)) (hk : X.P.underlying kt = some d) (hx : Go.Proofs.Ytiokpmgbabpikaa.ev E x = some (.map (some b))) (hy : Go.Proofs.Ytiokpmgbabpikaa.ev E y = some (ek k)) (hz : Go.Proofs.Ytiokpmgbabpikaa.ev E z = some (ev v)) (hp : Pull ⟨some b, .map es c⟩ H F) (hM : Mp d ek ev es L) (hin : k ∉ L.map (·.1)) :
    Does X o E H (fun _ H' => ∃ es' c', Mp d ek ev es' ((k, v) :: L) ∧ H' = ⟨some b, .map es' c'⟩ :: F) := by
  intro A w ha hw next Q kk
  refine ⟨about_true, ?_⟩
  rw [semAt_of (by rw [ho]; intro c e; cases e)]
  have hb := hw.mapAt (pull_mem hp)
  have h1 := (hM.none hin).1
  have hrun : (execOp A.eval o).run X.P w = .ok .skip { w with heap := w.heap.setIfInBounds b (.map (es.push { key := ek k, val := ev v, born := c }) (c + 1)) } := by
    simp [execOp, ho, ha.eval hx, ha.eval hy, ha.eval hz, Instr.mapUpdate, run_underlying hu, MapKept.run_getObj_map hb, MapKept.run_checkKey hk (hM.key k), MapKept.run_findKey hk h1, MapKept.run_setObj_map _ hb, Result.andThen]
  rw [hrun]
  exact kk undef _ _ ⟨_, _, hM.add v c hin, rfl⟩ (hw.turnMap hp)
/-- delete(m, k), of a key that lies there. -/
theorem D_delete [DecidableEq κ] {kt' : TypeId} {k : κ} {a : α} (ho : o.op = .call { callee := .builtin .delete, args := #[x, y], argTypes := #[mt, kt'] }) (hu : X.P.underlying mt = some (.map kt et)) (hk : X.P.underlying kt = some d) (hx : Go.Proofs.Ytiokpmgbabpikaa.ev E x = some (.map (some b))) (hy : Go.Proofs.Ytiokpmgbabpikaa.ev E y = some (ek k)) (hp : Pull ⟨some b, .map es c⟩ H F) (hM : Mp d ek ev es L) (hin : (k, a) ∈ L) :
    Does X o E H (fun _ H' => ∃ es' c', Mp d ek ev es' (delL L k) ∧ H' = ⟨some b, .map es' c'⟩ :: F) := by
  intro A w ha hw next Q kk
  refine ⟨about_true, ?_⟩
  rw [semAt_of (by rw [ho]; intro c e; cases e)]
  have hb := hw.mapAt (pull_mem hp)
  obtain ⟨j, e, h1, h2, h3⟩ := hM.find hin
  have hd : (Builtin.delete_ #[mt, kt'] o.type #[.map (some b), ek k]).run X.P w = .ok (.tuple #[]) { w with heap := w.heap.setIfInBounds b (.map (es.eraseIdxIfInBounds j) c) } := by
    simp [Builtin.delete_, run_underlying hu, MapKept.run_getObj_map hb, MapKept.run_checkKey hk (hM.key k), MapKept.run_findKey hk h1, MapKept.run_setObj_map _ hb, Result.andThen]
  have hrun : (execOp A.eval o).run X.P w = .ok (.value (.tuple #[])) { w with heap := w.heap.setIfInBounds b (.map (es.eraseIdxIfInBounds j) c) } := by
    simp [execOp, ho, resolve, ha.eval hx, ha.eval hy, invoke, builtin, hd]
  rw [hrun]
  exact kk _ _ _ ⟨_, _, hM.del hin h2 h3, rfl⟩ (hw.turnMap hp)
end
section
variable {X : Ctx} {E : Env} {H : Heap} {o : Oper} {x : Operand} {t : TypeId}
theorem eqi_map {P : Program} (w : World) (d : Nat) (t k e : TypeId) (r : Option Nat) (h : P.underlying t = some (.map k e)) : (Op.equalIn (d + 1) t (.map r) (.map none)).run P w = .ok r.isNone w := by
  cases r <;> simp [Op.equalIn, run_underlying h]
theorem R_mapEqNil {t' k e : TypeId} {r : Option Nat} (ho : o.op = .binOp .eql t x (.const (.map none)) t') (hu : X.P.underlying t = some (.map k e)) (hx : Go.Proofs.Ytiokpmgbabpikaa.ev E x = some (.map r)) : Runs X o E H (.bool r.isNone) :=
  R_bin ho hx rfl (fun w => by simp [eqGuard]) fun w => by
    have h := eqi_map (P := X.P) w 9999 t k e r hu
    simp only [binOp, Op.equal, Op.maxDepth, Sem.run_bind, h, Result.andThen_ok, Sem.run_pure]
theorem R_mkIface {d : TypeDesc} {v : Value} (ho : o.op = .makeInterface t x) (hu : X.P.underlying t = some d) (hd : ∀ ms, d ≠ .interface ms) (hx : Go.Proofs.Ytiokpmgbabpikaa.ev E x = some v) : Runs X o E H (.iface t v) :=
  ⟨(by rw [ho]; intro c e; cases e), fun a w ha _ => by
    have h : (Instr.makeInterface t v).run X.P w = .ok (.iface t v) w := by
      simp only [Instr.makeInterface, Sem.run_bind, run_underlying hu, Result.andThen_ok]
      cases d <;> simp_all
    simp [execOp, ho, ha.eval hx, h]⟩
theorem R_assert {tx : TypeId} {d : TypeDesc} {v : Value} (ho : o.op = .typeAssert x tx t false) (hu : X.P.underlying t = some d) (hd : ∀ ms, d ≠ .interface ms) (hx : Go.Proofs.Ytiokpmgbabpikaa.ev E x = some (.iface t v)) : Runs X o E H v :=
  ⟨(by rw [ho]; intro c e; cases e), fun a w ha _ => by
    have h : (Instr.typeAssert (.iface t v) tx t false).run X.P w = .ok v w := by
      simp only [Instr.typeAssert, Sem.run_bind, run_underlying hu, Result.andThen_ok]
      cases d <;> simp_all
    simp [execOp, ho, ha.eval hx, h]⟩
/-- The model's row maps.clone. -/
theorem D_mapsClone {f : FuncId} {fn : Func} {tys : Array TypeId} {mt : TypeId} {b : Nat} {es : Array MapEntry} {c : Nat} (hf : X.P.funcs[f]? = some fn) (hname : (fn.name == "runtime.NumGoroutine") = false) (hb : fn.body.isNone = true) (hn : Extern.findNext fn = none) (he : Extern.find fn = some Extern.MapsClone.clone)
    (ho : o.op = .call { callee := .value (.func f), args := #[x], argTypes := tys }) (hx : Go.Proofs.Ytiokpmgbabpikaa.ev E x = some (.iface mt (.map (some b)))) (hm : (⟨some b, .map es c⟩ : Ent) ∈ H) :
    Does X o E H (fun v H' => ∃ b2, v = .iface mt (.map (some b2)) ∧ H' = ⟨some b2, .map es c⟩ :: H) := by
  intro a w ha hw next Q k
  refine ⟨about_true, ?_⟩
  rw [semAt_of (by rw [ho]; intro c e; cases e)]
  have hbw := hw.mapAt hm
  have hc : (Extern.MapsClone.clone #[.iface mt (.map (some b))]).run X.P w = .ok (.iface mt (.map (some w.heap.size))) (w.alloc (.map es c)) := by
    have e : Extern.MapsClone.clone #[.iface mt (.map (some b))] = (getObj b >>= fun o => match o with
      | .map entries clock => (newObj (.map entries clock) >>= fun n => pure (.iface mt (.map (some n))))
      | _ => stuck "maps.clone: a map expected") := rfl
    rw [e]
    simp [MapKept.run_getObj_map hbw, Result.andThen]
  have hcall : (callFunc f #[.iface mt (.map (some b))]).run X.P w = .ok (.value (.iface mt (.map (some w.heap.size)))) (w.alloc (.map es c)) := by
    rw [run_callFunc_extern hf hname hb hn he, hc]; rfl
  have hrun : (execOp a.eval o).run X.P w = .ok (.value (.iface mt (.map (some w.heap.size)))) (w.alloc (.map es c)) := by
    have hfe : a.eval (.func f) = .func (.func f) #[] #[] := rfl
    simp [execOp, ho, resolve, ha.eval hx, hfe, Deferred.ofValue, invoke, hcall]
  rw [hrun]
  exact k _ _ _ ⟨_, rfl, rfl⟩ (hw.alloc _)
end
end Go.Proofs.Ytiokpmgbabpikaa
