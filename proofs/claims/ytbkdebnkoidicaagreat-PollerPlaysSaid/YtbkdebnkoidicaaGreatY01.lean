/-
 Chapter 11 (poller), part IvsL: contracts of functions that the laws call, each for the heap it names.
-/
import Derived.Test.YtbkdebnkoidicaaGreatY00
import Derived.MapKept
import GoSem.Extern.MapsClone
import Derived.Laws.IdiomRangeMap
import Derived.Laws.StructEq
import Derived.Test.YtbkdebnkoidicaaGreatRows
section
namespace Go.Proofs.YtbkdebnkoidicaaGreat
open Go.MapKept (IsKey)
structure Mp {κ α : Type} (d : TypeDesc) (ek : κ → Value) (ev : α → Value) (es : Array MapEntry) (L : List (κ × α)) : Prop where
  perm : (es.toList.map fun e => (e.key, e.val)).Perm (L.map fun x => (ek x.1, ev x.2))
  nodup : (L.map (·.1)).Nodup
  key : ∀ k, IsKey d (ek k)
  inj : ∀ a b, ek a = ek b → a = b
section
variable {κ α : Type} {d : TypeDesc} {ek : κ → Value} {ev : α → Value} {es : Array MapEntry} {L L' : List (κ × α)}
theorem Mp.empty (hk : ∀ k, IsKey d (ek k)) (hi : ∀ a b, ek a = ek b → a = b) : Mp d ek ev #[] ([] : List (κ × α)) := ⟨by simp, by simp, hk, hi⟩
theorem Mp.to (h : Mp d ek ev es L) (p : L.Perm L') : Mp d ek ev es L' := ⟨h.perm.trans (p.map _), (p.map _).nodup_iff.1 h.nodup, h.key, h.inj⟩
theorem Mp.size (h : Mp d ek ev es L) : es.size = L.length := by
  have := h.perm.length_eq
  simpa using this
theorem Mp.keys (h : Mp d ek ev es L) : ∀ x ∈ es.toList, IsKey d x.key := fun x hx => by
  have : (x.key, x.val) ∈ L.map fun x => (ek x.1, ev x.2) := h.perm.mem_iff.1 (List.mem_map.2 ⟨x, hx, rfl⟩)
  obtain ⟨y, _, e⟩ := List.mem_map.1 this
  have e1 : ek y.1 = x.key := congrArg Prod.fst e
  rw [← e1]; exact h.key _
theorem Mp.has (h : Mp d ek ev es L) {x : κ × α} (hx : x ∈ L) : ∃ e ∈ es.toList, e.key = ek x.1 ∧ e.val = ev x.2 := by
  have : (ek x.1, ev x.2) ∈ es.toList.map fun e => (e.key, e.val) := h.perm.mem_iff.2 (List.mem_map.2 ⟨x, hx, rfl⟩)
  obtain ⟨e, he, hh⟩ := List.mem_map.1 this
  exact ⟨e, he, congrArg Prod.fst hh, congrArg Prod.snd hh⟩
theorem Mp.back (h : Mp d ek ev es L) {e : MapEntry} (he : e ∈ es.toList) : ∃ x ∈ L, e.key = ek x.1 ∧ e.val = ev x.2 := by
  have : (e.key, e.val) ∈ L.map fun x => (ek x.1, ev x.2) := h.perm.mem_iff.1 (List.mem_map.2 ⟨e, he, rfl⟩)
  obtain ⟨x, hx, hh⟩ := List.mem_map.1 this
  exact ⟨x, hx, (congrArg Prod.fst hh).symm, (congrArg Prod.snd hh).symm⟩
theorem key_uniq {L : List (κ × α)} (h : (L.map (·.1)).Nodup) {k : κ} {a b : α} (ha : (k, a) ∈ L) (hb : (k, b) ∈ L) : a = b := by
  induction L with
  | nil => cases ha
  | cons x L ih =>
    rw [List.map_cons, List.nodup_cons] at h
    rcases List.mem_cons.1 ha with e1 | ha2
    · rcases List.mem_cons.1 hb with e2 | hb2
      · have := e1.trans e2.symm; exact congrArg Prod.snd this
      · exact absurd (List.mem_map.2 ⟨(k, b), hb2, (congrArg Prod.fst e1 : k = x.1)⟩) h.1
    · rcases List.mem_cons.1 hb with e2 | hb2
      · exact absurd (List.mem_map.2 ⟨(k, a), ha2, (congrArg Prod.fst e2 : k = x.1)⟩) h.1
      · exact ih h.2 ha2 hb2
theorem Mp.find (h : Mp d ek ev es L) {k : κ} {a : α} (hx : (k, a) ∈ L) : ∃ j e, Instr.findNow d (ek k) es.toList 0 = some (some (j, ev a)) ∧ es.toList[j]? = some e ∧ e.key = ek k := by
  rcases MapKept.findNow_spec (h.key k) es.toList 0 h.keys with ⟨_, h2⟩ | ⟨j, e, h1, h2, h3⟩
  · obtain ⟨e, he, hk, _⟩ := h.has hx
    exact absurd hk (h2 e he)
  · obtain ⟨⟨k', b⟩, hy, e1, e2⟩ := h.back (List.mem_of_getElem? h2)
    obtain rfl := h.inj _ _ (e1.symm.trans h3)
    obtain rfl := key_uniq h.nodup hx hy
    exact ⟨j, e, by rw [h1, Nat.zero_add, e2], h2, h3⟩
theorem Mp.none (h : Mp d ek ev es L) {k : κ} (hx : k ∉ L.map (·.1)) : Instr.findNow d (ek k) es.toList 0 = some none ∧ ∀ e ∈ es.toList, e.key ≠ ek k := by
  rcases MapKept.findNow_spec (h.key k) es.toList 0 h.keys with h1 | ⟨j, e, _, h2, h3⟩
  · exact h1
  · obtain ⟨⟨k', b⟩, hy, e1, _⟩ := h.back (List.mem_of_getElem? h2)
    obtain rfl := h.inj _ _ (e1.symm.trans h3)
    exact absurd (List.mem_map.2 ⟨_, hy, rfl⟩) hx
theorem Mp.add (h : Mp d ek ev es L) {k : κ} (a : α) (c : Nat) (hx : k ∉ L.map (·.1)) : Mp d ek ev (es.push { key := ek k, val := ev a, born := c }) ((k, a) :: L) := by
  refine ⟨?_, by simpa using ⟨by simpa using hx, h.nodup⟩, h.key, h.inj⟩
  rw [Array.toList_push, List.map_append]
  exact List.perm_append_comm.trans (.cons _ h.perm)
theorem perm_middle_split {β : Type} {l : List β} {j : Nat} {e : β} (h : l[j]? = some e) : ∃ s t, l = s ++ e :: t ∧ s.length = j := by
  obtain ⟨hl, rfl⟩ := List.getElem?_eq_some_iff.1 h
  exact ⟨l.take j, l.drop (j + 1), by rw [List.getElem_cons_drop, List.take_append_drop], by simp; omega⟩
theorem modify_at {β : Type} (f : β → β) : ∀ (s t : List β) (e : β), (s ++ e :: t).modify s.length f = s ++ f e :: t
  | [], t, e => by simp
  | x :: s, t, e => by simpa using modify_at f s t e
theorem Mp.split (h : Mp d ek ev es L) {k : κ} {a : α} (hx : (k, a) ∈ L) {j : Nat} {e : MapEntry} (hj : es.toList[j]? = some e) (he : e.key = ek k) :
    ∃ s t A B, es.toList = s ++ e :: t ∧ s.length = j ∧ L = A ++ (k, a) :: B ∧ ((s ++ t).map fun e => (e.key, e.val)).Perm ((A ++ B).map fun x => (ek x.1, ev x.2)) := by
  obtain ⟨s, t, hs, hl⟩ := perm_middle_split hj
  obtain ⟨A, B, hL⟩ := List.append_of_mem hx
  refine ⟨s, t, A, B, hs, hl, hL, ?_⟩
  obtain ⟨⟨k', b⟩, hy, e1, e2⟩ := h.back (List.mem_of_getElem? hj)
  obtain rfl := h.inj _ _ (e1.symm.trans he)
  obtain rfl := key_uniq h.nodup hx hy
  have hp := h.perm
  rw [hs, hL] at hp
  simp only [List.map_append, List.map_cons] at hp ⊢
  have h1 := List.perm_middle.symm.trans (hp.trans List.perm_middle)
  rw [e1, e2] at h1
  exact List.Perm.cons_inv h1
theorem split_ne {A B : List (κ × α)} {k : κ} {a : α} (h : ((A ++ (k, a) :: B).map (·.1)).Nodup) : ∀ x ∈ A ++ B, x.1 ≠ k := by
  have h1 := ((List.perm_middle (l₁ := A) (a := (k, a)) (l₂ := B)).map (fun x : κ × α => x.1)).nodup_iff.1 h
  rw [List.map_cons, List.nodup_cons] at h1
  intro x hx e
  exact h1.1 (List.mem_map.2 ⟨x, hx, e⟩)
def setL [DecidableEq κ] (L : List (κ × α)) (k : κ) (a : α) : List (κ × α) := L.map fun x => if x.1 = k then (k, a) else x
def delL [DecidableEq κ] (L : List (κ × α)) (k : κ) : List (κ × α) := L.filter fun x => decide (x.1 ≠ k)
theorem setL_same [DecidableEq κ] {A : List (κ × α)} {k : κ} {a : α} (h : ∀ x ∈ A, x.1 ≠ k) : setL A k a = A := by
  induction A with
  | nil => rfl
  | cons x A ih =>
    show (if x.1 = k then (k, a) else x) :: setL A k a = _
    rw [if_neg (h x (List.mem_cons_self ..)), ih (fun y hy => h y (List.mem_cons_of_mem _ hy))]
theorem Mp.set [DecidableEq κ] (h : Mp d ek ev es L) {k : κ} {a : α} (b : α) (hx : (k, a) ∈ L) {j : Nat} {e : MapEntry} (hj : es.toList[j]? = some e) (he : e.key = ek k) :
    Mp d ek ev (es.modify j fun e => { e with key := ek k, val := ev b }) (setL L k b) := by
  obtain ⟨s, t, A, B, hs, hl, hL, hp⟩ := h.split hx hj he
  have hnd := h.nodup
  subst hL
  have hne := split_ne hnd
  have hA : setL A k b = A := setL_same fun x hx => hne x (List.mem_append_left _ hx)
  have hB : setL B k b = B := setL_same fun x hx => hne x (List.mem_append_right _ hx)
  have hset : setL (A ++ (k, a) :: B) k b = A ++ (k, b) :: B := by
    show List.map _ _ = _
    rw [List.map_append, List.map_cons, if_pos rfl]
    exact congr (congrArg _ hA) (congrArg _ hB)
  rw [hset]
  refine ⟨?_, by simpa using hnd, h.key, h.inj⟩
  have hm : (es.modify j fun e => { e with key := ek k, val := ev b }).toList = s ++ { e with key := ek k, val := ev b } :: t := by
    rw [Array.toList_modify, hs]
    subst hl
    exact modify_at _ s t e
  rw [hm]
  simp only [List.map_append, List.map_cons] at hp ⊢
  exact List.perm_middle.trans ((List.Perm.cons _ hp).trans List.perm_middle.symm)
theorem Mp.del [DecidableEq κ] (h : Mp d ek ev es L) {k : κ} {a : α} (hx : (k, a) ∈ L) {j : Nat} {e : MapEntry} (hj : es.toList[j]? = some e) (he : e.key = ek k) :
    Mp d ek ev (es.eraseIdxIfInBounds j) (delL L k) := by
  obtain ⟨s, t, A, B, hs, hl, hL, hp⟩ := h.split hx hj he
  have hnd := h.nodup
  subst hL
  have hne := split_ne hnd
  have hdel : delL (A ++ (k, a) :: B) k = A ++ B := by
    unfold delL
    rw [List.filter_append, List.filter_cons_of_neg (by simp)]
    rw [List.filter_eq_self.2 (fun x hx => by simpa using hne x (List.mem_append_left _ hx)), List.filter_eq_self.2 (fun x hx => by simpa using hne x (List.mem_append_right _ hx))]
  rw [hdel]
  refine ⟨?_, ?_, h.key, h.inj⟩
  · have hm : (es.eraseIdxIfInBounds j).toList = s ++ t := by
      rw [Array.toList_eraseIdxIfInBounds, hs]
      subst hl
      simp [List.eraseIdx_append_of_length_le]
    rw [hm]; exact hp
  · have := ((List.perm_middle (l₁ := A) (a := (k, a)) (l₂ := B)).map (fun x : κ × α => x.1)).nodup_iff.1 hnd
    rw [List.map_cons, List.nodup_cons] at this
    exact this.2
end
section
variable {X : Ctx} {E : Env} {H F : Heap} {o : Oper} {κ α : Type} {d : TypeDesc} {ek : κ → Value} {ev : α → Value} {es : Array MapEntry} {c b : Nat} {L : List (κ × α)} {mt kt et : TypeId} {x y z : Operand}
theorem HW.mapAt {H0 : Heap} {w0 w : World} (hw : HW H0 w0 H w) (hm : (⟨some b, .map es c⟩ : Ent) ∈ H) : w.heap[b]? = some (.map es c) := hw.hok.ok _ hm
theorem run_look {P : Program} {w : World} (hu : P.underlying mt = some (.map kt et)) (hk : P.underlying kt = some d) (hb : w.heap[b]? = some (.map es c)) (hM : Mp d ek ev es L) {k : κ} {a : α} (hx : (k, a) ∈ L) (q : Bool) :
    (Instr.lookup mt (.map (some b)) (ek k) q).run P w = .ok (if q then .tuple #[ev a, .bool true] else ev a) w := by
  obtain ⟨j, e, h1, _⟩ := hM.find hx
  simp [Instr.lookup, run_underlying hu, MapKept.run_getObj_map hb, MapKept.run_checkKey hk (hM.key k), MapKept.run_findKey hk h1, Result.andThen]
theorem R_lookT {k : κ} {a : α} (ho : o.op = .lookup mt x y true) (hu : X.P.underlying mt = some (.map kt et)) (hk : X.P.underlying kt = some d) (hx : Go.Proofs.YtbkdebnkoidicaaGreat.ev E x = some (.map (some b))) (hy : Go.Proofs.YtbkdebnkoidicaaGreat.ev E y = some (ek k)) (hm : (⟨some b, .map es c⟩ : Ent) ∈ H) (hM : Mp d ek ev es L) (hin : (k, a) ∈ L) :
    Runs X o E H (.tuple #[ev a, .bool true]) :=
  ⟨(by rw [ho]; intro c e; cases e), fun A w ha hw => by
    simp [execOp, ho, ha.eval hx, ha.eval hy, run_look hu hk (hw.mapAt hm) hM hin true]⟩
theorem R_look {k : κ} {a : α} (ho : o.op = .lookup mt x y false) (hu : X.P.underlying mt = some (.map kt et)) (hk : X.P.underlying kt = some d) (hx : Go.Proofs.YtbkdebnkoidicaaGreat.ev E x = some (.map (some b))) (hy : Go.Proofs.YtbkdebnkoidicaaGreat.ev E y = some (ek k)) (hm : (⟨some b, .map es c⟩ : Ent) ∈ H) (hM : Mp d ek ev es L) (hin : (k, a) ∈ L) :
    Runs X o E H (ev a) :=
  ⟨(by rw [ho]; intro c e; cases e), fun A w ha hw => by
    simp [execOp, ho, ha.eval hx, ha.eval hy, run_look hu hk (hw.mapAt hm) hM hin false]⟩
theorem R_lenMap (ho : o.op = .call { callee := .builtin .len, args := #[x], argTypes := #[mt] }) (hu : X.P.underlying mt = some (.map kt et)) (hx : Go.Proofs.YtbkdebnkoidicaaGreat.ev E x = some (.map (some b))) (hm : (⟨some b, .map es c⟩ : Ent) ∈ H) (hM : Mp d ek ev es L) :
    Runs X o E H (.int .i64 (L.length : Int)) :=
  ⟨(by rw [ho]; intro c e; cases e), fun A w ha hw => by
    have hg := MapKept.run_getObj_map (P := X.P) (hw.mapAt hm)
    have hl : (Builtin.len_ #[mt] o.type #[.map (some b)]).run X.P w = .ok (goInt L.length) w := by
      simp [Builtin.len_, run_underlying hu, hg, Result.andThen, hM.size]
    simp [execOp, ho, resolve, ha.eval hx, invoke, builtin, hl, goInt]⟩
theorem D_makeMap (ho : o.op = .makeMap mt none) : Does X o E H (fun v H' => ∃ b, v = .map (some b) ∧ H' = ⟨some b, .map #[] 0⟩ :: H) := by
  intro a w ha hw next Q k
  refine ⟨about_true, ?_⟩
  rw [semAt_of (by rw [ho]; intro c e; cases e)]
  have hrun : (execOp a.eval o).run X.P w = .ok (.value (.map (some w.heap.size))) (w.alloc (.map #[] 0)) := by
    have h : (Instr.makeMap mt none).run X.P w = .ok (.map (some w.heap.size)) (w.alloc (.map #[] 0)) := rfl
    simp [execOp, ho, h]
  rw [hrun]
  exact k _ _ _ ⟨_, rfl, rfl⟩ (hw.alloc _)
theorem B_makeMap (ho : o.op = .makeMap mt none) : Births X o E H (fun b => .map (some b)) (.map #[] 0) := by
  intro a w ha hw
  have h : (Instr.makeMap mt none).run X.P w = .ok (.map (some w.heap.size)) (w.alloc (.map #[] 0)) := rfl
  simp [execOp, ho, h]
theorem HW.turnMap {H0 : Heap} {w0 w : World} {ob : Obj} (hw : HW H0 w0 H w) (hp : Pull ⟨some b, .map es c⟩ H F) : HW H0 w0 (⟨some b, ob⟩ :: F) { w with heap := w.heap.setIfInBounds b ob } := by
  have hb : w.heap[b]? = some (.map es c) := hw.mapAt (pull_mem hp)
  obtain ⟨h1, h2⟩ := MapKept.heap_set (o' := ob) hb
  exact hw.turn hp (by simp) h1 (fun k hk => h2 k hk) rfl rfl rfl
theorem D_mapSet [DecidableEq κ] {k : κ} {a v : α} (ho : o.op = .mapUpdate mt x y z) (hu : X.P.underlying mt = some (.map kt et)) (hk : X.P.underlying kt = some d) (hx : Go.Proofs.YtbkdebnkoidicaaGreat.ev E x = some (.map (some b))) (hy : Go.Proofs.YtbkdebnkoidicaaGreat.ev E y = some (ek k)) (hz : Go.Proofs.YtbkdebnkoidicaaGreat.ev E z = some (ev v)) (hp : Pull ⟨some b, .map es c⟩ H F) (hM : Mp d ek ev es L) (hin : (k, a) ∈ L) :
    Does X o E H (fun _ H' => ∃ es' c', Mp d ek ev es' (setL L k v) ∧ H' = ⟨some b, .map es' c'⟩ :: F) := by
  intro A w ha hw next Q kk
  refine ⟨about_true, ?_⟩
  rw [semAt_of (by rw [ho]; intro c e; cases e)]
  have hb := hw.mapAt (pull_mem hp)
  obtain ⟨j, e, h1, h2, h3⟩ := hM.find hin
  have hj : es[j]? = some e := by simpa using h2
  have hrun : (execOp A.eval o).run X.P w = .ok .skip { w with heap := w.heap.setIfInBounds b (.map (es.modify j fun e => { e with key := ek k, val := ev v }) c) } := by
    simp [execOp, ho, ha.eval hx, ha.eval hy, ha.eval hz, Instr.mapUpdate, run_underlying hu, MapKept.run_getObj_map hb, MapKept.run_checkKey hk (hM.key k), MapKept.run_findKey hk h1, hj, h3, MapKept.run_keyThatStays (hM.key k), MapKept.run_setObj_map _ hb, Result.andThen]
  rw [hrun]
  exact kk undef _ _ ⟨_, _, hM.set v hin h2 h3, rfl⟩ (hw.turnMap hp)
theorem D_mapAdd {k : κ} {v : α} (ho : o.op = .mapUpdate mt x y z) (hu : X.P.underlying mt = some (.map kt et)) (hk : X.P.underlying kt = some d) (hx : Go.Proofs.YtbkdebnkoidicaaGreat.ev E x = some (.map (some b))) (hy : Go.Proofs.YtbkdebnkoidicaaGreat.ev E y = some (ek k)) (hz : Go.Proofs.YtbkdebnkoidicaaGreat.ev E z = some (ev v)) (hp : Pull ⟨some b, .map es c⟩ H F) (hM : Mp d ek ev es L) (hin : k ∉ L.map (·.1)) :
    Does X o E H (fun _ H' => ∃ es' c', Mp d ek ev es' ((k, v) :: L) ∧ H' = ⟨some b, .map es' c'⟩ :: F) := by
  intro A w ha hw next Q kk
  refine ⟨about_true, ?_⟩
  rw [semAt_of (by rw [ho]; intro c e; cases e)]
  have hb := hw.mapAt (pull_mem hp)
  have h1 := (hM.none hin).1
  have hrun : (execOp A.eval o).run X.P w = .ok .skip { w with heap := w.heap.setIfInBounds b (.map (es.push { key := ek k, val := ev v, born := c }) (c + 1)) } := by
    simp [execOp, ho, ha.eval hx, ha.eval hy, ha.eval hz, Instr.mapUpdate, run_underlying hu, MapKept.run_getObj_map hb, MapKept.run_checkKey hk (hM.key k), MapKept.run_findKey hk h1, MapKept.run_setObj_map _ hb, Result.andThen]
  rw [hrun]
  exact kk undef _ _ ⟨_, _, hM.add v c hin, rfl⟩ (hw.turnMap hp)
theorem D_delete [DecidableEq κ] {kt' : TypeId} {k : κ} {a : α} (ho : o.op = .call { callee := .builtin .delete, args := #[x, y], argTypes := #[mt, kt'] }) (hu : X.P.underlying mt = some (.map kt et)) (hk : X.P.underlying kt = some d) (hx : Go.Proofs.YtbkdebnkoidicaaGreat.ev E x = some (.map (some b))) (hy : Go.Proofs.YtbkdebnkoidicaaGreat.ev E y = some (ek k)) (hp : Pull ⟨some b, .map es c⟩ H F) (hM : Mp d ek ev es L) (hin : (k, a) ∈ L) :
    Does X o E H (fun _ H' => ∃ es' c', Mp d ek ev es' (delL L k) ∧ H' = ⟨some b, .map es' c'⟩ :: F) := by
  intro A w ha hw next Q kk
  refine ⟨about_true, ?_⟩
  rw [semAt_of (by rw [ho]; intro c e; cases e)]
  have hb := hw.mapAt (pull_mem hp)
  obtain ⟨j, e, h1, h2, h3⟩ := hM.find hin
  have hd : (Builtin.delete_ #[mt, kt'] o.type #[.map (some b), ek k]).run X.P w = .ok (.tuple #[]) { w with heap := w.heap.setIfInBounds b (.map (es.eraseIdxIfInBounds j) c) } := by
    simp [Builtin.delete_, run_underlying hu, MapKept.run_getObj_map hb, MapKept.run_checkKey hk (hM.key k), MapKept.run_findKey hk h1, MapKept.run_setObj_map _ hb, Result.andThen]
  have hrun : (execOp A.eval o).run X.P w = .ok (.value (.tuple #[])) { w with heap := w.heap.setIfInBounds b (.map (es.eraseIdxIfInBounds j) c) } := by
    simp [execOp, ho, resolve, ha.eval hx, ha.eval hy, invoke, builtin, hd]
  rw [hrun]
  exact kk _ _ _ ⟨_, _, hM.del hin h2 h3, rfl⟩ (hw.turnMap hp)
end
section
variable {X : Ctx} {E : Env} {H : Heap} {o : Oper} {x : Operand} {t : TypeId}
theorem eqi_map {P : Program} (w : World) (d : Nat) (t k e : TypeId) (r : Option Nat) (h : P.underlying t = some (.map k e)) : (Op.equalIn (d + 1) t (.map r) (.map none)).run P w = .ok r.isNone w := by
  cases r <;> simp [Op.equalIn, run_underlying h]
theorem R_mapEqNil {t' k e : TypeId} {r : Option Nat} (ho : o.op = .binOp .eql t x (.const (.map none)) t') (hu : X.P.underlying t = some (.map k e)) (hx : Go.Proofs.YtbkdebnkoidicaaGreat.ev E x = some (.map r)) : Runs X o E H (.bool r.isNone) :=
  R_bin ho hx rfl (fun w => by simp [eqGuard]) fun w => by
    have h := eqi_map (P := X.P) w 9999 t k e r hu
    simp only [binOp, Op.equal, Op.maxDepth, Sem.run_bind, h, Result.andThen_ok, Sem.run_pure]
theorem R_mkIface {d : TypeDesc} {v : Value} (ho : o.op = .makeInterface t x) (hu : X.P.underlying t = some d) (hd : ∀ ms, d ≠ .interface ms) (hx : Go.Proofs.YtbkdebnkoidicaaGreat.ev E x = some v) : Runs X o E H (.iface t v) :=
  ⟨(by rw [ho]; intro c e; cases e), fun a w ha _ => by
    have h : (Instr.makeInterface t v).run X.P w = .ok (.iface t v) w := by
      simp only [Instr.makeInterface, Sem.run_bind, run_underlying hu, Result.andThen_ok]
      cases d <;> simp_all
    simp [execOp, ho, ha.eval hx, h]⟩
theorem R_assert {tx : TypeId} {d : TypeDesc} {v : Value} (ho : o.op = .typeAssert x tx t false) (hu : X.P.underlying t = some d) (hd : ∀ ms, d ≠ .interface ms) (hx : Go.Proofs.YtbkdebnkoidicaaGreat.ev E x = some (.iface t v)) : Runs X o E H v :=
  ⟨(by rw [ho]; intro c e; cases e), fun a w ha _ => by
    have h : (Instr.typeAssert (.iface t v) tx t false).run X.P w = .ok v w := by
      simp only [Instr.typeAssert, Sem.run_bind, run_underlying hu, Result.andThen_ok]
      cases d <;> simp_all
    simp [execOp, ho, ha.eval hx, h]⟩
theorem D_mapsClone {f : FuncId} {fn : Func} {tys : Array TypeId} {mt : TypeId} {b : Nat} {es : Array MapEntry} {c : Nat} (hf : X.P.funcs[f]? = some fn) (hname : (fn.name == "runtime.NumGoroutine") = false) (hb : fn.body.isNone = true) (hn : Extern.findNext fn = none) (he : Extern.find fn = some Extern.MapsClone.clone)
    (ho : o.op = .call { callee := .value (.func f), args := #[x], argTypes := tys }) (hx : Go.Proofs.YtbkdebnkoidicaaGreat.ev E x = some (.iface mt (.map (some b)))) (hm : (⟨some b, .map es c⟩ : Ent) ∈ H) :
    Does X o E H (fun v H' => ∃ b2, v = .iface mt (.map (some b2)) ∧ H' = ⟨some b2, .map es c⟩ :: H) := by
  intro a w ha hw next Q k
  refine ⟨about_true, ?_⟩
  rw [semAt_of (by rw [ho]; intro c e; cases e)]
  have hbw := hw.mapAt hm
  have hc : (Extern.MapsClone.clone #[.iface mt (.map (some b))]).run X.P w = .ok (.iface mt (.map (some w.heap.size))) (w.alloc (.map es c)) := by
    have e : Extern.MapsClone.clone #[.iface mt (.map (some b))] = (getObj b >>= fun o => match o with
      | .map entries clock => (newObj (.map entries clock) >>= fun n => pure (.iface mt (.map (some n))))
      | _ => stuck "maps.clone: a map expected") := rfl
    rw [e]
    simp [MapKept.run_getObj_map hbw, Result.andThen]
  have hcall : (callFunc f #[.iface mt (.map (some b))]).run X.P w = .ok (.value (.iface mt (.map (some w.heap.size)))) (w.alloc (.map es c)) := by
    rw [run_callFunc_extern hf hname hb hn he, hc]; rfl
  have hrun : (execOp a.eval o).run X.P w = .ok (.value (.iface mt (.map (some w.heap.size)))) (w.alloc (.map es c)) := by
    have hfe : a.eval (.func f) = .func (.func f) #[] #[] := rfl
    simp [execOp, ho, resolve, ha.eval hx, hfe, Deferred.ofValue, invoke, hcall]
  rw [hrun]
  exact k _ _ _ ⟨_, rfl, rfl⟩ (hw.alloc _)
end
end Go.Proofs.YtbkdebnkoidicaaGreat
end
section
namespace Go.Proofs.YtbkdebnkoidicaaGreat
section
variable {X : Ctx} {E : Env} {H : Heap} {o : Oper} {t e : TypeId} {x y : Operand} {sz n : Nat}
theorem R_buildArr {parts : List (Nat × Operand)} {vs : List (Nat × Value)} {zs cs : List Value} (ho : o.op = .build t parts.toArray) (hu : X.P.underlying t = some (.array n e)) (hs : ∀ w, (sizeOf e).run X.P w = .ok sz w) (hz : Zv X.P t zs)
    (hv : evParts E parts = some vs) (hf : fillS sz zs vs = some cs) : Runs X o E H (.agg cs.toArray) :=
  ⟨(by rw [ho]; intro c e; cases e), fun a w ha _ => by
    obtain ⟨z, h1, h2⟩ := hz
    have hp := ha.parts hv
    have hfl := fillS_eq sz vs zs cs hf
    have hpa : (parts.toArray.map fun (i, x) => (i, a.eval x)) = vs.toArray := by rw [← hp]; simp
    simp only [execOp, ho, hpa, Instr.build]
    simp only [Sem.run_bind, h2 w, Result.andThen_ok, run_underlying hu, hs w, h1, hfl, Sem.run_pure]⟩
theorem R_indexArrA {k : IntKind} {i : Int} {cs vs : List Value} (ho : o.op = .index t x y) (hu : X.P.underlying t = some (.array n e)) (hs : Ag X.P e sz) (hx : Go.Proofs.YtbkdebnkoidicaaGreat.ev E x = some (.agg cs.toArray)) (hy : Go.Proofs.YtbkdebnkoidicaaGreat.ev E y = some (.int k i)) (hi : 0 ≤ i ∧ i < n) (hn : vs.length = sz) (hv : At cs (i.toNat * sz) vs) : Runs X o E H (.agg vs.toArray) :=
  ⟨(by rw [ho]; intro c e; cases e), fun a w ha _ => by
    have hsub : List.take sz (List.drop (i.toNat * sz) cs) = vs := by
      apply List.ext_getElem?
      intro j
      by_cases hj : j < sz
      · rw [List.getElem?_take_of_lt hj, List.getElem?_drop]
        have hlt : j < vs.length := by omega
        rw [hv j vs[j] (by simp [hlt])]
        simp [hlt]
      · rw [List.getElem?_eq_none (by simp; omega), List.getElem?_eq_none (by omega)]
    have h : (Instr.index t (.agg cs.toArray) (.int k i)).run X.P w = .ok (.agg vs.toArray) w := by
      simp [Instr.index, asIntOf, run_underlying hu, hi.1, hi.2, (hs w).1, (hs w).2, part, hsub]
    simp [execOp, ho, ha.eval hx, ha.eval hy, h]⟩
end
section
variable {X : Ctx} {E : Env} {H : Heap} {o : Oper} {t u : TypeId} {x y : Operand} {sz len : Nat}
theorem R_indexAddrA {b k : Nat} {kk : IntKind} {i : Int} (ho : o.op = .indexAddr t x y) (hu : X.P.underlying t = some (.array len u)) (hs : ∀ w, (sizeOf u).run X.P w = .ok sz w)
    (hx : Go.Proofs.YtbkdebnkoidicaaGreat.ev E x = some (.pointer (some ⟨b, k, none⟩))) (hy : Go.Proofs.YtbkdebnkoidicaaGreat.ev E y = some (.int kk i)) (hi : 0 ≤ i ∧ i < len) : Runs X o E H (.pointer (some ⟨b, k + i.toNat * sz, none⟩)) :=
  ⟨(by rw [ho]; intro c e; cases e), fun a w ha _ => by
    have h : (Instr.indexAt t (.pointer (some ⟨b, k, none⟩)) (.int kk i)).run X.P w = .ok (.pointer (some ⟨b, k + i.toNat * sz, none⟩)) w := by
      simp [Instr.indexAt, Instr.sureAddr, asIntOf, run_underlying hu, hi.1, hi.2, hs w, add_at]
    simp [execOp, ho, ha.eval hx, ha.eval hy, h]⟩
theorem R_indexAddrAN {b k i : Nat} {kk : IntKind} (ho : o.op = .indexAddr t x y) (hu : X.P.underlying t = some (.array len u)) (hs : ∀ w, (sizeOf u).run X.P w = .ok sz w)
    (hx : Go.Proofs.YtbkdebnkoidicaaGreat.ev E x = some (.pointer (some ⟨b, k, none⟩))) (hy : Go.Proofs.YtbkdebnkoidicaaGreat.ev E y = some (.int kk (i : Int))) (hi : i < len) : Runs X o E H (.pointer (some ⟨b, k + i * sz, none⟩)) :=
  R_indexAddrA ho hu hs hx hy ⟨by omega, by omega⟩
end
end Go.Proofs.YtbkdebnkoidicaaGreat
end
section
namespace Go.Proofs.YtbkdebnkoidicaaGreat
section
variable {X : Ctx} {E : Env} {H : Heap} {o : Oper}
theorem addr_add0 (ad : Addr) : ad.add 0 = ad := by cases ad; simp [Addr.add]
theorem R_sliceTo {t u : TypeId} {x y : Operand} {ad : Option Addr} {n c sz m : Nat} {kk : IntKind} (ho : o.op = .slice t x none (some y) none) (hu : X.P.underlying t = some (.slice u)) (hs : ∀ w, (sizeOf u).run X.P w = .ok sz w)
    (hx : ev E x = some (.slice ad n c)) (hy : ev E y = some (.int kk (m : Int))) (hm : m ≤ c) : Runs X o E H (.slice ad m c) :=
  ⟨(by rw [ho]; intro c e; cases e), fun a w ha _ => by
    simp [execOp, ho, ha.eval hx, ha.eval hy, Instr.sliceAt, Instr.slice, Instr.sliceBounds, Instr.sliceBound, asIntOf, run_underlying hu, hs w, hm]
    cases ad <;> simp [addr_add0]⟩
theorem R_sliceFrom {t u : TypeId} {x y : Operand} {b k n c sz m : Nat} {kk : IntKind} (ho : o.op = .slice t x (some y) none none) (hu : X.P.underlying t = some (.slice u)) (hs : ∀ w, (sizeOf u).run X.P w = .ok sz w)
    (hx : ev E x = some (.slice (some ⟨b, k, none⟩) n c)) (hy : ev E y = some (.int kk (m : Int))) (hm : m ≤ n) : Runs X o E H (.slice (some (if c = m then ⟨b, k, none⟩ else ⟨b, k + m * sz, none⟩)) (n - m) (c - m)) :=
  ⟨(by rw [ho]; intro c e; cases e), fun a w ha _ => by
    simp [execOp, ho, ha.eval hx, ha.eval hy, Instr.sliceAt, Instr.slice, Instr.sliceBounds, Instr.sliceBound, asIntOf, run_underlying hu, hs w, hm]
    by_cases e : c = m <;> simp [e, Addr.add]⟩
theorem R_sliceFromK {t u : TypeId} {x y : Operand} {b k n c sz m : Nat} {kk : IntKind} (ho : o.op = .slice t x (some y) none none) (hu : X.P.underlying t = some (.slice u)) (hs : ∀ w, (sizeOf u).run X.P w = .ok sz w)
    (hx : ev E x = some (.slice (some ⟨b, k, none⟩) n c)) (hy : ev E y = some (.int kk (m : Int))) (hm : m ≤ n) : Runs X o E H (.slice (some ⟨b, if c = m then k else k + m * sz, none⟩) (n - m) (c - m)) := by
  have h := R_sliceFrom (H := H) ho hu hs hx hy hm
  by_cases e : c = m
  · rw [if_pos e] at h ⊢; exact h
  · rw [if_neg e] at h ⊢; exact h
end
theorem quo4 {i q : Nat} (h0 : 0 < i) (hi : i < 4611686018427387904) (hq : q = (i - 1) / 4) : IntKind.i64.wrap (((i : Int) - 1).tdiv 4) = (q : Int) := by
  rw [show ((i : Int) - 1) = ((i - 1 : Nat) : Int) from by omega, Int.tdiv_eq_ediv_of_nonneg (by omega), IntWalk.i64_in _ (by omega)]; omega
end Go.Proofs.YtbkdebnkoidicaaGreat
end
section
namespace Go.Proofs.YtbkdebnkoidicaaGreat
open Go.RowKit (Below)
section
variable (X : Ctx) (ops : Array Oper) (p : Post) (C : World → Prop) (N : List Nat)
def AnyD : Nat → Array Bool → Act → World → Prop
  | 0, listed, a, w => Region.ready .any ops listed = [] ∧ p.nrm a w
  | fuel + 1, listed, a, w => (Region.ready .any ops listed = [] → p.nrm a w) ∧
    ∀ i ∈ Region.ready .any ops listed, wpOpIn (fen X.ro) 0 X.P ops p.toQ i (fun a' w' => C w' ∧ (N.contains i = false → Bel w w') ∧ ∀ w'', Bel w' w'' → AnyD fuel (listed.setIfInBounds i true) a' w'') a w
end
section
variable {X : Ctx} {ops : Array Oper} {p : Post} {C C1 : World → Prop} {N : List Nat}
theorem AnyD.sound : ∀ (fuel : Nat) (listed : Array Bool) (a : Act) (w : World), AnyD X ops p C N fuel listed a w → wpAnyIn (fen X.ro) 0 X.P .any ops p.toQ fuel listed a w
  | 0, _, _, _, h => h
  | fuel + 1, _, _, _, h => ⟨h.1, fun i hi => wpOpIn_mono (fun a' w' k => AnyD.sound fuel _ a' w' (k.2.2 w' (Bel.refl _))) (h.2 i hi)⟩
theorem AnyD.take {i : Nat} {oi : Oper} {v : Value} (hCb : ∀ w w', C w → Bel w w' → C w') (hi : ops[i]? = some oi) (hsd : noSD ops = true) :
    ∀ (fuel : Nat) (listed : Array Bool) (a : Act) (w : World),
      (∀ j oj, ops[j]? = some oj → j ≠ i → listed.getD j true = false → (∀ e ∈ oj.after, Region.binds .any e = true → e.on ≠ i) → oi.apart ops oj = true) →
      i ∈ Region.ready .any ops listed → YieldsC X ops C oi v a → C w →
      (∀ w', Bel w w' → AnyD X ops p C N fuel (listed.setIfInBounds i true) (a.put oi.dst v) w') → AnyD X ops p C N (fuel + 1) listed a w := by
  intro fuel
  induction fuel with
  | zero =>
    intro listed a w _ hr hy hC H
    refine ⟨fun h => (by rw [h] at hr; cases hr), fun j hj => ?_⟩
    by_cases hji : j = i
    · subst hji
      exact hy.wpOp hi (noSD_sel hsd hi).2 hC fun w' hb => ⟨hCb w w' hC hb, fun _ => hb, fun w'' hb' => H w'' (hb.trans' hb')⟩
    · have := ready_mono hj hji
      rw [(H w (Bel.refl _)).1] at this
      cases this
  | succ fuel ih =>
    intro listed a w hfree hr hy hC H
    refine ⟨fun h => (by rw [h] at hr; cases hr), fun j hj => ?_⟩
    by_cases hji : j = i
    · subst hji
      exact hy.wpOp hi (noSD_sel hsd hi).2 hC fun w' hb => ⟨hCb w w' hC hb, fun _ => hb, fun w'' hb' => H w'' (hb.trans' hb')⟩
    · have h1 := (H w (Bel.refl _)).2 j (ready_mono hj hji)
      obtain ⟨hjun, oj, hoj, hall⟩ := mem_ready.1 hj
      have hnot : ∀ e ∈ oj.after, Region.binds .any e = true → e.on ≠ i := fun e he hb heq => by
        have h1 := hall e he hb
        have h0 := (mem_ready.1 hr).1
        rw [heq] at h1
        rcases Nat.lt_or_ge i listed.size with h' | h'
        · simp [h'] at h0 h1; rw [h0] at h1; cases h1
        · simp [Array.getElem?_eq_none h'] at h1
      have h2 := wpOpIn_putC hoj (hfree j oj hoj hji hjun hnot) (noSD_sel hsd hi).1 (noSD_sel hsd hoj).1 (noSD_sel hsd hoj).2 hy h1
      have hfree' : ∀ k ok, ops[k]? = some ok → k ≠ i → (listed.setIfInBounds j true).getD k true = false →
          (∀ e ∈ ok.after, Region.binds .any e = true → e.on ≠ i) → oi.apart ops ok = true := fun k ok hk hki hun hno => by
        refine hfree k ok hk hki ?_ hno
        by_cases hjk : j = k
        · subst hjk; exact hjun
        · rw [getD_set_ne true hjk] at hun; exact hun
      refine wpOpIn_mono (fun a' w' h3 => ⟨h3.2.1, h3.2.2.1, fun w'' hb => ?_⟩) h2
      refine ih (listed.setIfInBounds j true) a' w'' hfree' (ready_mono hr (Ne.symm hji)) h3.1 (hCb _ _ h3.2.1 hb) fun w3 hb3 => ?_
      rw [Array.setIfInBounds_comm _ _ hji]
      exact h3.2.2.2 w3 (hb.trans' hb3)
def reach (ops : Array Oper) (i : Nat) : Nat → Nat → Bool
  | 0, _ => false
  | n + 1, j => match ops[j]? with
    | some oj => oj.after.any fun e => Region.binds .any e && (e.on == i || reach ops i n e.on)
    | none => false
def Closed (ops : Array Oper) (listed : Array Bool) : Prop := ∀ (k : Nat) (ok : Oper), ops[k]? = some ok → listed.getD k true = true → ∀ e ∈ ok.after, Region.binds .any e = true → listed.getD e.on true = true
theorem Closed.reach {listed : Array Bool} (hc : Closed ops listed) (i : Nat) : ∀ (n j : Nat) (oj : Oper), ops[j]? = some oj → (∀ e ∈ oj.after, Region.binds .any e = true → listed.getD e.on true = true) → reach ops i n j = true → listed.getD i true = true
  | 0, _, _, _, _, h => by cases h
  | n + 1, j, oj, hj, hd, h => by
    simp only [Go.Proofs.YtbkdebnkoidicaaGreat.reach, hj, Array.any_eq_true] at h
    obtain ⟨k, hk, h2⟩ := h
    simp only [Bool.and_eq_true, Bool.or_eq_true, beq_iff_eq] at h2
    have h3 := hd _ (Array.getElem_mem hk) h2.1
    rcases h2.2 with e | e
    · rw [← e]; exact h3
    · cases ho : ops[oj.after[k].on]? with
      | none => 
        cases n with
        | zero => cases e
        | succ n => simp only [Go.Proofs.YtbkdebnkoidicaaGreat.reach, ho] at e; cases e
      | some o2 => exact Closed.reach hc i n _ o2 ho (hc _ o2 ho h3) e
theorem getD_up {listed : Array Bool} {k : Nat} (h : listed.getD k false = true) : listed.getD k true = true := by
  rw [Array.getD_eq_getD_getElem?] at h ⊢
  cases e : listed[k]? with
  | none => rfl
  | some b => rw [e] at h; exact h
theorem getD_set {listed : Array Bool} {j k : Nat} (h : listed.getD k true = true) : (listed.setIfInBounds j true).getD k true = true := by
  by_cases e : j = k
  · subst e
    simp only [Array.getD_eq_getD_getElem?, Array.getElem?_setIfInBounds]
    by_cases h2 : j < listed.size <;> simp [h2]
  · rw [getD_set_ne true e]; exact h
theorem Closed.step {listed : Array Bool} (hc : Closed ops listed) {j : Nat} (hj : j ∈ Region.ready .any ops listed) : Closed ops (listed.setIfInBounds j true) := by
  intro k ok hk hl e he hb
  obtain ⟨_, oj, hoj, hall⟩ := mem_ready.1 hj
  by_cases ek : j = k
  · subst ek
    rw [hoj] at hk
    have := Option.some.inj hk
    subst this
    exact getD_set (getD_up (hall e he hb))
  · rw [getD_set_ne true ek] at hl
    exact getD_set (hc k ok hk hl e he hb)
theorem AnyD.take1 {i : Nat} {oi : Oper} {v : Value} (h1b : ∀ w w', C1 w → Bel w w' → C1 w') (h1C : ∀ w, C1 w → C w) (hi : ops[i]? = some oi) (hsd : noSD ops = true)
    (hN : ∀ j oj, N.contains j = true → ops[j]? = some oj → ∃ n, reach ops i n j = true) :
    ∀ (fuel : Nat) (listed : Array Bool) (a : Act) (w : World), Closed ops listed →
      (∀ j oj, ops[j]? = some oj → j ≠ i → listed.getD j true = false → (∀ e ∈ oj.after, Region.binds .any e = true → e.on ≠ i) → oi.apart ops oj = true) →
      i ∈ Region.ready .any ops listed → YieldsC X ops C1 oi v a → C1 w →
      (∀ w', Bel w w' → AnyD X ops p C N fuel (listed.setIfInBounds i true) (a.put oi.dst v) w') → AnyD X ops p C N (fuel + 1) listed a w := by
  intro fuel
  induction fuel with
  | zero =>
    intro listed a w _ _ hr hy hC H
    refine ⟨fun h => (by rw [h] at hr; cases hr), fun j hj => ?_⟩
    by_cases hji : j = i
    · subst hji
      exact hy.wpOp hi (noSD_sel hsd hi).2 hC fun w' hb => ⟨h1C _ (h1b w w' hC hb), fun _ => hb, fun w'' hb' => H w'' (hb.trans' hb')⟩
    · have := ready_mono hj hji
      rw [(H w (Bel.refl _)).1] at this
      cases this
  | succ fuel ih =>
    intro listed a w hcl hfree hr hy hC H
    refine ⟨fun h => (by rw [h] at hr; cases hr), fun j hj => ?_⟩
    by_cases hji : j = i
    · subst hji
      exact hy.wpOp hi (noSD_sel hsd hi).2 hC fun w' hb => ⟨h1C _ (h1b w w' hC hb), fun _ => hb, fun w'' hb' => H w'' (hb.trans' hb')⟩
    · have h1 := (H w (Bel.refl _)).2 j (ready_mono hj hji)
      obtain ⟨hjun, oj, hoj, hall⟩ := mem_ready.1 hj
      have hnot : ∀ e ∈ oj.after, Region.binds .any e = true → e.on ≠ i := fun e he hb heq => by
        have h1 := hall e he hb
        have h0 := (mem_ready.1 hr).1
        rw [heq] at h1
        rcases Nat.lt_or_ge i listed.size with h' | h'
        · simp [h'] at h0 h1; rw [h0] at h1; cases h1
        · simp [Array.getElem?_eq_none h'] at h1
      have hjN : N.contains j = false := by
        cases hc : N.contains j with
        | false => rfl
        | true =>
          obtain ⟨n, hn⟩ := hN j oj hc hoj
          have h8 := hcl.reach i n j oj hoj (fun e he hb => getD_up (hall e he hb)) hn
          have h9 := (mem_ready.1 hr).1
          rw [h8] at h9; cases h9
      have h2 := wpOpIn_putC hoj (hfree j oj hoj hji hjun hnot) (noSD_sel hsd hi).1 (noSD_sel hsd hoj).1 (noSD_sel hsd hoj).2 hy h1
      have hfree' : ∀ k ok, ops[k]? = some ok → k ≠ i → (listed.setIfInBounds j true).getD k true = false →
          (∀ e ∈ ok.after, Region.binds .any e = true → e.on ≠ i) → oi.apart ops ok = true := fun k ok hk hki hun hno => by
        refine hfree k ok hk hki ?_ hno
        by_cases hjk : j = k
        · subst hjk; exact hjun
        · rw [getD_set_ne true hjk] at hun; exact hun
      refine wpOpIn_mono (fun a' w' h3 => ⟨h3.2.1, h3.2.2.1, fun w'' hb => ?_⟩) h2
      refine ih (listed.setIfInBounds j true) a' w'' (hcl.step hj) hfree' (ready_mono hr (Ne.symm hji)) h3.1 (h1b _ _ (h1b _ _ hC (h3.2.2.1 hjN)) hb) fun w3 hb3 => ?_
      rw [Array.setIfInBounds_comm _ _ hji]
      exact h3.2.2.2 w3 (hb.trans' hb3)
def noisyOf (r : List (Nat × Bool)) : List Nat := (r.filter (fun t => !t.2)).map (·.1)
theorem MW.anyD (hCb : ∀ w w', C w → Bel w w' → C w') (hsd : noSD ops = true) : ∀ (l : List (Nat × Bool)) (listed : Array Bool) (a : Act) (w : World), orderB ops l listed = true → (∀ t ∈ l, t.2 = false → N.contains t.1 = true) → C w → MW X ops p C l a w →
    AnyD X ops p C N l.length listed a w
  | [], listed, a, w, hB, _, _, h => ⟨by simpa [orderB] using hB, h⟩
  | (i, true) :: r, listed, a, w, hB, hn, hC, h => by
    simp only [orderB, cond_true, Bool.and_eq_true, List.contains_iff_mem] at hB
    obtain ⟨⟨h1, h2⟩, h3⟩ := hB
    obtain ⟨o, v, ho, hy, hk⟩ := h
    exact AnyD.take hCb ho hsd r.length listed a w (Region.free_spec ho h2) h1 hy hC fun w' hb => MW.anyD hCb hsd r _ _ w' h3 (fun t ht => hn t (List.mem_cons_of_mem _ ht)) (hCb w w' hC hb) (hk w' hb)
  | (i, false) :: r, listed, a, w, hB, hn, hC, h => by
    simp only [orderB, cond_false, Bool.and_eq_true, beq_iff_eq] at hB
    obtain ⟨h1, h3⟩ := hB
    refine ⟨fun e => (by rw [h1] at e; cases e), fun j hj => ?_⟩
    rw [h1, List.mem_singleton] at hj
    subst hj
    exact wpOpIn_mono (fun a' w' hk => ⟨hk.1, fun hf => (by rw [hn (j, false) (List.mem_cons_self ..) rfl] at hf; cases hf), fun w'' hb => MW.anyD hCb hsd r _ _ w'' h3 (fun t ht => hn t (List.mem_cons_of_mem _ ht)) (hCb _ _ hk.1 hb) (hk.2 w'' hb)⟩) h
def ME (X : Ctx) (ops : Array Oper) (p : Post) (C1 C : World → Prop) (r : List (Nat × Bool)) : List (Nat × Bool) → Act → World → Prop
  | [], a, w => MW X ops p C r a w
  | (i, true) :: es, a, w => ∃ o v, ops[i]? = some o ∧ YieldsC X ops C1 o v a ∧ ∀ w', Bel w w' → ME X ops p C1 C r es (a.put o.dst v) w'
  | (i, false) :: es, a, w => ∃ o v, ops[i]? = some o ∧ YieldsC X ops C o v a ∧ ∀ w', Bel w w' → ME X ops p C1 C r es (a.put o.dst v) w'
def waitsFor (ops : Array Oper) (N : List Nat) (i : Nat) : Bool := N.all fun j => reach ops i ops.size j
def orderE (ops : Array Oper) (N : List Nat) (r : List (Nat × Bool)) : List (Nat × Bool) → Array Bool → Bool
  | [], listed => orderB ops r listed
  | (i, q) :: es, listed => (Region.ready .any ops listed).contains i && Region.free .any ops listed i && (!q || waitsFor ops N i) && orderE ops N r es (listed.setIfInBounds i true)
theorem waitsFor_spec {i : Nat} (h : waitsFor ops N i = true) (j : Nat) (oj : Oper) (hj : N.contains j = true) (_ : ops[j]? = some oj) : ∃ n, reach ops i n j = true :=
  ⟨_, List.all_eq_true.1 h j (List.contains_iff_mem.1 hj)⟩
theorem ME.anyD (r : List (Nat × Bool)) (h1b : ∀ w w', C1 w → Bel w w' → C1 w') (h1C : ∀ w, C1 w → C w) (hCb : ∀ w w', C w → Bel w w' → C w') (hsd : noSD ops = true) :
    ∀ (es : List (Nat × Bool)) (listed : Array Bool) (a : Act) (w : World), Closed ops listed → orderE ops (noisyOf r) r es listed = true → C1 w → ME X ops p C1 C r es a w → AnyD X ops p C (noisyOf r) (es.length + r.length) listed a w
  | [], listed, a, w, _, hB, hC, h => by
    simp only [List.length_nil, Nat.zero_add]
    exact MW.anyD hCb hsd r listed a w hB (fun t ht hf => List.contains_iff_mem.2 (List.mem_map.2 ⟨t, List.mem_filter.2 ⟨ht, by rw [hf]; rfl⟩, rfl⟩)) (h1C w hC) h
  | (i, true) :: es, listed, a, w, hcl, hB, hC, h => by
    simp only [orderE, Bool.and_eq_true, List.contains_iff_mem, Bool.not_true, Bool.false_or] at hB
    obtain ⟨⟨⟨h1, h2⟩, h3⟩, h4⟩ := hB
    obtain ⟨o, v, ho, hy, hk⟩ := h
    rw [show ((i, true) :: es).length + r.length = (es.length + r.length) + 1 from by simp only [List.length_cons]; omega]
    exact AnyD.take1 h1b h1C ho hsd (waitsFor_spec h3) _ listed a w hcl (Region.free_spec ho h2) h1 hy hC fun w' hb => ME.anyD r h1b h1C hCb hsd es _ _ w' (hcl.step h1) h4 (h1b w w' hC hb) (hk w' hb)
  | (i, false) :: es, listed, a, w, hcl, hB, hC, h => by
    simp only [orderE, Bool.and_eq_true, List.contains_iff_mem] at hB
    obtain ⟨⟨⟨h1, h2⟩, _⟩, h4⟩ := hB
    obtain ⟨o, v, ho, hy, hk⟩ := h
    rw [show ((i, false) :: es).length + r.length = (es.length + r.length) + 1 from by simp only [List.length_cons]; omega]
    exact AnyD.take hCb ho hsd _ listed a w (Region.free_spec ho h2) h1 hy (h1C w hC) fun w' hb => ME.anyD r h1b h1C hCb hsd es _ _ w' (hcl.step h1) h4 (h1b w w' hC hb) (hk w' hb)
end
def WZ (X : Ctx) (ops : Array Oper) (p : Post) (Hq : Heap) (r es : List (Nat × Bool)) (E : Env) (H : Heap) : Prop := ∀ a w, AE X E a → HW X.H0 X.w0 H w → ME X ops p (fun w => HW X.H0 X.w0 H w) (fun w => HW X.H0 X.w0 Hq w) r es a w
section
variable {X : Ctx} {ops : Array Oper} {p : Post} {Hq : Heap} {E : Env} {H F : Heap} {r es : List (Nat × Bool)} {i : Nat} {o : Oper}
theorem closed0 (l : List Oper) : Closed l.toArray (Array.replicate l.length false) := by
  intro k ok hk hl
  have : k < l.length := by
    have := (Array.getElem?_eq_some_iff.1 hk).1
    simpa using this
  simp [Array.getD_eq_getD_getElem?, this] at hl
theorem WC_drawE {id : Nat} {l : List Oper} (xs : Heap) (es ord : List (Nat × Bool)) (hm : X.P.follows .mixedOrders = true) (hsd : noSD l.toArray = true) (hlen : es.length + ord.length = l.length)
    (hB : orderE l.toArray (noisyOf ord) ord es (Array.replicate l.length false) = true) (hq : Pulls xs H Hq) (h : WZ X l.toArray p Hq ord es E H) : WC X (.region id l.toArray true) p E H := by
  intro a w ha hw
  refine wpIn_region_any hm ?_
  have hb : Bel w { w with drawn := w.drawn + 1 } := Bel.drew' w
  have hw1 := hw.bel hb
  have h1 := ME.anyD (X := X) (p := p) (C1 := fun w => HW X.H0 X.w0 H w) (C := fun w => HW X.H0 X.w0 Hq w) ord (fun _ _ h b => h.bel b) (fun _ h => pulls_rest hq h) (fun _ _ h b => h.bel b) hsd es _ a _ (closed0 l) hB hw1 (h a _ ha hw1)
  rw [hlen] at h1
  have := AnyD.sound _ _ _ _ h1
  simpa using this
theorem WZ_rest (h : WM X ops p Hq r E H) : WZ X ops p Hq r [] E H := h
theorem WZ_early {d : Nat} {v : Value} (ho : ops[i]? = some o) (hg : wantedE ops E o = some true) (hd : o.dst = some d) (hN : Nat.blt d X.N = true) (h : Runs X o E H v)
    (k : WZ X ops p Hq r es ((d, v) :: E) H) : WZ X ops p Hq r ((i, true) :: es) E H := fun a w ha hw =>
  ⟨o, v, ho, .inl ⟨wantedE_spec ha hg, fun w' hw' => .inl (h.2 a w' ha hw')⟩, fun w' hb => k _ _ (by rw [hd]; exact ha.put d v hN) (hw.bel hb)⟩
theorem WZ_val {d : Nat} {v : Value} (ho : ops[i]? = some o) (hg : wantedE ops E o = some true) (hd : o.dst = some d) (hN : Nat.blt d X.N = true) (h : Runs X o E Hq v)
    (k : WZ X ops p Hq r es ((d, v) :: E) H) : WZ X ops p Hq r ((i, false) :: es) E H := fun a w ha hw =>
  ⟨o, v, ho, .inl ⟨wantedE_spec ha hg, fun w' hw' => .inl (h.2 a w' ha hw')⟩, fun w' hb => k _ _ (by rw [hd]; exact ha.put d v hN) (hw.bel hb)⟩
end
end Go.Proofs.YtbkdebnkoidicaaGreat
end
section
namespace Go.Proofs.YtbkdebnkoidicaaGreat
section
variable {X : Ctx} {E : Env} {H : Heap} {o : Oper} {t t' : TypeId} {x y : Operand} {k k' : IntKind} {m n r : Int}
theorem R_addR (ho : o.op = .binOp .add t x y t') (hx : ev E x = some (.int k m)) (hy : ev E y = some (.int k n)) (hr : k.wrap (m + n) = r) : Runs X o E H (.int k r) := hr ▸ R_addW ho hx hy
theorem R_subR (ho : o.op = .binOp .sub t x y t') (hx : ev E x = some (.int k m)) (hy : ev E y = some (.int k n)) (hr : k.wrap (m - n) = r) : Runs X o E H (.int k r) := hr ▸ R_subW ho hx hy
theorem R_mulR (ho : o.op = .binOp .mul t x y t') (hx : ev E x = some (.int k m)) (hy : ev E y = some (.int k n)) (hr : k.wrap (m * n) = r) : Runs X o E H (.int k r) := hr ▸ R_mulW ho hx hy
theorem R_quoR (ho : o.op = .binOp .quo t x y t') (hx : ev E x = some (.int k m)) (hy : ev E y = some (.int k n)) (hn : n ≠ 0) (hr : k.wrap (m.tdiv n) = r) : Runs X o E H (.int k r) :=
  R_arith ho hx hy fun w => by simp [go_sem, Op.intDiv, hn, hr]
theorem R_remR (ho : o.op = .binOp .rem t x y t') (hx : ev E x = some (.int k m)) (hy : ev E y = some (.int k n)) (hn : n ≠ 0) (hr : m.tmod n = r) : Runs X o E H (.int k r) :=
  R_arith ho hx hy fun w => by simp [go_sem, Op.intDiv, hn, hr]
end
theorem w64 {n : Int} (h : 0 ≤ n ∧ n ≤ 18446744073709551615) : IntKind.u64.wrap n = n := IntWalk.u64_in n h
theorem remN {a b : Nat} : ((a : Int)).tmod (b : Int) = ((a % b : Nat) : Int) := by rw [Int.tmod_eq_emod_of_nonneg (by omega)]; simp
end Go.Proofs.YtbkdebnkoidicaaGreat
end
section
set_option linter.unusedVariables false
set_option linter.unusedSimpArgs false
namespace Go.Proofs.YtbkdebnkoidicaaGreat
theorem Pull.app {x : Ent} {B B' : Heap} (h : Pull x B B') : ∀ A : Heap, Pull x (A ++ B) (A ++ B')
  | [] => h
  | _ :: A => .tail (Pull.app h A)
theorem Pulls.app {ys B F : Heap} (h : Pulls ys B F) : ∀ A : Heap, Pulls (A ++ ys) (A ++ B) F
  | [] => h
  | _ :: A => .cons .head (Pulls.app h A)
theorem Pulls.skipA {xs B F : Heap} (h : Pulls xs B F) : ∀ A : Heap, Pulls xs (A ++ B) (A ++ F)
  | [] => h
  | _ :: A => .skip (Pulls.skipA h A)
theorem Pulls.appE (A B : Heap) : Pulls A (A ++ B) B := by
  have := Pulls.app (ys := []) (B := B) (F := B) .nil A
  rw [List.append_nil] at this; exact this
inductive PullA (A : Heap) : Heap → Heap → Prop
  | here {B : Heap} : PullA A (A ++ B) B
  | all : PullA A A []
  | tail {y : Ent} {l l' : Heap} : PullA A l l' → PullA A (y :: l) (y :: l')
  | app {l l' : Heap} (C : Heap) : PullA A l l' → PullA A (C ++ l) (C ++ l')
theorem PullA.perm {A H F : Heap} (h : PullA A H F) : H.Perm (A ++ F) := by
  induction h with
  | here => exact .refl _
  | all => simp
  | tail _ ih => exact (List.Perm.cons _ ih).trans List.perm_middle.symm
  | app C _ ih =>
    refine (List.Perm.append_left C ih).trans ?_
    rw [← List.append_assoc, ← List.append_assoc]
    exact List.Perm.append_right _ List.perm_append_comm
theorem Pulls.chunk {A xs H H1 F : Heap} (h : PullA A H H1) (k : Pulls xs H1 F) : Pulls (A ++ xs) H F :=
  .ofPerm (h.perm.trans (by rw [List.append_assoc]; exact List.Perm.append_left A k.perm))
theorem Pulls.chunk1 {A H F : Heap} (h : PullA A H F) : Pulls A H F := .ofPerm h.perm
theorem Pull.assoc {x : Ent} {A B C F : Heap} (h : Pull x (A ++ (B ++ C)) F) : Pull x ((A ++ B) ++ C) F := by rw [List.append_assoc]; exact h
theorem PullA.assoc {X A B C F : Heap} (h : PullA X (A ++ (B ++ C)) F) : PullA X ((A ++ B) ++ C) F := by rw [List.append_assoc]; exact h
theorem Pulls.assoc {xs A B C F : Heap} (h : Pulls xs (A ++ (B ++ C)) F) : Pulls xs ((A ++ B) ++ C) F := by rw [List.append_assoc]; exact h
theorem Pulls.assocX {A B C H F : Heap} (h : Pulls (A ++ (B ++ C)) H F) : Pulls ((A ++ B) ++ C) H F := by rw [List.append_assoc]; exact h
theorem mem_assoc {x : Ent} {A B C : Heap} (h : x ∈ A ++ (B ++ C)) : x ∈ (A ++ B) ++ C := by rw [List.append_assoc]; exact h
theorem plY {x : Ent} {H F : Heap} (h : Pull x H F := by repeat (first | exact Pull.head | apply Pull.tail | apply Pull.assoc | apply Pull.app)) : Pull x H F := h
theorem pqY {A H F : Heap} (h : Pulls A H F := by repeat (first | exact Pulls.nil | exact Pulls.all | (apply Pulls.cons; (repeat (first | exact Pull.head | apply Pull.tail | apply Pull.assoc | apply Pull.app))) | apply Pulls.assocX | (apply Pulls.chunk; (repeat (first | exact PullA.here | exact PullA.all | apply PullA.tail | apply PullA.assoc | apply PullA.app))) | exact Pulls.appE _ _ | apply Pulls.skip | apply Pulls.assoc | apply Pulls.skipA)) : Pulls A H F := h
theorem mmY {x : Ent} {H : Heap} (h : x ∈ H := by repeat (first | exact List.Mem.head _ | refine List.Mem.tail _ ?_ | refine mem_assoc ?_ | refine List.mem_append_right _ ?_)) : x ∈ H := h
theorem HW.rebase {H H2 H' : Heap} {w w' : World} (hp : H2.Perm H) (r : HW H w H' w') : HW H2 w H' w' :=
  ⟨r.hok, r.os, r.tape, r.output, r.size, fun k hk hn => r.kept k hk (fun h => hn ((keys_perm hp).mem_iff.2 h)), fun k hk => (r.own k hk).imp (fun h => (keys_perm hp).mem_iff.2 h) id, r.dr⟩
theorem Spec.fr {P : Program} {f : FuncId} {args : List Value} {H : Heap} {post : Value → Heap → Prop} (h : Spec P f args H post) (F : Heap) : Spec P f args (H ++ F) (fun v H' => ∃ H1, post v H1 ∧ H' = H1 ++ F) :=
  ⟨h.enters, fun w hw => (h.calls w hw.left).mono fun e w' ⟨v, H', e1, p, r⟩ => ⟨v, H' ++ F, e1, ⟨H', p, rfl⟩, HW.frame (HW.start hw) (.refl _) r⟩⟩
theorem Spec.perm {P : Program} {f : FuncId} {args : List Value} {H H2 : Heap} {post : Value → Heap → Prop} (h : Spec P f args H post) (hp : H2.Perm H) : Spec P f args H2 post :=
  ⟨h.enters, fun w hw => (h.calls w (hw.perm hp)).mono fun e w' ⟨v, H', e1, p, r⟩ => ⟨v, H', e1, p, r.rebase hp⟩⟩
theorem Spec.re {P : Program} {f : FuncId} {args : List Value} {H : Heap} {post : Value → Heap → Prop} (h : Spec P f args H (fun r H' => ∃ H1, H'.Perm H1 ∧ post r H1)) : Spec P f args H post :=
  ⟨h.enters, fun w hw => (h.calls w hw).mono fun e w' ⟨v, H', e1, ⟨H1, p, q⟩, r⟩ => ⟨v, H1, e1, q, r.perm p⟩⟩
structure KeyOk (P : Program) (kt : TypeId) {κ : Type} (ek : κ → Value) : Prop where
  chk : ∀ (em : Bool) (k : κ) (w : World), (Instr.checkKey em 10000 kt (ek k)).run P w = .ok () w
  find : ∀ (k : κ) (l : List MapEntry) (w : World), (∀ x ∈ l, ∃ k', x.key = ek k') → ∃ r, (Instr.findKey kt (ek k) l).run P w = .ok r w ∧ ((r = none ∧ ∀ x ∈ l, x.key ≠ ek k) ∨ ∃ (j : Nat) (e : MapEntry), r = some (j, e.val) ∧ l[j]? = some e ∧ e.key = ek k)
  inj : ∀ a b, ek a = ek b → a = b
structure Mk {κ α : Type} (ek : κ → Value) (ev : α → Value) (es : Array MapEntry) (c : Nat) (L : List (κ × α)) : Prop where
  perm : (es.toList.map fun e => (e.key, e.val)).Perm (L.map fun x => (ek x.1, ev x.2))
  nodup : (L.map (·.1)).Nodup
  born : ∀ e ∈ es.toList, e.born < c
  bnd : (es.toList.map (·.born)).Nodup
section
variable {κ α : Type} {P : Program} {kt : TypeId} {ek : κ → Value} {ev : α → Value} {es : Array MapEntry} {c : Nat} {L L' : List (κ × α)}
theorem Mk.empty : Mk ek ev #[] 0 ([] : List (κ × α)) := ⟨by simp, by simp, by simp, by simp⟩
theorem Mk.to (h : Mk ek ev es c L) (p : L.Perm L') : Mk ek ev es c L' := ⟨h.perm.trans (p.map _), (p.map _).nodup_iff.1 h.nodup, h.born, h.bnd⟩
theorem Mk.has (h : Mk ek ev es c L) {x : κ × α} (hx : x ∈ L) : ∃ e ∈ es.toList, e.key = ek x.1 ∧ e.val = ev x.2 := by
  have : (ek x.1, ev x.2) ∈ es.toList.map fun e => (e.key, e.val) := h.perm.mem_iff.2 (List.mem_map.2 ⟨x, hx, rfl⟩)
  obtain ⟨e, he, hh⟩ := List.mem_map.1 this
  exact ⟨e, he, congrArg Prod.fst hh, congrArg Prod.snd hh⟩
theorem Mk.back (h : Mk ek ev es c L) {e : MapEntry} (he : e ∈ es.toList) : ∃ x ∈ L, e.key = ek x.1 ∧ e.val = ev x.2 := by
  have : (e.key, e.val) ∈ L.map fun x => (ek x.1, ev x.2) := h.perm.mem_iff.1 (List.mem_map.2 ⟨e, he, rfl⟩)
  obtain ⟨x, hx, hh⟩ := List.mem_map.1 this
  exact ⟨x, hx, (congrArg Prod.fst hh).symm, (congrArg Prod.snd hh).symm⟩
theorem Mk.keys (h : Mk ek ev es c L) : ∀ x ∈ es.toList, ∃ k', x.key = ek k' := fun x hx => by
  obtain ⟨y, _, e1, _⟩ := h.back hx
  exact ⟨y.1, e1⟩
theorem Mk.find (K : KeyOk P kt ek) (h : Mk ek ev es c L) {k : κ} {a : α} (hx : (k, a) ∈ L) (w : World) : ∃ j, (Instr.findKey kt (ek k) es.toList).run P w = .ok (some (j, ev a)) w := by
  obtain ⟨r, h1, h2⟩ := K.find k es.toList w h.keys
  rcases h2 with ⟨_, h2⟩ | ⟨j, e, rfl, h2, h3⟩
  · obtain ⟨e, he, hk, _⟩ := h.has hx
    exact absurd hk (h2 e he)
  · obtain ⟨⟨k', b⟩, hy, e1, e2⟩ := h.back (List.mem_of_getElem? h2)
    obtain rfl := K.inj _ _ (e1.symm.trans h3)
    obtain rfl := key_uniq h.nodup hx hy
    exact ⟨j, by rw [h1, e2]⟩
theorem Mk.none (K : KeyOk P kt ek) (h : Mk ek ev es c L) {k : κ} (hx : k ∉ L.map (·.1)) (w : World) : (Instr.findKey kt (ek k) es.toList).run P w = .ok none w := by
  obtain ⟨r, h1, h2⟩ := K.find k es.toList w h.keys
  rcases h2 with ⟨rfl, _⟩ | ⟨j, e, rfl, h2, h3⟩
  · exact h1
  · obtain ⟨⟨k', b⟩, hy, e1, _⟩ := h.back (List.mem_of_getElem? h2)
    obtain rfl := K.inj _ _ (e1.symm.trans h3)
    exact absurd (List.mem_map.2 ⟨_, hy, rfl⟩) hx
theorem Mk.add (h : Mk ek ev es c L) {k : κ} (a : α) (hx : k ∉ L.map (·.1)) : Mk ek ev (es.push { key := ek k, val := ev a, born := c }) (c + 1) ((k, a) :: L) := by
  refine ⟨?_, by simpa using ⟨by simpa using hx, h.nodup⟩, fun e he => ?_, ?_⟩
  · rw [Array.toList_push, List.map_append]
    exact List.perm_append_comm.trans (.cons _ h.perm)
  · rw [Array.toList_push, List.mem_append, List.mem_singleton] at he
    rcases he with he | rfl
    · exact Nat.lt_succ_of_lt (h.born e he)
    · exact Nat.lt_succ_self c
  · rw [Array.toList_push, List.map_append, List.nodup_append]
    refine ⟨h.bnd, by simp, fun x hx y hy => ?_⟩
    obtain ⟨e, he, rfl⟩ := List.mem_map.1 hx
    have := h.born e he
    simp at hy
    omega
end
section
variable {X : Ctx} {E : Env} {H F : Heap} {o : Oper} {κ α : Type} {ek : κ → Value} {ev : α → Value} {es : Array MapEntry} {c b : Nat} {L : List (κ × α)} {mt kt et : TypeId} {x y z : Operand}
theorem R_lookK {k : κ} {a : α} (ho : o.op = .lookup mt x y false) (hu : X.P.underlying mt = some (.map kt et)) (K : KeyOk X.P kt ek) (hx : Go.Proofs.YtbkdebnkoidicaaGreat.ev E x = some (.map (some b))) (hy : Go.Proofs.YtbkdebnkoidicaaGreat.ev E y = some (ek k)) (hm : (⟨some b, .map es c⟩ : Ent) ∈ H) (hM : Mk ek ev es c L) (hin : (k, a) ∈ L) :
    Runs X o E H (ev a) :=
  ⟨(by rw [ho]; intro c e; cases e), fun A w ha hw => by
    obtain ⟨j, h1⟩ := hM.find K hin w
    have hl : (Instr.lookup mt (.map (some b)) (ek k) false).run X.P w = .ok (ev a) w := by
      simp [Instr.lookup, run_underlying hu, MapKept.run_getObj_map (hw.mapAt hm), K.chk, h1, Result.andThen]
    simp [execOp, ho, ha.eval hx, ha.eval hy, hl]⟩
theorem R_lookK0 {k : κ} {zv : Value} (ho : o.op = .lookup mt x y false) (hu : X.P.underlying mt = some (.map kt et)) (K : KeyOk X.P kt ek) (hx : Go.Proofs.YtbkdebnkoidicaaGreat.ev E x = some (.map (some b))) (hy : Go.Proofs.YtbkdebnkoidicaaGreat.ev E y = some (ek k)) (hm : (⟨some b, .map es c⟩ : Ent) ∈ H) (hM : Mk ek ev es c L) (hin : k ∉ L.map (·.1))
    (hz : ∀ w, (zeroValue et).run X.P w = .ok zv w) : Runs X o E H zv :=
  ⟨(by rw [ho]; intro c e; cases e), fun A w ha hw => by
    have h1 := hM.none K hin w
    have hl : (Instr.lookup mt (.map (some b)) (ek k) false).run X.P w = .ok zv w := by
      simp [Instr.lookup, run_underlying hu, MapKept.run_getObj_map (hw.mapAt hm), K.chk, h1, hz, Result.andThen]
    simp [execOp, ho, ha.eval hx, ha.eval hy, hl]⟩
theorem D_mapAddK {k : κ} {v : α} (ho : o.op = .mapUpdate mt x y z) (hu : X.P.underlying mt = some (.map kt et)) (K : KeyOk X.P kt ek) (hx : Go.Proofs.YtbkdebnkoidicaaGreat.ev E x = some (.map (some b))) (hy : Go.Proofs.YtbkdebnkoidicaaGreat.ev E y = some (ek k)) (hz : Go.Proofs.YtbkdebnkoidicaaGreat.ev E z = some (ev v)) (hp : Pull ⟨some b, .map es c⟩ H F) (hM : Mk ek ev es c L) (hin : k ∉ L.map (·.1)) :
    Does X o E H (fun _ H' => ∃ es', Mk ek ev es' (c + 1) ((k, v) :: L) ∧ H' = ⟨some b, .map es' (c + 1)⟩ :: F) := by
  intro A w ha hw next Q kk
  refine ⟨about_true, ?_⟩
  rw [semAt_of (by rw [ho]; intro c e; cases e)]
  have hb := hw.mapAt (pull_mem hp)
  have h1 := hM.none K hin w
  have hrun : (execOp A.eval o).run X.P w = .ok .skip { w with heap := w.heap.setIfInBounds b (.map (es.push { key := ek k, val := ev v, born := c }) (c + 1)) } := by
    simp [execOp, ho, ha.eval hx, ha.eval hy, ha.eval hz, Instr.mapUpdate, run_underlying hu, MapKept.run_getObj_map hb, K.chk, h1, MapKept.run_setObj_map _ hb, Result.andThen]
  rw [hrun]
  exact kk undef _ _ ⟨_, hM.add v hin, rfl⟩ (hw.turnMap hp)
theorem D_rangeMap (ho : o.op = .range mt x) (hu : X.P.underlying mt = some (.map kt et)) (hx : Go.Proofs.YtbkdebnkoidicaaGreat.ev E x = some (.map (some b))) (hm : (⟨some b, .map es c⟩ : Ent) ∈ H) :
    Does X o E H (fun v H' => ∃ bi, v = .pointer (some ⟨bi, 0, none⟩) ∧ H' = ⟨some bi, .mapIter (some b) c #[] c⟩ :: H) := by
  intro A w ha hw next Q kk
  refine ⟨about_true, ?_⟩
  rw [semAt_of (by rw [ho]; intro c e; cases e)]
  have hrun : (execOp A.eval o).run X.P w = .ok (.value (.pointer (some ⟨w.heap.size, 0, none⟩))) (w.alloc (.mapIter (some b) c #[] c)) := by
    simp [execOp, ho, ha.eval hx, run_range_map w mt kt et b es c hu (hw.mapAt hm)]
  rw [hrun]
  exact kk _ _ _ ⟨_, rfl, rfl⟩ (hw.alloc _)
theorem run_choose_next {P : Program} (w : World) {n : Nat} (hn : 0 < n) : ∃ j w1, j < n ∧ (w1 = w ∨ w1 = { w with drawn := w.drawn + 1 }) ∧ (choose (.mapNext n)).run P w = .ok j w1 := by
  by_cases hf : n ≤ 1
  · exact ⟨0, w, hn, .inl rfl, by simp [choose, Sem.run, Question.forced, hf]⟩
  · exact ⟨_, _, Nat.mod_lt _ hn, .inr rfl, by
      simp only [choose, Sem.run, Question.forced, decide_eq_true_eq, hf, if_false, Question.cut]
      rfl⟩
theorem D_nextMap {bi : Nat} {seen : Array Nat} (ho : o.op = .next x false) (hx : Go.Proofs.YtbkdebnkoidicaaGreat.ev E x = some (.pointer (some ⟨bi, 0, none⟩))) (hp : Pull ⟨some bi, .mapIter (some b) c seen c⟩ H F) (hm : (⟨some b, .map es c⟩ : Ent) ∈ H) (hb : ∀ e ∈ es.toList, e.born < c) :
    Does X o E H (fun v H' => (v = .tuple #[.bool false] ∧ H' = ⟨some bi, .mapIter (some b) c seen c⟩ :: F ∧ ∀ e ∈ es.toList, e.born ∈ seen) ∨ ∃ e ∈ es.toList, e.born ∉ seen ∧ v = .tuple #[.bool true, e.key, e.val] ∧ H' = ⟨some bi, .mapIter (some b) c (seen.push e.born) c⟩ :: F) := by
  intro A w ha hw next Q kk
  refine ⟨about_true, ?_⟩
  rw [semAt_of (by rw [ho]; intro c e; cases e)]
  have hmb := hw.mapAt hm
  have hw1 := hw.perm hp.perm
  have hib : w.heap[bi]? = some (.mapIter (some b) c seen c) := by
    have := hw1.hok.ok _ (List.mem_cons_self ..)
    simpa [Ent.ok] using this
  have hex : ∀ r, (Instr.next (.pointer (some ⟨bi, 0, none⟩)) false o.type).run X.P w = r → (execOp A.eval o).run X.P w = (r.andThen fun v w' => .ok (.value v) w') := fun r hr => by
    simp [execOp, ho, ha.eval hx, hr]
  have hg : (getObj bi).run X.P w = .ok (.mapIter (some b) c seen c) w := by simp [getObj, Sem.run, hib]
  have hg2 : (getObj b).run X.P w = .ok (.map es c) w := MapKept.run_getObj_map hmb
  have htest := next_test_false seen es c c hb (Nat.le_refl _)
  have e1 : (es.filter fun e => !seen.contains e.born).filter (fun x => decide (x.born < c)) = es.filter fun e => !seen.contains e.born := Array.filter_eq_self.2 (fun x hx => by
    have : x ∈ es.toList := by simp at hx ⊢; exact hx.1
    simpa using hb x this)
  have e2 : (es.filter fun e => !seen.contains e.born).filter (fun x => decide (x.born ≥ c)) = #[] := by
    rw [Array.filter_eq_empty_iff]
    intro x hx
    have : x ∈ es.toList := by simp at hx ⊢; exact hx.1
    have := hb x this
    simp
    omega
  have hmem : ∀ e, e ∈ es.filter (fun e => !seen.contains e.born) ↔ e ∈ es.toList ∧ e.born ∉ seen := fun e => by simp
  have hn : (Instr.next (.pointer (some ⟨bi, 0, none⟩)) false o.type).run X.P w = (if (es.filter fun e => !seen.contains e.born).isEmpty then .ok (.tuple #[.bool false]) w else
      (do let j ← choose (.mapNext (es.filter fun e => !seen.contains e.born).size)
          match ((es.filter fun e => !seen.contains e.born).map some)[j]? with
          | some (some e) => do
            setObj bi (.mapIter (some b) c (seen.push e.born) c)
            pure (.tuple #[.bool true, e.key, e.val])
          | some none => pure (.tuple #[.bool false])
          | none => stuck "Next: no such candidate" : Sem Value).run X.P w) := by
    simp only [Instr.next, Sem.run_bind, hg, hg2, Result.andThen_ok, htest, Bool.false_eq_true, if_false, e1, e2, Array.append_empty]
    by_cases h0 : (es.filter fun e => !seen.contains e.born).isEmpty = true
    · have : (es.filter fun e => !seen.contains e.born) = #[] := by simpa using h0
      rw [this]
      simp [choose, Sem.run, Question.forced, Result.andThen]
    · simp only [h0, if_false, Array.empty_append, Array.size_map, Bool.false_eq_true]
      rfl
  generalize es.filter (fun e => !seen.contains e.born) = Lf at hmem hn
  by_cases h0 : Lf.isEmpty = true
  · rw [if_pos h0] at hn
    rw [hex _ hn]
    refine kk _ _ _ (.inl ⟨rfl, rfl, fun e he => ?_⟩) hw1
    have hLe : Lf = #[] := by simpa using h0
    by_cases hs : e.born ∈ seen
    · exact hs
    · have := (hmem e).2 ⟨he, hs⟩
      rw [hLe] at this
      simp at this
  · rw [if_neg h0] at hn
    have hpos : 0 < Lf.size := by
      rcases Nat.eq_zero_or_pos Lf.size with h | h
      · exact absurd (by simpa using Array.eq_empty_of_size_eq_zero h) h0
      · exact h
    obtain ⟨j, w1, hj, hw1e, hrun⟩ := run_choose_next (P := X.P) w hpos
    have hb1 : Bel w w1 := by
      rcases hw1e with rfl | rfl
      · exact Bel.refl _
      · exact Bel.drew' w
    have hw2 := hw.bel hb1
    have hw2p := hw2.perm hp.perm
    have hlt : bi < w1.heap.size := hw2p.hok.lt (by simp [keys])
    have hib1 : w1.heap[bi]? = some (.mapIter (some b) c seen c) := by
      have := hw2p.hok.ok _ (List.mem_cons_self ..)
      simpa [Ent.ok] using this
    have hset : (setObj bi (.mapIter (some b) c (seen.push Lf[j].born) c)).run X.P w1 = .ok () { w1 with heap := w1.heap.setIfInBounds bi (.mapIter (some b) c (seen.push Lf[j].born) c) } := by
      simp only [setObj, Sem.run, hib1]
    have hn2 : (Instr.next (.pointer (some ⟨bi, 0, none⟩)) false o.type).run X.P w = .ok (.tuple #[.bool true, Lf[j].key, Lf[j].val]) { w1 with heap := w1.heap.setIfInBounds bi (.mapIter (some b) c (seen.push Lf[j].born) c) } := by
      rw [hn]
      simp only [Sem.run_bind, hrun, Result.andThen_ok, Array.getElem?_map, Array.getElem?_eq_getElem hj, Option.map_some, hset, Sem.run_pure]
    rw [hex _ hn2]
    have hin := (hmem Lf[j]).1 (Array.getElem_mem hj)
    refine kk _ _ _ (.inr ⟨Lf[j], hin.1, hin.2, rfl, rfl⟩) (hw2.turn hp (by simp) ?_ (fun k hk => ?_) rfl rfl rfl)
    · simp [Array.getElem?_setIfInBounds, hlt]
    · simp [Array.getElem?_setIfInBounds, Ne.symm hk]
theorem R_entryMap {bi : Nat} {seen : Array Nat} {e : MapEntry} (ho : o.op = .entry x) (hx : Go.Proofs.YtbkdebnkoidicaaGreat.ev E x = some (.pointer (some ⟨bi, 0, none⟩))) (hi : (⟨some bi, .mapIter (some b) c (seen.push e.born) c⟩ : Ent) ∈ H) (hm : (⟨some b, .map es c⟩ : Ent) ∈ H) (he : e ∈ es.toList) (hn : (es.toList.map (·.born)).Nodup) : Runs X o E H (.tuple #[e.key, e.val]) :=
  ⟨(by rw [ho]; intro c e; cases e), fun A w ha hw => by
    have hmb := hw.mapAt hm
    have hib : w.heap[bi]? = some (.mapIter (some b) c (seen.push e.born) c) := by
      have := hw.hok.ok _ hi
      simpa [Ent.ok] using this
    have hg : (getObj bi).run X.P w = .ok (.mapIter (some b) c (seen.push e.born) c) w := by simp [getObj, Sem.run, hib]
    have hg2 : (getObj b).run X.P w = .ok (.map es c) w := MapKept.run_getObj_map hmb
    have hf : es.find? (·.born == e.born) = some e := by rw [← Array.find?_toList]; exact find_born e es.toList hn he
    have hl : (Instr.entry (.pointer (some ⟨bi, 0, none⟩))).run X.P w = .ok (.tuple #[e.key, e.val]) w := by
      simp only [Instr.entry, Sem.run_bind, hg, hg2, Result.andThen_ok, Array.back?_push, bne_self_eq_false, Bool.false_eq_true, if_false, hf]
      rfl
    simp [execOp, ho, ha.eval hx, hl]⟩
end
end Go.Proofs.YtbkdebnkoidicaaGreat
end
section
set_option linter.unusedVariables false
set_option linter.unusedSimpArgs false
namespace Go.Proofs.YtbkdebnkoidicaaGreat
section
variable {κ α : Type} {P : Program} {kt : TypeId} {ek : κ → Value} {ev : α → Value} {es : Array MapEntry} {c : Nat} {L L' : List (κ × α)}
theorem Mk.size (h : Mk ek ev es c L) : es.size = L.length := by
  have := h.perm.length_eq
  simpa using this
theorem Mk.del [DecidableEq κ] (h : Mk ek ev es c L) {k : κ} {a : α} (hx : (k, a) ∈ L) {j : Nat} {e : MapEntry} (hj : es.toList[j]? = some e) (he : e.key = ek k) (hv : e.val = ev a) :
    Mk ek ev (es.eraseIdxIfInBounds j) c (delL L k) := by
  obtain ⟨s, t, hs, hl⟩ := perm_middle_split hj
  obtain ⟨A, B, rfl⟩ := List.append_of_mem hx
  have hnd := h.nodup
  have hne := split_ne hnd
  have hdel : delL (A ++ (k, a) :: B) k = A ++ B := by
    unfold delL
    rw [List.filter_append, List.filter_cons_of_neg (by simp)]
    rw [List.filter_eq_self.2 (fun x hx => by simpa using hne x (List.mem_append_left _ hx)), List.filter_eq_self.2 (fun x hx => by simpa using hne x (List.mem_append_right _ hx))]
  have hm : (es.eraseIdxIfInBounds j).toList = s ++ t := by
    rw [Array.toList_eraseIdxIfInBounds, hs]
    subst hl
    simp [List.eraseIdx_append_of_length_le]
  rw [hdel]
  refine ⟨?_, ?_, fun x hx => ?_, ?_⟩
  · rw [hm]
    have hp := h.perm
    rw [hs] at hp
    have p1 : ((s ++ e :: t).map fun e => (e.key, e.val)).Perm ((e.key, e.val) :: (s ++ t).map fun e => (e.key, e.val)) := (List.perm_middle (l₁ := s) (a := e) (l₂ := t)).map _
    have p2 : ((A ++ (k, a) :: B).map fun x : κ × α => (ek x.1, ev x.2)).Perm ((ek k, ev a) :: (A ++ B).map fun x => (ek x.1, ev x.2)) := (List.perm_middle (l₁ := A) (a := (k, a)) (l₂ := B)).map _
    have p3 := p1.symm.trans (hp.trans p2)
    rw [he, hv] at p3
    exact List.Perm.cons_inv p3
  · have := ((List.perm_middle (l₁ := A) (a := (k, a)) (l₂ := B)).map (fun x : κ × α => x.1)).nodup_iff.1 hnd
    rw [List.map_cons, List.nodup_cons] at this
    exact this.2
  · rw [hm] at hx
    refine h.born x ?_
    rw [hs]
    rcases List.mem_append.1 hx with hx | hx
    · exact List.mem_append_left _ hx
    · exact List.mem_append_right _ (List.mem_cons_of_mem _ hx)
  · have hb := h.bnd
    rw [hs] at hb
    rw [hm]
    have := ((List.perm_middle (l₁ := s) (a := e) (l₂ := t)).map (fun x : MapEntry => x.born)).nodup_iff.1 hb
    rw [List.map_cons, List.nodup_cons] at this
    exact this.2
end
section
variable {X : Ctx} {E : Env} {H F : Heap} {o : Oper} {κ α : Type} {ek : κ → Value} {ev : α → Value} {es : Array MapEntry} {c b : Nat} {L : List (κ × α)} {mt kt et : TypeId} {x y z : Operand}
variable {t : TypeId} {s : ByteArray}
end
end Go.Proofs.YtbkdebnkoidicaaGreat
end
section
namespace Go.Proofs.YtbkdebnkoidicaaGreat
theorem followsMixed : Tryz.prog.follows .mixedOrders = true := by kernel_rfl
theorem ag30 : Ag Tryz.prog 30 2 := fun w => ⟨Tryz.isAgg30 w, Tryz.sizeOf30 w⟩
theorem ag54 : Ag Tryz.prog 54 7 := fun w => ⟨Tryz.isAgg54 w, Tryz.sizeOf54 w⟩
theorem ag71 : Ag Tryz.prog 71 2 := fun w => ⟨Tryz.isAgg71 w, Tryz.sizeOf71 w⟩
theorem ag74 : Ag Tryz.prog 74 2 := fun w => ⟨Tryz.isAgg74 w, Tryz.sizeOf74 w⟩
theorem ag76 : Ag Tryz.prog 76 2 := fun w => ⟨Tryz.isAgg76 w, Tryz.sizeOf76 w⟩
theorem ag79 : Ag Tryz.prog 79 3 := fun w => ⟨Tryz.isAgg79 w, Tryz.sizeOf79 w⟩
theorem ag81 : Ag Tryz.prog 81 8 := fun w => ⟨Tryz.isAgg81 w, Tryz.sizeOf81 w⟩
theorem ag108 : Ag Tryz.prog 108 2 := fun w => ⟨Tryz.isAgg108 w, Tryz.sizeOf108 w⟩
theorem ag117 : Ag Tryz.prog 117 3 := fun w => ⟨Tryz.isAgg117 w, Tryz.sizeOf117 w⟩
theorem ag143 : Ag Tryz.prog 143 4 := fun w => ⟨Tryz.isAgg143 w, Tryz.sizeOf143 w⟩
theorem ag160 : Ag Tryz.prog 160 2 := fun w => ⟨Tryz.isAgg160 w, Tryz.sizeOf160 w⟩
theorem ag164 : Ag Tryz.prog 164 1024 := fun w => ⟨Tryz.isAgg164 w, Tryz.sizeOf164 w⟩
theorem ag182 : Ag Tryz.prog 182 3 := fun w => ⟨Tryz.isAgg182 w, Tryz.sizeOf182 w⟩
theorem ag193 : Ag Tryz.prog 193 4 := fun w => ⟨Tryz.isAgg193 w, Tryz.sizeOf193 w⟩
theorem ag195 : Ag Tryz.prog 195 2 := fun w => ⟨Tryz.isAgg195 w, Tryz.sizeOf195 w⟩
theorem ag241 : Ag Tryz.prog 241 2 := fun w => ⟨Tryz.isAgg241 w, Tryz.sizeOf241 w⟩
theorem ag250 : Ag Tryz.prog 250 3 := fun w => ⟨Tryz.isAgg250 w, Tryz.sizeOf250 w⟩
theorem ag254 : Ag Tryz.prog 254 3 := fun w => ⟨Tryz.isAgg254 w, Tryz.sizeOf254 w⟩
theorem ag278 : Ag Tryz.prog 278 3 := fun w => ⟨Tryz.isAgg278 w, Tryz.sizeOf278 w⟩
theorem ag296 : Ag Tryz.prog 296 2 := fun w => ⟨Tryz.isAgg296 w, Tryz.sizeOf296 w⟩
theorem ag300 : Ag Tryz.prog 300 4 := fun w => ⟨Tryz.isAgg300 w, Tryz.sizeOf300 w⟩
theorem fa30_0 : FldAt Tryz.prog 30 0 0 := FldAt.mk Tryz.underlying30 rfl rfl Tryz.sizeOf3 (by decide)
theorem fa30_1 : FldAt Tryz.prog 30 1 1 := FldAt.mk Tryz.underlying30 rfl rfl Tryz.sizeOf3 (by decide)
theorem fa54_0 : FldAt Tryz.prog 54 0 0 := FldAt.mk Tryz.underlying54 rfl rfl Tryz.sizeOf3 (by decide)
theorem fa54_1 : FldAt Tryz.prog 54 1 1 := FldAt.mk Tryz.underlying54 rfl rfl Tryz.sizeOf3 (by decide)
theorem fa54_2 : FldAt Tryz.prog 54 2 2 := FldAt.mk Tryz.underlying54 rfl rfl Tryz.sizeOf3 (by decide)
theorem fa54_3 : FldAt Tryz.prog 54 3 3 := FldAt.mk Tryz.underlying54 rfl rfl Tryz.sizeOf30 (by decide)
theorem fa54_4 : FldAt Tryz.prog 54 4 5 := FldAt.mk Tryz.underlying54 rfl rfl Tryz.sizeOf44 (by decide)
theorem fa54_5 : FldAt Tryz.prog 54 5 6 := FldAt.mk Tryz.underlying54 rfl rfl Tryz.sizeOf28 (by decide)
theorem fa71_0 : FldAt Tryz.prog 71 0 0 := FldAt.mk Tryz.underlying71 rfl rfl Tryz.sizeOf3 (by decide)
theorem fa71_1 : FldAt Tryz.prog 71 1 1 := FldAt.mk Tryz.underlying71 rfl rfl Tryz.sizeOf69 (by decide)
theorem fa74_0 : FldAt Tryz.prog 74 0 0 := FldAt.mk Tryz.underlying74 rfl rfl Tryz.sizeOf28 (by decide)
theorem fa74_1 : FldAt Tryz.prog 74 1 1 := FldAt.mk Tryz.underlying74 rfl rfl Tryz.sizeOf72 (by decide)
theorem fa76_0 : FldAt Tryz.prog 76 0 0 := FldAt.mk Tryz.underlying76 rfl rfl Tryz.sizeOf34 (by decide)
theorem fa76_1 : FldAt Tryz.prog 76 1 1 := FldAt.mk Tryz.underlying76 rfl rfl Tryz.sizeOf34 (by decide)
theorem fa79_0 : FldAt Tryz.prog 79 0 0 := FldAt.mk Tryz.underlying79 rfl rfl Tryz.sizeOf76 (by decide)
theorem fa79_1 : FldAt Tryz.prog 79 1 2 := FldAt.mk Tryz.underlying79 rfl rfl Tryz.sizeOf77 (by decide)
theorem fa81_0 : FldAt Tryz.prog 81 0 0 := FldAt.mk Tryz.underlying81 rfl rfl Tryz.sizeOf71 (by decide)
theorem fa81_1 : FldAt Tryz.prog 81 1 2 := FldAt.mk Tryz.underlying81 rfl rfl Tryz.sizeOf74 (by decide)
theorem fa81_2 : FldAt Tryz.prog 81 2 4 := FldAt.mk Tryz.underlying81 rfl rfl Tryz.sizeOf79 (by decide)
theorem fa81_3 : FldAt Tryz.prog 81 3 7 := FldAt.mk Tryz.underlying81 rfl rfl Tryz.sizeOf34 (by decide)
theorem fa92_0 : FldAt Tryz.prog 92 0 0 := FldAt.mk Tryz.underlying92 rfl rfl Tryz.sizeOf87 (by decide)
theorem fa92_1 : FldAt Tryz.prog 92 1 1 := FldAt.mk Tryz.underlying92 rfl rfl Tryz.sizeOf88 (by decide)
theorem fa92_2 : FldAt Tryz.prog 92 2 2 := FldAt.mk Tryz.underlying92 rfl rfl Tryz.sizeOf89 (by decide)
theorem fa92_3 : FldAt Tryz.prog 92 3 3 := FldAt.mk Tryz.underlying92 rfl rfl Tryz.sizeOf90 (by decide)
theorem fa108_0 : FldAt Tryz.prog 108 0 0 := FldAt.mk Tryz.underlying108 rfl rfl Tryz.sizeOf3 (by decide)
theorem fa108_1 : FldAt Tryz.prog 108 1 1 := FldAt.mk Tryz.underlying108 rfl rfl Tryz.sizeOf44 (by decide)
theorem fa117_0 : FldAt Tryz.prog 117 0 0 := FldAt.mk Tryz.underlying117 rfl rfl Tryz.sizeOf108 (by decide)
theorem fa117_1 : FldAt Tryz.prog 117 1 2 := FldAt.mk Tryz.underlying117 rfl rfl Tryz.sizeOf28 (by decide)
theorem fa143_0 : FldAt Tryz.prog 143 0 0 := FldAt.mk Tryz.underlying143 rfl rfl Tryz.sizeOf30 (by decide)
theorem fa143_1 : FldAt Tryz.prog 143 1 2 := FldAt.mk Tryz.underlying143 rfl rfl Tryz.sizeOf3 (by decide)
theorem fa143_2 : FldAt Tryz.prog 143 2 3 := FldAt.mk Tryz.underlying143 rfl rfl Tryz.sizeOf4 (by decide)
theorem fa154_0 : FldAt Tryz.prog 154 0 0 := FldAt.mk Tryz.underlying154 rfl rfl Tryz.sizeOf148 (by decide)
theorem fa154_1 : FldAt Tryz.prog 154 1 1 := FldAt.mk Tryz.underlying154 rfl rfl Tryz.sizeOf151 (by decide)
theorem fa154_2 : FldAt Tryz.prog 154 2 2 := FldAt.mk Tryz.underlying154 rfl rfl Tryz.sizeOf152 (by decide)
theorem fa160_0 : FldAt Tryz.prog 160 0 0 := FldAt.mk Tryz.underlying160 rfl rfl Tryz.sizeOf3 (by decide)
theorem fa160_1 : FldAt Tryz.prog 160 1 1 := FldAt.mk Tryz.underlying160 rfl rfl Tryz.sizeOf3 (by decide)
theorem fa162_0 : FldAt Tryz.prog 162 0 0 := FldAt.mk Tryz.underlying162 rfl rfl Tryz.sizeOf28 (by decide)
theorem fa162_1 : FldAt Tryz.prog 162 1 1 := FldAt.mk Tryz.underlying162 rfl rfl Tryz.sizeOf4 (by decide)
theorem fa162_2 : FldAt Tryz.prog 162 2 2 := FldAt.mk Tryz.underlying162 rfl rfl Tryz.sizeOf160 (by decide)
theorem fa166_0 : FldAt Tryz.prog 166 0 0 := FldAt.mk Tryz.underlying166 rfl rfl Tryz.sizeOf155 (by decide)
theorem fa166_1 : FldAt Tryz.prog 166 1 1 := FldAt.mk Tryz.underlying166 rfl rfl Tryz.sizeOf158 (by decide)
theorem fa166_2 : FldAt Tryz.prog 166 2 2 := FldAt.mk Tryz.underlying166 rfl rfl Tryz.sizeOf164 (by decide)
theorem fa169_0 : FldAt Tryz.prog 169 0 0 := FldAt.mk Tryz.underlying169 rfl rfl Tryz.sizeOf167 (by decide)
theorem fa172_0 : FldAt Tryz.prog 172 0 0 := FldAt.mk Tryz.underlying172 rfl rfl Tryz.sizeOf3 (by decide)
theorem fa172_1 : FldAt Tryz.prog 172 1 1 := FldAt.mk Tryz.underlying172 rfl rfl Tryz.sizeOf3 (by decide)
theorem fa172_2 : FldAt Tryz.prog 172 2 2 := FldAt.mk Tryz.underlying172 rfl rfl Tryz.sizeOf4 (by decide)
theorem fa182_0 : FldAt Tryz.prog 182 0 0 := FldAt.mk Tryz.underlying182 rfl rfl Tryz.sizeOf108 (by decide)
theorem fa182_1 : FldAt Tryz.prog 182 1 2 := FldAt.mk Tryz.underlying182 rfl rfl Tryz.sizeOf27 (by decide)
theorem fa193_1 : FldAt Tryz.prog 193 1 2 := FldAt.mk Tryz.underlying193 rfl rfl Tryz.sizeOf3 (by decide)
theorem fa193_2 : FldAt Tryz.prog 193 2 3 := FldAt.mk Tryz.underlying193 rfl rfl Tryz.sizeOf28 (by decide)
theorem fa239_0 : FldAt Tryz.prog 239 0 0 := FldAt.mk Tryz.underlying239 rfl rfl Tryz.sizeOf237 (by decide)
theorem fa239_1 : FldAt Tryz.prog 239 1 1 := FldAt.mk Tryz.underlying239 rfl rfl Tryz.sizeOf177 (by decide)
theorem fa241_0 : FldAt Tryz.prog 241 0 0 := FldAt.mk Tryz.underlying241 rfl rfl Tryz.sizeOf4 (by decide)
theorem fa241_1 : FldAt Tryz.prog 241 1 1 := FldAt.mk Tryz.underlying241 rfl rfl Tryz.sizeOf28 (by decide)
theorem fa245_0 : FldAt Tryz.prog 245 0 0 := FldAt.mk Tryz.underlying245 rfl rfl Tryz.sizeOf242 (by decide)
theorem fa245_1 : FldAt Tryz.prog 245 1 1 := FldAt.mk Tryz.underlying245 rfl rfl Tryz.sizeOf34 (by decide)
theorem fa250_0 : FldAt Tryz.prog 250 0 0 := FldAt.mk Tryz.underlying250 rfl rfl Tryz.sizeOf27 (by decide)
theorem fa250_1 : FldAt Tryz.prog 250 1 1 := FldAt.mk Tryz.underlying250 rfl rfl Tryz.sizeOf27 (by decide)
theorem fa250_2 : FldAt Tryz.prog 250 2 2 := FldAt.mk Tryz.underlying250 rfl rfl Tryz.sizeOf27 (by decide)
theorem fa252_0 : FldAt Tryz.prog 252 0 0 := FldAt.mk Tryz.underlying252 rfl rfl Tryz.sizeOf250 (by decide)
theorem fa252_1 : FldAt Tryz.prog 252 1 3 := FldAt.mk Tryz.underlying252 rfl rfl Tryz.sizeOf248 (by decide)
theorem fa254_0 : FldAt Tryz.prog 254 0 0 := FldAt.mk Tryz.underlying254 rfl rfl Tryz.sizeOf3 (by decide)
theorem fa254_1 : FldAt Tryz.prog 254 1 1 := FldAt.mk Tryz.underlying254 rfl rfl Tryz.sizeOf27 (by decide)
theorem fa254_2 : FldAt Tryz.prog 254 2 2 := FldAt.mk Tryz.underlying254 rfl rfl Tryz.sizeOf27 (by decide)
theorem fa269_0 : FldAt Tryz.prog 269 0 0 := FldAt.mk Tryz.underlying269 rfl rfl Tryz.sizeOf64 (by decide)
theorem fa269_1 : FldAt Tryz.prog 269 1 1 := FldAt.mk Tryz.underlying269 rfl rfl Tryz.sizeOf27 (by decide)
theorem fa278_0 : FldAt Tryz.prog 278 0 0 := FldAt.mk Tryz.underlying278 rfl rfl Tryz.sizeOf3 (by decide)
theorem fa278_1 : FldAt Tryz.prog 278 1 1 := FldAt.mk Tryz.underlying278 rfl rfl Tryz.sizeOf108 (by decide)
theorem fa291_0 : FldAt Tryz.prog 291 0 0 := FldAt.mk Tryz.underlying291 rfl rfl Tryz.sizeOf34 (by decide)
theorem fa291_1 : FldAt Tryz.prog 291 1 1 := FldAt.mk Tryz.underlying291 rfl rfl Tryz.sizeOf39 (by decide)
theorem fa291_2 : FldAt Tryz.prog 291 2 2 := FldAt.mk Tryz.underlying291 rfl rfl Tryz.sizeOf289 (by decide)
theorem fa293_0 : FldAt Tryz.prog 293 0 0 := FldAt.mk Tryz.underlying293 rfl rfl Tryz.sizeOf4 (by decide)
theorem fa293_1 : FldAt Tryz.prog 293 1 1 := FldAt.mk Tryz.underlying293 rfl rfl Tryz.sizeOf288 (by decide)
theorem fa293_2 : FldAt Tryz.prog 293 2 2 := FldAt.mk Tryz.underlying293 rfl rfl Tryz.sizeOf27 (by decide)
theorem fa293_3 : FldAt Tryz.prog 293 3 3 := FldAt.mk Tryz.underlying293 rfl rfl Tryz.sizeOf291 (by decide)
theorem fa296_1 : FldAt Tryz.prog 296 1 1 := FldAt.mk Tryz.underlying296 rfl rfl Tryz.sizeOf64 (by decide)
theorem fa300_0 : FldAt Tryz.prog 300 0 0 := FldAt.mk Tryz.underlying300 rfl rfl Tryz.sizeOf28 (by decide)
theorem fa300_1 : FldAt Tryz.prog 300 1 1 := FldAt.mk Tryz.underlying300 rfl rfl Tryz.sizeOf3 (by decide)
theorem fa300_2 : FldAt Tryz.prog 300 2 2 := FldAt.mk Tryz.underlying300 rfl rfl Tryz.sizeOf27 (by decide)
theorem fa300_3 : FldAt Tryz.prog 300 3 3 := FldAt.mk Tryz.underlying300 rfl rfl Tryz.sizeOf3 (by decide)
theorem pl30 : Places Tryz.prog 30 [(0, 1), (1, 1)] := ⟨_, Tryz.underlying30, fun w => by simp [Tryz.sizeOf3]⟩
theorem pl71 : Places Tryz.prog 71 [(0, 1), (1, 1)] := ⟨_, Tryz.underlying71, fun w => by simp [Tryz.sizeOf3, Tryz.sizeOf69]⟩
theorem pl74 : Places Tryz.prog 74 [(0, 1), (1, 1)] := ⟨_, Tryz.underlying74, fun w => by simp [Tryz.sizeOf28, Tryz.sizeOf72]⟩
theorem pl76 : Places Tryz.prog 76 [(0, 1), (1, 1)] := ⟨_, Tryz.underlying76, fun w => by simp [Tryz.sizeOf34]⟩
theorem pl79 : Places Tryz.prog 79 [(0, 2), (2, 1)] := ⟨_, Tryz.underlying79, fun w => by simp [Tryz.sizeOf76, Tryz.sizeOf77]⟩
theorem pl81 : Places Tryz.prog 81 [(0, 2), (2, 2), (4, 3), (7, 1)] := ⟨_, Tryz.underlying81, fun w => by simp [Tryz.sizeOf34, Tryz.sizeOf71, Tryz.sizeOf74, Tryz.sizeOf79]⟩
theorem pl92 : Places Tryz.prog 92 [(0, 1), (1, 1), (2, 1), (3, 1)] := ⟨_, Tryz.underlying92, fun w => by simp [Tryz.sizeOf87, Tryz.sizeOf88, Tryz.sizeOf89, Tryz.sizeOf90]⟩
theorem pl108 : Places Tryz.prog 108 [(0, 1), (1, 1)] := ⟨_, Tryz.underlying108, fun w => by simp [Tryz.sizeOf3, Tryz.sizeOf44]⟩
theorem pl117 : Places Tryz.prog 117 [(0, 2), (2, 1)] := ⟨_, Tryz.underlying117, fun w => by simp [Tryz.sizeOf108, Tryz.sizeOf28]⟩
theorem pl143 : Places Tryz.prog 143 [(0, 2), (2, 1), (3, 1)] := ⟨_, Tryz.underlying143, fun w => by simp [Tryz.sizeOf3, Tryz.sizeOf30, Tryz.sizeOf4]⟩
theorem pl154 : Places Tryz.prog 154 [(0, 1), (1, 1), (2, 1)] := ⟨_, Tryz.underlying154, fun w => by simp [Tryz.sizeOf148, Tryz.sizeOf151, Tryz.sizeOf152]⟩
theorem pl160 : Places Tryz.prog 160 [(0, 1), (1, 1)] := ⟨_, Tryz.underlying160, fun w => by simp [Tryz.sizeOf3]⟩
theorem pl162 : Places Tryz.prog 162 [(0, 1), (1, 1), (2, 2)] := ⟨_, Tryz.underlying162, fun w => by simp [Tryz.sizeOf160, Tryz.sizeOf28, Tryz.sizeOf4]⟩
theorem pl166 : Places Tryz.prog 166 [(0, 1), (1, 1), (2, 1024)] := ⟨_, Tryz.underlying166, fun w => by simp [Tryz.sizeOf155, Tryz.sizeOf158, Tryz.sizeOf164]⟩
theorem pl169 : Places Tryz.prog 169 [(0, 1)] := ⟨_, Tryz.underlying169, fun w => by simp [Tryz.sizeOf167]⟩
theorem pl172 : Places Tryz.prog 172 [(0, 1), (1, 1), (2, 1)] := ⟨_, Tryz.underlying172, fun w => by simp [Tryz.sizeOf3, Tryz.sizeOf4]⟩
theorem pl182 : Places Tryz.prog 182 [(0, 2), (2, 1)] := ⟨_, Tryz.underlying182, fun w => by simp [Tryz.sizeOf108, Tryz.sizeOf27]⟩
theorem pl193 : Places Tryz.prog 193 [(0, 2), (2, 1), (3, 1)] := ⟨_, Tryz.underlying193, fun w => by simp [Tryz.sizeOf160, Tryz.sizeOf28, Tryz.sizeOf3]⟩
theorem pl239 : Places Tryz.prog 239 [(0, 1), (1, 1)] := ⟨_, Tryz.underlying239, fun w => by simp [Tryz.sizeOf177, Tryz.sizeOf237]⟩
theorem pl241 : Places Tryz.prog 241 [(0, 1), (1, 1)] := ⟨_, Tryz.underlying241, fun w => by simp [Tryz.sizeOf28, Tryz.sizeOf4]⟩
theorem pl245 : Places Tryz.prog 245 [(0, 1), (1, 1)] := ⟨_, Tryz.underlying245, fun w => by simp [Tryz.sizeOf242, Tryz.sizeOf34]⟩
theorem pl252 : Places Tryz.prog 252 [(0, 3), (3, 1)] := ⟨_, Tryz.underlying252, fun w => by simp [Tryz.sizeOf248, Tryz.sizeOf250]⟩
theorem pl254 : Places Tryz.prog 254 [(0, 1), (1, 1), (2, 1)] := ⟨_, Tryz.underlying254, fun w => by simp [Tryz.sizeOf27, Tryz.sizeOf3]⟩
theorem pl269 : Places Tryz.prog 269 [(0, 1), (1, 1)] := ⟨_, Tryz.underlying269, fun w => by simp [Tryz.sizeOf27, Tryz.sizeOf64]⟩
theorem pl278 : Places Tryz.prog 278 [(0, 1), (1, 2)] := ⟨_, Tryz.underlying278, fun w => by simp [Tryz.sizeOf108, Tryz.sizeOf3]⟩
theorem pl293 : Places Tryz.prog 293 [(0, 1), (1, 1), (2, 1), (3, 3)] := ⟨_, Tryz.underlying293, fun w => by simp [Tryz.sizeOf27, Tryz.sizeOf288, Tryz.sizeOf291, Tryz.sizeOf4]⟩
theorem pl296 : Places Tryz.prog 296 [(0, 1), (1, 1)] := ⟨_, Tryz.underlying296, fun w => by simp [Tryz.sizeOf64]⟩
theorem pl300 : Places Tryz.prog 300 [(0, 1), (1, 1), (2, 1), (3, 1)] := ⟨_, Tryz.underlying300, fun w => by simp [Tryz.sizeOf27, Tryz.sizeOf28, Tryz.sizeOf3]⟩
theorem sc3 : Sc Tryz.prog 3 := fun w => ⟨Tryz.isAgg3 w, Tryz.sizeOf3 w⟩
theorem sc4 : Sc Tryz.prog 4 := fun w => ⟨Tryz.isAgg4 w, Tryz.sizeOf4 w⟩
theorem sc27 : Sc Tryz.prog 27 := fun w => ⟨Tryz.isAgg27 w, Tryz.sizeOf27 w⟩
theorem sc28 : Sc Tryz.prog 28 := fun w => ⟨Tryz.isAgg28 w, Tryz.sizeOf28 w⟩
theorem sc34 : Sc Tryz.prog 34 := fun w => ⟨Tryz.isAgg34 w, Tryz.sizeOf34 w⟩
theorem sc39 : Sc Tryz.prog 39 := fun w => ⟨Tryz.isAgg39 w, Tryz.sizeOf39 w⟩
theorem sc44 : Sc Tryz.prog 44 := fun w => ⟨Tryz.isAgg44 w, Tryz.sizeOf44 w⟩
theorem sc45 : Sc Tryz.prog 45 := fun w => ⟨Tryz.isAgg45 w, Tryz.sizeOf45 w⟩
theorem sc64 : Sc Tryz.prog 64 := fun w => ⟨Tryz.isAgg64 w, Tryz.sizeOf64 w⟩
theorem sc69 : Sc Tryz.prog 69 := fun w => ⟨Tryz.isAgg69 w, Tryz.sizeOf69 w⟩
theorem sc72 : Sc Tryz.prog 72 := fun w => ⟨Tryz.isAgg72 w, Tryz.sizeOf72 w⟩
theorem sc77 : Sc Tryz.prog 77 := fun w => ⟨Tryz.isAgg77 w, Tryz.sizeOf77 w⟩
theorem sc87 : Sc Tryz.prog 87 := fun w => ⟨Tryz.isAgg87 w, Tryz.sizeOf87 w⟩
theorem sc88 : Sc Tryz.prog 88 := fun w => ⟨Tryz.isAgg88 w, Tryz.sizeOf88 w⟩
theorem sc89 : Sc Tryz.prog 89 := fun w => ⟨Tryz.isAgg89 w, Tryz.sizeOf89 w⟩
theorem sc90 : Sc Tryz.prog 90 := fun w => ⟨Tryz.isAgg90 w, Tryz.sizeOf90 w⟩
theorem sc148 : Sc Tryz.prog 148 := fun w => ⟨Tryz.isAgg148 w, Tryz.sizeOf148 w⟩
theorem sc151 : Sc Tryz.prog 151 := fun w => ⟨Tryz.isAgg151 w, Tryz.sizeOf151 w⟩
theorem sc152 : Sc Tryz.prog 152 := fun w => ⟨Tryz.isAgg152 w, Tryz.sizeOf152 w⟩
theorem sc155 : Sc Tryz.prog 155 := fun w => ⟨Tryz.isAgg155 w, Tryz.sizeOf155 w⟩
theorem sc158 : Sc Tryz.prog 158 := fun w => ⟨Tryz.isAgg158 w, Tryz.sizeOf158 w⟩
theorem sc167 : Sc Tryz.prog 167 := fun w => ⟨Tryz.isAgg167 w, Tryz.sizeOf167 w⟩
theorem sc177 : Sc Tryz.prog 177 := fun w => ⟨Tryz.isAgg177 w, Tryz.sizeOf177 w⟩
theorem sc197 : Sc Tryz.prog 197 := fun w => ⟨Tryz.isAgg197 w, Tryz.sizeOf197 w⟩
theorem sc237 : Sc Tryz.prog 237 := fun w => ⟨Tryz.isAgg237 w, Tryz.sizeOf237 w⟩
theorem sc242 : Sc Tryz.prog 242 := fun w => ⟨Tryz.isAgg242 w, Tryz.sizeOf242 w⟩
theorem sc248 : Sc Tryz.prog 248 := fun w => ⟨Tryz.isAgg248 w, Tryz.sizeOf248 w⟩
theorem sc288 : Sc Tryz.prog 288 := fun w => ⟨Tryz.isAgg288 w, Tryz.sizeOf288 w⟩
theorem sc289 : Sc Tryz.prog 289 := fun w => ⟨Tryz.isAgg289 w, Tryz.sizeOf289 w⟩
set_option linter.unusedSimpArgs false in
theorem eqin30_10000 (a0 b0 : Int) (a1 b1 : Int) (w : World) : (Op.equalIn 10000 30 (.agg #[.int .i64 a0, .int .i64 a1]) (.agg #[.int .i64 b0, .int .i64 b1])).run Tryz.prog w = .ok (decide (a0 = b0 ∧ a1 = b1)) w := by
 rw [run_equalIn_struct w 9999 30 _ _ (by simp [Program.fieldsOf, Tryz.underlying30]) Tryz.stoodInHeld30]
 by_cases h0 : a0 = b0 <;> by_cases h1 : a1 = b1 <;> simp [Program.fieldsOf, Tryz.underlying30, Op.eqFields, part, Tryz.isAgg3, run_equalIn_int w 9998 3 .i64 .i64 _ _ Tryz.underlying3, h0, h1]
theorem seq30 (a0 b0 : Int) (a1 b1 : Int) (w : World) : (binOp .eql 30 (.agg #[.int .i64 a0, .int .i64 a1]) (.agg #[.int .i64 b0, .int .i64 b1])).run Tryz.prog w = .ok (.bool (decide (a0 = b0 ∧ a1 = b1))) w := by
 rw [run_eql_struct, eqin30_10000]
 rfl
theorem R_seq30 {X : Ctx} {E : Env} {H : Heap} {o : Oper} {x y : Operand} {t' : TypeId} {a0 b0 : Int} {a1 b1 : Int} (hP : X.P = Tryz.prog) (ho : o.op = .binOp .eql 30 x y t') (hx : ev E x = some (.agg #[.int .i64 a0, .int .i64 a1])) (hy : ev E y = some (.agg #[.int .i64 b0, .int .i64 b1])) : Runs X o E H (.bool (decide (a0 = b0 ∧ a1 = b1))) :=
 R_bin ho hx hy (fun w => by rw [hP]; exact run_eqGuard_agg w _ 30 x y _ _ Tryz.eqGuardType30) (fun w => by rw [hP]; exact seq30 a0 b0 a1 b1 w)
theorem sne30 (a0 b0 : Int) (a1 b1 : Int) (w : World) : (binOp .neq 30 (.agg #[.int .i64 a0, .int .i64 a1]) (.agg #[.int .i64 b0, .int .i64 b1])).run Tryz.prog w = .ok (.bool (decide (¬ (a0 = b0 ∧ a1 = b1)))) w := by
 rw [run_neq_struct, eqin30_10000]
 simp
theorem R_sne30 {X : Ctx} {E : Env} {H : Heap} {o : Oper} {x y : Operand} {t' : TypeId} {a0 b0 : Int} {a1 b1 : Int} (hP : X.P = Tryz.prog) (ho : o.op = .binOp .neq 30 x y t') (hx : ev E x = some (.agg #[.int .i64 a0, .int .i64 a1])) (hy : ev E y = some (.agg #[.int .i64 b0, .int .i64 b1])) : Runs X o E H (.bool (decide (¬ (a0 = b0 ∧ a1 = b1)))) :=
 R_bin ho hx hy (fun w => by rw [hP]; exact run_eqGuard_agg w _ 30 x y _ _ Tryz.eqGuardType30) (fun w => by rw [hP]; exact sne30 a0 b0 a1 b1 w)
set_option linter.unusedSimpArgs false in
theorem eqin108_10000 (a0 b0 : Int) (a1 b1 : Int) (w : World) : (Op.equalIn 10000 108 (.agg #[.int .i64 a0, .int .i64 a1]) (.agg #[.int .i64 b0, .int .i64 b1])).run Tryz.prog w = .ok (decide (a0 = b0 ∧ a1 = b1)) w := by
 rw [run_equalIn_struct w 9999 108 _ _ (by simp [Program.fieldsOf, Tryz.underlying108]) Tryz.stoodInHeld108]
 by_cases h0 : a0 = b0 <;> by_cases h1 : a1 = b1 <;> simp [Program.fieldsOf, Tryz.underlying108, Op.eqFields, part, Tryz.isAgg3, Tryz.isAgg44, run_equalIn_int w 9998 3 .i64 .i64 _ _ Tryz.underlying3, run_equalIn_int w 9998 44 .i64 .i64 _ _ Tryz.underlying44, h0, h1]
theorem seq108 (a0 b0 : Int) (a1 b1 : Int) (w : World) : (binOp .eql 108 (.agg #[.int .i64 a0, .int .i64 a1]) (.agg #[.int .i64 b0, .int .i64 b1])).run Tryz.prog w = .ok (.bool (decide (a0 = b0 ∧ a1 = b1))) w := by
 rw [run_eql_struct, eqin108_10000]
 rfl
theorem R_seq108 {X : Ctx} {E : Env} {H : Heap} {o : Oper} {x y : Operand} {t' : TypeId} {a0 b0 : Int} {a1 b1 : Int} (hP : X.P = Tryz.prog) (ho : o.op = .binOp .eql 108 x y t') (hx : ev E x = some (.agg #[.int .i64 a0, .int .i64 a1])) (hy : ev E y = some (.agg #[.int .i64 b0, .int .i64 b1])) : Runs X o E H (.bool (decide (a0 = b0 ∧ a1 = b1))) :=
 R_bin ho hx hy (fun w => by rw [hP]; exact run_eqGuard_agg w _ 108 x y _ _ Tryz.eqGuardType108) (fun w => by rw [hP]; exact seq108 a0 b0 a1 b1 w)
theorem sne108 (a0 b0 : Int) (a1 b1 : Int) (w : World) : (binOp .neq 108 (.agg #[.int .i64 a0, .int .i64 a1]) (.agg #[.int .i64 b0, .int .i64 b1])).run Tryz.prog w = .ok (.bool (decide (¬ (a0 = b0 ∧ a1 = b1)))) w := by
 rw [run_neq_struct, eqin108_10000]
 simp
theorem R_sne108 {X : Ctx} {E : Env} {H : Heap} {o : Oper} {x y : Operand} {t' : TypeId} {a0 b0 : Int} {a1 b1 : Int} (hP : X.P = Tryz.prog) (ho : o.op = .binOp .neq 108 x y t') (hx : ev E x = some (.agg #[.int .i64 a0, .int .i64 a1])) (hy : ev E y = some (.agg #[.int .i64 b0, .int .i64 b1])) : Runs X o E H (.bool (decide (¬ (a0 = b0 ∧ a1 = b1)))) :=
 R_bin ho hx hy (fun w => by rw [hP]; exact run_eqGuard_agg w _ 108 x y _ _ Tryz.eqGuardType108) (fun w => by rw [hP]; exact sne108 a0 b0 a1 b1 w)
set_option linter.unusedSimpArgs false in
theorem eqin296_10000 (a0 b0 : Int) (a1 b1 : Int) (w : World) : (Op.equalIn 10000 296 (.agg #[.int .i64 a0, .int .i64 a1]) (.agg #[.int .i64 b0, .int .i64 b1])).run Tryz.prog w = .ok (decide (a0 = b0 ∧ a1 = b1)) w := by
 rw [run_equalIn_struct w 9999 296 _ _ (by simp [Program.fieldsOf, Tryz.underlying296]) Tryz.stoodInHeld296]
 by_cases h0 : a0 = b0 <;> by_cases h1 : a1 = b1 <;> simp [Program.fieldsOf, Tryz.underlying296, Op.eqFields, part, Tryz.isAgg64, run_equalIn_int w 9998 64 .i64 .i64 _ _ Tryz.underlying64, h0, h1]
theorem sne296 (a0 b0 : Int) (a1 b1 : Int) (w : World) : (binOp .neq 296 (.agg #[.int .i64 a0, .int .i64 a1]) (.agg #[.int .i64 b0, .int .i64 b1])).run Tryz.prog w = .ok (.bool (decide (¬ (a0 = b0 ∧ a1 = b1)))) w := by
 rw [run_neq_struct, eqin296_10000]
 simp
theorem R_sne296 {X : Ctx} {E : Env} {H : Heap} {o : Oper} {x y : Operand} {t' : TypeId} {a0 b0 : Int} {a1 b1 : Int} (hP : X.P = Tryz.prog) (ho : o.op = .binOp .neq 296 x y t') (hx : ev E x = some (.agg #[.int .i64 a0, .int .i64 a1])) (hy : ev E y = some (.agg #[.int .i64 b0, .int .i64 b1])) : Runs X o E H (.bool (decide (¬ (a0 = b0 ∧ a1 = b1)))) :=
 R_bin ho hx hy (fun w => by rw [hP]; exact run_eqGuard_agg w _ 296 x y _ _ Tryz.eqGuardType296) (fun w => by rw [hP]; exact sne296 a0 b0 a1 b1 w)
theorem inf34 : Tryz.prog.info? 3 = some Tryz.t3 := by kernel_rfl
theorem si34 : SI Tryz.prog 34 3 1 8 [.int .i64 0] := ⟨Tryz.underlying34, Tryz.t3, _, inf34, rfl, rfl, rfl, rfl, rfl, by decide⟩
theorem inf69 : Tryz.prog.info? 143 = some Tryz.t143 := by kernel_rfl
theorem si69 : SI Tryz.prog 69 143 4 32 [.int .i64 0, .int .i64 0, .int .i64 0, .bool false] := ⟨Tryz.underlying69, Tryz.t143, _, inf69, rfl, rfl, rfl, rfl, rfl, by decide⟩
theorem inf72 : Tryz.prog.info? 117 = some Tryz.t117 := by kernel_rfl
theorem si72 : SI Tryz.prog 72 117 3 24 [.int .i64 0, .int .i64 0, .int .u64 0] := ⟨Tryz.underlying72, Tryz.t117, _, inf72, rfl, rfl, rfl, rfl, rfl, by decide⟩
theorem inf77 : Tryz.prog.info? 278 = some Tryz.t278 := by kernel_rfl
theorem si77 : SI Tryz.prog 77 278 3 24 [.int .i64 0, .int .i64 0, .int .i64 0] := ⟨Tryz.underlying77, Tryz.t278, _, inf77, rfl, rfl, rfl, rfl, rfl, by decide⟩
theorem inf90 : Tryz.prog.info? 45 = some Tryz.t45 := by kernel_rfl
theorem si90 : SI Tryz.prog 90 45 1 8 [.int .i64 0] := ⟨Tryz.underlying90, Tryz.t45, _, inf90, rfl, rfl, rfl, rfl, rfl, by decide⟩
theorem inf151 : Tryz.prog.info? 182 = some Tryz.t182 := by kernel_rfl
theorem si151 : SI Tryz.prog 151 182 3 24 [.int .i64 0, .int .i64 0, .int .u64 0] := ⟨Tryz.underlying151, Tryz.t182, _, inf151, rfl, rfl, rfl, rfl, rfl, by decide⟩
theorem inf167 : Tryz.prog.info? 172 = some Tryz.t172 := by kernel_rfl
theorem si167 : SI Tryz.prog 167 172 3 24 [.int .i64 0, .int .i64 0, .bool false] := ⟨Tryz.underlying167, Tryz.t172, _, inf167, rfl, rfl, rfl, rfl, rfl, by decide⟩
theorem inf190 : Tryz.prog.info? 193 = some Tryz.t193 := by kernel_rfl
theorem si190 : SI Tryz.prog 190 193 4 32 [.int .i64 0, .int .i64 0, .int .i64 0, .int .u64 0] := ⟨Tryz.underlying190, Tryz.t193, _, inf190, rfl, rfl, rfl, rfl, rfl, by decide⟩
theorem inf225 : Tryz.prog.info? 28 = some Tryz.t28 := by kernel_rfl
theorem si225 : SI Tryz.prog 225 28 1 8 [.int .u64 0] := ⟨Tryz.underlying225, Tryz.t28, _, inf225, rfl, rfl, rfl, rfl, rfl, by decide⟩
theorem inf237 : Tryz.prog.info? 269 = some Tryz.t269 := by kernel_rfl
theorem si237 : SI Tryz.prog 237 269 2 16 [.int .i64 0, .int .u64 0] := ⟨Tryz.underlying237, Tryz.t269, _, inf237, rfl, rfl, rfl, rfl, rfl, by decide⟩
theorem inf288 : Tryz.prog.info? 300 = some Tryz.t300 := by kernel_rfl
theorem si288 : SI Tryz.prog 288 300 4 32 [.int .u64 0, .int .i64 0, .int .u64 0, .int .i64 0] := ⟨Tryz.underlying288, Tryz.t300, _, inf288, rfl, rfl, rfl, rfl, rfl, by decide⟩
theorem zv30 : Zv Tryz.prog 30 [.int .i64 0, .int .i64 0] := ⟨_, rfl, Tryz.zeroValue30⟩
theorem zv34 : Zv Tryz.prog 34 [.slice none 0 0] := ⟨_, rfl, Tryz.zeroValue34⟩
theorem zv54 : Zv Tryz.prog 54 [.int .i64 0, .int .i64 0, .int .i64 0, .int .i64 0, .int .i64 0, .int .i64 0, .int .u64 0] := ⟨_, rfl, Tryz.zeroValue54⟩
theorem zv71 : Zv Tryz.prog 71 [.int .i64 0, .slice none 0 0] := ⟨_, rfl, Tryz.zeroValue71⟩
theorem zv74 : Zv Tryz.prog 74 [.int .u64 0, .slice none 0 0] := ⟨_, rfl, Tryz.zeroValue74⟩
theorem zv76 : Zv Tryz.prog 76 [.slice none 0 0, .slice none 0 0] := ⟨_, rfl, Tryz.zeroValue76⟩
theorem zv79 : Zv Tryz.prog 79 [.slice none 0 0, .slice none 0 0, .slice none 0 0] := ⟨_, rfl, Tryz.zeroValue79⟩
theorem zv81 : Zv Tryz.prog 81 [.int .i64 0, .slice none 0 0, .int .u64 0, .slice none 0 0, .slice none 0 0, .slice none 0 0, .slice none 0 0, .slice none 0 0] := ⟨_, rfl, Tryz.zeroValue81⟩
theorem zv92 : Zv Tryz.prog 92 [.pointer none, .pointer none, .pointer none, .slice none 0 0] := ⟨_, rfl, Tryz.zeroValue92⟩
theorem zv108 : Zv Tryz.prog 108 [.int .i64 0, .int .i64 0] := ⟨_, rfl, Tryz.zeroValue108⟩
theorem zv117 : Zv Tryz.prog 117 [.int .i64 0, .int .i64 0, .int .u64 0] := ⟨_, rfl, Tryz.zeroValue117⟩
theorem zv143 : Zv Tryz.prog 143 [.int .i64 0, .int .i64 0, .int .i64 0, .bool false] := ⟨_, rfl, Tryz.zeroValue143⟩
theorem zv154 : Zv Tryz.prog 154 [.pointer none, .slice none 0 0, .map none] := ⟨_, rfl, Tryz.zeroValue154⟩
theorem zv160 : Zv Tryz.prog 160 [.int .i64 0, .int .i64 0] := ⟨_, rfl, Tryz.zeroValue160⟩
theorem zv162 : Zv Tryz.prog 162 [.int .u64 0, .bool false, .int .i64 0, .int .i64 0] := ⟨_, rfl, Tryz.zeroValue162⟩
theorem zv163 : Zv Tryz.prog 163 [.int .u64 0, .bool false, .int .i64 0, .int .i64 0, .int .u64 0, .bool false, .int .i64 0, .int .i64 0] := ⟨_, rfl, Tryz.zeroValue163⟩
theorem zv166 : Zv Tryz.prog 166 ([.pointer none, .pointer none] ++ (List.replicate 128 (List.replicate 2 [.int .u64 0, .bool false, .int .i64 0, .int .i64 0]).flatten).flatten) := ⟨_, by kernel_rfl, Tryz.zeroValue166⟩
theorem zv169 : Zv Tryz.prog 169 [.slice none 0 0] := ⟨_, rfl, Tryz.zeroValue169⟩
theorem zv172 : Zv Tryz.prog 172 [.int .i64 0, .int .i64 0, .bool false] := ⟨_, rfl, Tryz.zeroValue172⟩
theorem zv177 : Zv Tryz.prog 177 [.pointer none] := ⟨_, rfl, Tryz.zeroValue177⟩
theorem zv182 : Zv Tryz.prog 182 [.int .i64 0, .int .i64 0, .int .u64 0] := ⟨_, rfl, Tryz.zeroValue182⟩
theorem zv193 : Zv Tryz.prog 193 [.int .i64 0, .int .i64 0, .int .i64 0, .int .u64 0] := ⟨_, rfl, Tryz.zeroValue193⟩
theorem zv195 : Zv Tryz.prog 195 [.int .i64 0, .int .i64 0] := ⟨_, rfl, Tryz.zeroValue195⟩
theorem zv197 : Zv Tryz.prog 197 [.nilFunc] := ⟨_, rfl, Tryz.zeroValue197⟩
theorem zv239 : Zv Tryz.prog 239 [.slice none 0 0, .pointer none] := ⟨_, rfl, Tryz.zeroValue239⟩
theorem zv241 : Zv Tryz.prog 241 [.bool false, .int .u64 0] := ⟨_, rfl, Tryz.zeroValue241⟩
theorem zv245 : Zv Tryz.prog 245 [.pointer none, .slice none 0 0] := ⟨_, rfl, Tryz.zeroValue245⟩
theorem zv252 : Zv Tryz.prog 252 [.int .u64 0, .int .u64 0, .int .u64 0, .map none] := ⟨_, rfl, Tryz.zeroValue252⟩
theorem zv254 : Zv Tryz.prog 254 [.int .i64 0, .int .u64 0, .int .u64 0] := ⟨_, rfl, Tryz.zeroValue254⟩
theorem zv269 : Zv Tryz.prog 269 [.int .i64 0, .int .u64 0] := ⟨_, rfl, Tryz.zeroValue269⟩
theorem zv278 : Zv Tryz.prog 278 [.int .i64 0, .int .i64 0, .int .i64 0] := ⟨_, rfl, Tryz.zeroValue278⟩
theorem zv293 : Zv Tryz.prog 293 [.bool false, .slice none 0 0, .int .u64 0, .slice none 0 0, .nilFunc, .nilFunc] := ⟨_, rfl, Tryz.zeroValue293⟩
theorem zv296 : Zv Tryz.prog 296 [.int .i64 0, .int .i64 0] := ⟨_, rfl, Tryz.zeroValue296⟩
theorem zv300 : Zv Tryz.prog 300 [.int .u64 0, .int .i64 0, .int .u64 0, .int .i64 0] := ⟨_, rfl, Tryz.zeroValue300⟩
theorem zv321 : Zv Tryz.prog 321 [.int .i64 0, .int .i64 0, .int .i64 0, .int .i64 0, .int .i64 0, .int .i64 0, .int .i64 0, .int .i64 0, .int .i64 0, .int .i64 0] := ⟨_, rfl, Tryz.zeroValue321⟩
end Go.Proofs.YtbkdebnkoidicaaGreat
end
section
set_option linter.unusedVariables false
namespace Go.Proofs.YtbkdebnkoidicaaGreat
theorem Pull.consA {x a : Ent} {l F R : Heap} (h : Pull x (a :: (l ++ F)) R) : Pull x ((a :: l) ++ F) R := h
theorem Pull.nilA {x : Ent} {F R : Heap} (h : Pull x F R) : Pull x ([] ++ F) R := h
theorem PullA.consA {A : Heap} {a : Ent} {l F R : Heap} (h : PullA A (a :: (l ++ F)) R) : PullA A ((a :: l) ++ F) R := h
theorem PullA.nilA {A F R : Heap} (h : PullA A F R) : PullA A ([] ++ F) R := h
theorem Pulls.consA {A : Heap} {a : Ent} {l F R : Heap} (h : Pulls A (a :: (l ++ F)) R) : Pulls A ((a :: l) ++ F) R := h
theorem Pulls.nilA {A F R : Heap} (h : Pulls A F R) : Pulls A ([] ++ F) R := h
theorem Pulls.consX {a : Ent} {l F H R : Heap} (h : Pulls (a :: (l ++ F)) H R) : Pulls ((a :: l) ++ F) H R := h
theorem Pulls.nilX {F H R : Heap} (h : Pulls F H R) : Pulls ([] ++ F) H R := h
theorem memconsA {x a : Ent} {l F : Heap} (h : x ∈ a :: (l ++ F)) : x ∈ (a :: l) ++ F := h
theorem memnilA {x : Ent} {F : Heap} (h : x ∈ F) : x ∈ ([] ++ F) := h
theorem memheadC {x : Ent} {l : Heap} : x ∈ x :: l := List.mem_cons_self ..
theorem memtailC {x y : Ent} {l : Heap} (h : x ∈ l) : x ∈ y :: l := List.mem_cons_of_mem _ h
theorem memappC {x : Ent} {A l : Heap} (h : x ∈ l) : x ∈ A ++ l := List.mem_append_right _ h
theorem plC {x : Ent} {H F : Heap} (h : Pull x H F := by repeat (first | with_reducible exact Pull.head | with_reducible apply Pull.consA | with_reducible apply Pull.nilA | exact Pull.head | with_reducible apply Pull.tail | with_reducible apply Pull.assoc | with_reducible apply Pull.app)) : Pull x H F := h
theorem pqC {A H F : Heap} (h : Pulls A H F := by repeat (first | with_reducible exact Pulls.nil | with_reducible exact Pulls.all | with_reducible apply Pulls.consX | with_reducible apply Pulls.nilX | ((with_reducible apply Pulls.cons); (repeat (first | with_reducible exact Pull.head | with_reducible apply Pull.consA | with_reducible apply Pull.nilA | exact Pull.head | with_reducible apply Pull.tail | with_reducible apply Pull.assoc | with_reducible apply Pull.app))) | with_reducible apply Pulls.assocX | ((with_reducible apply Pulls.chunk); (repeat (first | with_reducible apply PullA.consA | with_reducible apply PullA.nilA | with_reducible exact PullA.here | with_reducible exact PullA.all | exact PullA.here | with_reducible apply PullA.tail | with_reducible apply PullA.assoc | with_reducible apply PullA.app))) | ((with_reducible apply Pulls.chunk1); (repeat (first | with_reducible apply PullA.consA | with_reducible apply PullA.nilA | with_reducible exact PullA.here | with_reducible exact PullA.all | exact PullA.here | with_reducible apply PullA.tail | with_reducible apply PullA.assoc | with_reducible apply PullA.app)); done) | exact Pulls.all | with_reducible apply Pulls.consA | with_reducible apply Pulls.nilA | with_reducible apply Pulls.skip | with_reducible apply Pulls.assoc | with_reducible apply Pulls.skipA)) : Pulls A H F := h
theorem mmC {x : Ent} {H : Heap} (h : x ∈ H := by repeat (first | with_reducible exact memheadC | with_reducible apply memconsA | with_reducible apply memnilA | exact memheadC | with_reducible apply memtailC | with_reducible apply mem_assoc | with_reducible apply memappC)) : x ∈ H := h
end Go.Proofs.YtbkdebnkoidicaaGreat
end
section
set_option linter.unusedVariables false
set_option maxRecDepth 20000
namespace Go.Proofs.YtbkdebnkoidicaaGreat.Slt
structure Pl where
 given : Int
 value : Int
 opn : Bool
def encP (x : Pl) : List Value := [.int .i64 x.given, .int .i64 x.value, .bool x.opn]
theorem encP3 (x : Pl) : (encP x).length = 3 := rfl
abbrev tabH (p pb c : Nat) (tl : List Value) (T : List Pl) : Heap := [⟨some p, cl [.slice (some ⟨pb, 0, none⟩) T.length c] 169⟩, ⟨some pb, cl (T.flatMap encP ++ tl) 172⟩]
structure Fine (T : List Pl) : Prop where
 ne : T ≠ []
 len : T.length ≤ 128
 all : ∀ x ∈ T, 0 ≤ x.given ∧ x.given ≤ 1000000
abbrev ptr (p : Nat) : Value := .pointer (some ⟨p, 0, none⟩)
abbrev fdV (n g : Int) : Value := .agg #[.int .i64 n, .int .i64 g]
def OpenAt (T : List Pl) (n g : Int) (i : Nat) (x : Pl) : Prop := n = (i : Int) ∧ T[i]? = some x ∧ x.opn = true ∧ g = x.given - 1
def NoneAt (T : List Pl) (n g : Int) : Prop := ∀ i x, ¬ OpenAt T n g i x
theorem lt_of {T : List Pl} {i : Nat} {x : Pl} (h : T[i]? = some x) : i < T.length := (List.getElem?_eq_some_iff.1 h).1
theorem Fine.bd {T : List Pl} (hT : Fine T) {i : Nat} {x : Pl} (h : T[i]? = some x) : 0 ≤ x.given ∧ x.given ≤ 1000000 := hT.all x (List.mem_of_getElem? h)
theorem Fine.pos {T : List Pl} (hT : Fine T) : 0 < T.length := List.length_pos_iff.2 hT.ne
theorem ex_of {T : List Pl} {i : Nat} (h : i < T.length) : ∃ x, T[i]? = some x := ⟨_, List.getElem?_eq_getElem h⟩
theorem zero_some (p pb c : Nat) (tl : List Value) (T : List Pl) (hT : T ≠ []) : Spec Tryz.prog 87 [ptr p] (tabH p pb c tl T) (fun v H' => v = .bool false ∧ H' = tabH p pb c tl T) := by
 have hlen : 0 < T.length := List.length_pos_iff.2 hT
 refine Spec.of (E := [(0, ptr p)]) Tryz.func87 rfl (by kernel_rfl) Tryz.ntmps87 rfl rfl (fun w => ?_)
 refine WC_seq (WC_region (WLa rfl (WL_nil (WQ_code (WC_seq (WC_region (WLa rfl ?_)))))))
 refine WL_val rfl rfl rfl (R_ptrEqNil rfl Tryz.underlying87 rfl) ?_
 refine WLa rfl (WLa rfl (WLa rfl ?_))
 refine WL_val rfl rfl rfl (R_fieldAddr rfl fa169_0 rfl) ?_
 refine WL_val rfl rfl rfl (R_load rfl sc167 rfl (mmZ) rfl) ?_
 refine WL_val rfl rfl rfl (R_len rfl Tryz.underlying167 rfl) ?_
 refine WL_val rfl rfl rfl (R_eql rfl rfl rfl) ?_
 refine WLa rfl (WLa rfl (WL_nil (WQ_code (WC_ret ?_))))
 refine WQ_ret rfl rfl (.cons (.tmp rfl) .nil) rfl (by
   exact ⟨congrArg Value.bool (by simp; exact hT), rfl⟩) (pqZ)
theorem find_yes (p pb c : Nat) (tl : List Value) (T : List Pl) (hT : Fine T) (n g : Int) (i : Nat) (x : Pl) (h : OpenAt T n g i x) : Spec Tryz.prog 88 [ptr p, fdV n g] (tabH p pb c tl T)
  (fun v H' => v = .tuple #[.pointer (some ⟨pb, 0 + i * 3, none⟩), .int .i64 0] ∧ H' = tabH p pb c tl T) := by
 obtain ⟨rfl, hx, ho, rfl⟩ := h
 have hb := hT.bd hx
 have hlt := lt_of hx
 refine Spec.of (E := [(0, ptr p), (1, fdV (i : Int) (x.given - 1))]) Tryz.func88 rfl (by kernel_rfl) Tryz.ntmps88 rfl rfl (fun w => ?_)
 refine WC_seq (WC_region ?_)
 refine WL_do rfl rfl rfl (D_box (cs := [_, _]) rfl rfl rfl) ?_
 rintro _ _ ⟨b1, rfl, rfl⟩
 refine WLa rfl (WLa rfl (WL_nil (WQ_code (WC_seq (WC_seq (WC_region (WLa rfl ?_)))))))
 refine WL_do rfl rfl rfl (D_call (zero_some p pb c tl T hT.ne) rfl rfl rfl rfl (pqZ)) ?_
 rintro _ _ ⟨_, ⟨rfl, rfl⟩, rfl⟩
 refine WL_nil (WQ_code ?_)
 refine WC_F rfl ?_
 refine WC_skip (WQ_code (WC_seq (WC_seq ?_)))
 refine WC_draw _ [(0, true), (1, true), (2, true), (3, true), (4, true), (5, true), (6, true), (7, true), (8, true), (9, true), (10, true), (11, true), (12, true)] followsMixed rfl rfl (by kernel_rfl) .all ?_
 refine WM_val rfl rfl rfl rfl (R_fieldAddr rfl fa30_0 rfl) ?_
 refine WM_val rfl rfl rfl rfl (R_load rfl sc3 rfl (mmZ) rfl) ?_
 refine WM_val rfl rfl rfl rfl (R_lss rfl rfl rfl) ?_
 refine WMa rfl ?_
 refine WM_set (s := 12) (v := .bool false) rfl (by simp) ?_
 refine WM_val rfl rfl rfl rfl (R_fieldAddr rfl fa30_0 rfl) ?_
 refine WM_val rfl rfl rfl rfl (R_load rfl sc3 rfl (mmZ) rfl) ?_
 refine WMa rfl (WMa rfl ?_)
 refine WM_val rfl rfl rfl rfl (R_fieldAddr rfl fa169_0 rfl) ?_
 refine WM_val rfl rfl rfl rfl (R_load rfl sc167 rfl (mmZ) rfl) ?_
 refine WM_val rfl rfl rfl rfl (R_len rfl Tryz.underlying167 rfl) ?_
 refine WM_val rfl rfl rfl rfl (R_geq rfl rfl rfl) ?_
 refine WMa rfl (WM_nil (WQ_code ?_))
 refine WC_dF rfl (by omega) ?_
 refine WC_skip (WQ_code (WC_seq ?_))
 refine WC_draw _ [(0, true), (1, true), (2, true), (3, true), (4, true), (5, true), (6, true), (7, true)] followsMixed rfl rfl (by kernel_rfl) .all ?_
 refine WMa rfl (WMa rfl ?_)
 refine WM_val rfl rfl rfl rfl (R_fieldAddr rfl fa169_0 rfl) ?_
 refine WM_val rfl rfl rfl rfl (R_load rfl sc167 rfl (mmZ) rfl) ?_
 refine WM_val rfl rfl rfl rfl (R_fieldAddr rfl fa30_0 rfl) ?_
 refine WM_val rfl rfl rfl rfl (R_load rfl sc3 rfl (mmZ) rfl) ?_
 refine WM_val rfl rfl rfl rfl (R_indexAddrN rfl Tryz.underlying167 Tryz.sizeOf172 rfl rfl (by exact hlt)) ?_
 refine WMa rfl (WM_nil (WQ_code (WC_seq (WC_seq ?_))))
 refine WC_draw _ [(0, true), (1, true), (2, true), (3, true), (4, true), (5, true), (6, true), (7, true), (8, true), (9, true), (10, true), (11, true), (12, true), (13, true), (14, true)] followsMixed rfl rfl (by kernel_rfl) .all ?_
 refine WMa rfl (WMa rfl ?_)
 refine WM_val rfl rfl rfl rfl (R_fieldAddr rfl fa172_2 rfl) ?_
 refine WM_val rfl rfl rfl rfl (R_load rfl sc4 rfl (mmZ) (fm_get0 encP3 hx (by omega))) ?_
 refine WM_val rfl rfl rfl rfl (R_not rfl rfl) ?_
 refine WMa rfl ?_
 refine WM_set (s := 34) (v := .bool false) rfl (by simp [ho]) ?_
 refine WM_val rfl rfl rfl rfl (R_fieldAddr rfl fa30_1 rfl) ?_
 refine WM_val rfl rfl rfl rfl (R_load rfl sc3 rfl (mmZ) rfl) ?_
 refine WMa rfl (WMa rfl ?_)
 refine WM_val rfl rfl rfl rfl (R_fieldAddr rfl fa172_0 rfl) ?_
 refine WM_val rfl rfl rfl rfl (R_load rfl sc3 rfl (mmZ) (fm_get0 encP3 hx (by omega))) ?_
 refine WM_val rfl rfl rfl rfl (R_sub rfl rfl rfl (by omega)) ?_
 refine WM_val rfl rfl rfl rfl (R_neq rfl rfl rfl) ?_
 refine WMa rfl (WM_nil (WQ_code ?_))
 refine WC_dF rfl (by simp) ?_
 refine WC_skip (WQ_code (WC_seq (WC_region (WLa rfl (WLa rfl (WLa rfl (WL_nil (WQ_code (WC_ret ?_)))))))))
 refine WQ_ret rfl rfl (.cons (.tmp rfl) (.cons (.tmp rfl) .nil)) rfl (by
   exact ⟨rfl, rfl⟩) (pqZ)
theorem find_no (p pb c : Nat) (tl : List Value) (T : List Pl) (hT : Fine T) (n g : Int) (h : NoneAt T n g) : Spec Tryz.prog 88 [ptr p, fdV n g] (tabH p pb c tl T)
  (fun v H' => v = .tuple #[.pointer none, .int .i64 9] ∧ H' = tabH p pb c tl T) := by
 refine Spec.of (E := [(0, ptr p), (1, fdV n g)]) Tryz.func88 rfl (by kernel_rfl) Tryz.ntmps88 rfl rfl (fun w => ?_)
 refine WC_seq (WC_region ?_)
 refine WL_do rfl rfl rfl (D_box (cs := [_, _]) rfl rfl rfl) ?_
 rintro _ _ ⟨b1, rfl, rfl⟩
 refine WLa rfl (WLa rfl (WL_nil (WQ_code (WC_seq (WC_seq (WC_region (WLa rfl ?_)))))))
 refine WL_do rfl rfl rfl (D_call (zero_some p pb c tl T hT.ne) rfl rfl rfl rfl (pqZ)) ?_
 rintro _ _ ⟨_, ⟨rfl, rfl⟩, rfl⟩
 refine WL_nil (WQ_code ?_)
 refine WC_F rfl ?_
 refine WC_skip (WQ_code (WC_seq (WC_seq ?_)))
 refine WC_draw _ [(0, true), (1, true), (2, true), (3, true), (4, true), (5, true), (6, true), (7, true), (8, true), (9, true), (10, true), (11, true), (12, true)] followsMixed rfl rfl (by kernel_rfl) .all ?_
 refine WM_val rfl rfl rfl rfl (R_fieldAddr rfl fa30_0 rfl) ?_
 refine WM_val rfl rfl rfl rfl (R_load rfl sc3 rfl (mmZ) rfl) ?_
 refine WM_val rfl rfl rfl rfl (R_lss rfl rfl rfl) ?_
 refine WMa rfl ?_
 refine WM_splitD (s := 12) rfl (fun c1 => ?_) (fun c1 => ?_)
 ·refine WM_skip rfl rfl rfl rfl ?_
  refine WM_skip rfl rfl rfl rfl ?_
  refine WM_skip rfl rfl rfl rfl ?_
  refine WM_skip rfl rfl rfl rfl ?_
  refine WM_skip rfl rfl rfl rfl ?_
  refine WM_skip rfl rfl rfl rfl ?_
  refine WM_skip rfl rfl rfl rfl ?_
  refine WM_skip rfl rfl rfl rfl ?_
  refine WMa rfl (WM_nil (WQ_code ?_))
  refine WC_T rfl ?_
  refine WC_seq (WC_region (WLa rfl (WLa rfl (WL_nil (WQ_code (WC_ret ?_))))))
  refine WQ_ret rfl rfl (.cons (.tmp rfl) (.cons (.tmp rfl) .nil)) rfl (by
    exact ⟨rfl, rfl⟩) (pqZ)
 ·refine WM_val rfl rfl rfl rfl (R_fieldAddr rfl fa30_0 rfl) ?_
  refine WM_val rfl rfl rfl rfl (R_load rfl sc3 rfl (mmZ) rfl) ?_
  refine WMa rfl (WMa rfl ?_)
  refine WM_val rfl rfl rfl rfl (R_fieldAddr rfl fa169_0 rfl) ?_
  refine WM_val rfl rfl rfl rfl (R_load rfl sc167 rfl (mmZ) rfl) ?_
  refine WM_val rfl rfl rfl rfl (R_len rfl Tryz.underlying167 rfl) ?_
  refine WM_val rfl rfl rfl rfl (R_geq rfl rfl rfl) ?_
  refine WMa rfl (WM_nil (WQ_code ?_))
  refine WC_dec rfl (fun c2 => ?_) (fun c2 => ?_)
  ·refine WC_seq (WC_region (WLa rfl (WLa rfl (WL_nil (WQ_code (WC_ret ?_))))))
   refine WQ_ret rfl rfl (.cons (.tmp rfl) (.cons (.tmp rfl) .nil)) rfl (by
     exact ⟨rfl, rfl⟩) (pqZ)
  ·refine WC_skip (WQ_code (WC_seq ?_))
   refine WC_draw _ [(0, true), (1, true), (2, true), (3, true), (4, true), (5, true), (6, true), (7, true)] followsMixed rfl rfl (by kernel_rfl) .all ?_
   refine WMa rfl (WMa rfl ?_)
   refine WM_val rfl rfl rfl rfl (R_fieldAddr rfl fa169_0 rfl) ?_
   refine WM_val rfl rfl rfl rfl (R_load rfl sc167 rfl (mmZ) rfl) ?_
   refine WM_val rfl rfl rfl rfl (R_fieldAddr rfl fa30_0 rfl) ?_
   refine WM_val rfl rfl rfl rfl (R_load rfl sc3 rfl (mmZ) rfl) ?_
   obtain ⟨x, hx⟩ := ex_of (T := T) (i := n.toNat) (by omega)
   have hb := hT.bd hx
   refine WM_val rfl rfl rfl rfl (R_indexAddr rfl Tryz.underlying167 Tryz.sizeOf172 rfl rfl (by exact ⟨by omega, by omega⟩)) ?_
   refine WMa rfl (WM_nil (WQ_code (WC_seq (WC_seq ?_))))
   refine WC_draw _ [(0, true), (1, true), (2, true), (3, true), (4, true), (5, true), (6, true), (7, true), (8, true), (9, true), (10, true), (11, true), (12, true), (13, true), (14, true)] followsMixed rfl rfl (by kernel_rfl) .all ?_
   refine WMa rfl (WMa rfl ?_)
   refine WM_val rfl rfl rfl rfl (R_fieldAddr rfl fa172_2 rfl) ?_
   refine WM_val rfl rfl rfl rfl (R_load rfl sc4 rfl (mmZ) (fm_get0 encP3 hx (by omega))) ?_
   refine WM_val rfl rfl rfl rfl (R_not rfl rfl) ?_
   refine WMa rfl ?_
   refine WM_split (s := 34) rfl (fun c3 => ?_) (fun c3 => ?_)
   ·refine WM_skip rfl rfl rfl rfl ?_
    refine WM_skip rfl rfl rfl rfl ?_
    refine WM_skip rfl rfl rfl rfl ?_
    refine WM_skip rfl rfl rfl rfl ?_
    refine WM_skip rfl rfl rfl rfl ?_
    refine WM_skip rfl rfl rfl rfl ?_
    refine WM_skip rfl rfl rfl rfl ?_
    refine WM_skip rfl rfl rfl rfl ?_
    refine WMa rfl (WM_nil (WQ_code ?_))
    refine WC_T rfl ?_
    refine WC_seq (WC_region (WLa rfl (WLa rfl (WL_nil (WQ_code (WC_ret ?_))))))
    refine WQ_ret rfl rfl (.cons (.tmp rfl) (.cons (.tmp rfl) .nil)) rfl (by
      exact ⟨rfl, rfl⟩) (pqZ)
   ·refine WM_val rfl rfl rfl rfl (R_fieldAddr rfl fa30_1 rfl) ?_
    refine WM_val rfl rfl rfl rfl (R_load rfl sc3 rfl (mmZ) rfl) ?_
    refine WMa rfl (WMa rfl ?_)
    refine WM_val rfl rfl rfl rfl (R_fieldAddr rfl fa172_0 rfl) ?_
    refine WM_val rfl rfl rfl rfl (R_load rfl sc3 rfl (mmZ) (fm_get0 encP3 hx (by omega))) ?_
    refine WM_val rfl rfl rfl rfl (R_sub rfl rfl rfl (by omega)) ?_
    refine WM_val rfl rfl rfl rfl (R_neq rfl rfl rfl) ?_
    refine WMa rfl (WM_nil (WQ_code ?_))
    refine WC_dec rfl (fun c4 => ?_) (fun c4 => ?_)
    ·refine WC_seq (WC_region (WLa rfl (WLa rfl (WL_nil (WQ_code (WC_ret ?_))))))
     refine WQ_ret rfl rfl (.cons (.tmp rfl) (.cons (.tmp rfl) .nil)) rfl (by
       exact ⟨rfl, rfl⟩) (pqZ)
    ·exfalso
     exact h n.toNat x ⟨by omega, hx, by simp_all, by omega⟩
end Go.Proofs.YtbkdebnkoidicaaGreat.Slt
end
section
set_option linter.unusedVariables false
set_option maxRecDepth 20000
namespace Go.Proofs.YtbkdebnkoidicaaGreat.Slt
abbrev freshT (n : Nat) : List Pl := List.replicate n ⟨0, 0, false⟩
theorem new_ok (n : Nat) (h1 : 1 ≤ n) (h2 : n ≤ 128) : Spec Tryz.prog 40 [.int .i64 (n : Int)] [] (fun v H' => ∃ p pb, v = .tuple #[ptr p, .int .i64 0] ∧ H' = tabH p pb n [] (freshT n)) := by
 refine Spec.mono (post := fun v H' => ∃ p pb, v = .tuple #[ptr p, .int .i64 0] ∧ H' = [⟨some p, cl [.slice (some ⟨pb, 0, none⟩) n n] 169⟩, ⟨some pb, cl ((freshT n).flatMap encP ++ []) 172⟩]) ?_ (fun v H' ⟨p, pb, h1, h2⟩ => ⟨p, pb, h1, by rw [h2]; simp [tabH]⟩)
 refine Spec.of (E := [(0, .int .i64 (n : Int))]) Tryz.func40 rfl (by kernel_rfl) Tryz.ntmps40 rfl rfl (fun w => ?_)
 refine WC_seq (WC_region (WLa rfl (WLa rfl (WL_nil (WQ_code (WC_seq (WC_seq (WC_region (WLa rfl ?_)))))))))
 refine WL_val rfl rfl rfl (R_lss rfl rfl rfl) ?_
 refine WLa rfl ?_
 refine WL_set (s := 6) (v := .bool false) rfl (by simp; omega) ?_
 refine WLa rfl ?_
 refine WL_val rfl rfl rfl (R_gtr rfl rfl rfl) ?_
 refine WLa rfl (WL_nil (WQ_code ?_))
 refine WC_dF rfl (by omega) ?_
 refine WC_skip (WQ_code (WC_seq (WC_region (WLa rfl ?_))))
 refine WL_do rfl rfl rfl (D_make (n := n) rfl si167 rfl rfl (by omega) (by omega)) ?_
 rintro _ _ ⟨b1, rfl, rfl⟩
 refine WL_val rfl rfl rfl (R_build rfl zv169 pl169 rfl rfl) ?_
 refine WL_do rfl rfl rfl (D_box (cs := [_]) rfl rfl rfl) ?_
 rintro _ _ ⟨b2, rfl, rfl⟩
 refine WLa rfl (WLa rfl (WL_nil (WQ_code (WC_ret ?_))))
 rw [show (List.replicate n [Value.int .i64 0, .int .i64 0, .bool false]).flatten = (freshT n).flatMap encP ++ [] from by rw [List.append_nil]; exact fm_rep (enc := encP) ⟨0, 0, false⟩ n]
 refine WQ_ret rfl rfl (.cons (.tmp rfl) (.cons (.tmp rfl) .nil)) rfl (by
   exact ⟨b2, b1, rfl, rfl⟩) (pqZ)
theorem open_at (p pb c : Nat) (tl : List Value) (T : List Pl) (hT : Fine T) (v : Int) (i : Nat) (x : Pl) (hx : T[i]? = some x) (ho : x.opn = false) (hl : ∀ (j : Nat) (y : Pl), j < i → T[j]? = some y → y.opn = true) : Spec Tryz.prog 42 [ptr p, .int .i64 v] (tabH p pb c tl T)
  (fun r H' => r = .tuple #[fdV i x.given, .int .i64 0] ∧ H' = tabH p pb c tl (T.set i ⟨x.given + 1, v, true⟩)) := by
 have hb := hT.bd hx
 have hlt := lt_of hx
 have hlen := hT.len
 refine Spec.of (E := [(0, ptr p), (1, .int .i64 v)]) Tryz.func42 rfl (by kernel_rfl) Tryz.ntmps42 rfl rfl (fun w => ?_)
 refine WC_seq (WC_region ?_)
 refine WL_do rfl rfl rfl (D_alloc rfl zv30) ?_
 rintro _ _ ⟨b1, rfl, rfl⟩
 refine WLa rfl (WL_nil (WQ_code (WC_seq (WC_seq (WC_region (WLa rfl ?_))))))
 refine WL_do rfl rfl rfl (D_call (zero_some p pb c tl T hT.ne) rfl rfl rfl rfl (pqZ)) ?_
 rintro _ _ ⟨_, ⟨rfl, rfl⟩, rfl⟩
 refine WL_nil (WQ_code ?_)
 refine WC_F rfl ?_
 refine WC_skip (WQ_code (WC_seq (WC_seq (WC_region (WLa rfl (WLa rfl ?_))))))
 refine WL_val rfl rfl rfl (R_fieldAddr rfl fa169_0 rfl) ?_
 refine WL_val rfl rfl rfl (R_load rfl sc167 rfl (mmZ) rfl) ?_
 refine WL_val rfl rfl rfl (R_len rfl Tryz.underlying167 rfl) ?_
 refine WLa rfl (WL_nil (WQ_code (WC_block ?_)))
 refine WC_loopF (G := Nat) [5, 6, 7, 16, 17, 18, 19, 20, 21, 22, 23, 24, 25, 26, 27, 28, 29, 30, 31, 32, 33, 34, 35, 36, 37, 38, 39, 40, 41, 42, 43, 44, 45, 46] (fun k => k ≤ i) (fun k => [(16, .int .i64 (k : Int))]) (fun k => []) (fun k => i - k) (0) (Nat.zero_le _) leZ (pqZ) ?_
 rintro k hk
 refine WC_seq (WC_region ?_)
 refine WL_val rfl rfl rfl (R_lss rfl rfl rfl) ?_
 refine WL_nil (WQ_code (WC_seq ?_))
 refine WC_dT rfl (by omega) ?_
 refine WC_skip (WQ_code (WC_seq (WC_block (WC_seq (WC_region (WLa rfl (WLa rfl (WL_nil (WQ_code (WC_seq (WC_region (WLa rfl (WLa rfl ?_)))))))))))))
 refine WL_val rfl rfl rfl (R_fieldAddr rfl fa169_0 rfl) ?_
 refine WL_val rfl rfl rfl (R_load rfl sc167 rfl (mmZ) rfl) ?_
 refine WLa rfl ?_
 obtain ⟨y, hy⟩ := ex_of (T := T) (i := k) (by omega)
 refine WL_val rfl rfl rfl (R_indexAddrN rfl Tryz.underlying167 Tryz.sizeOf172 rfl rfl (by omega)) ?_
 refine WLa rfl (WL_nil (WQ_code (WC_seq (WC_region (WLa rfl (WLa rfl ?_))))))
 refine WL_val rfl rfl rfl (R_fieldAddr rfl fa172_2 rfl) ?_
 refine WL_val rfl rfl rfl (R_load rfl sc4 rfl (mmZ) (fm_get0 encP3 hy (by omega))) ?_
 refine WL_val rfl rfl rfl (R_not rfl rfl) ?_
 refine WL_nil (WQ_code ?_)
 refine WC_if rfl (fun c1 => ?_) (fun c1 => ?_)
 ·have hki : k = i := by
   by_cases e : k < i
   ·have := hl k y e hy; simp_all
   ·omega
  subst hki
  refine WC_seq (WC_region (WLa rfl (WLa rfl (WLa rfl ?_))))
  refine WL_val rfl rfl rfl (R_fieldAddr rfl fa172_0 rfl) ?_
  refine WL_val rfl rfl rfl (R_load rfl sc3 rfl (mmZ) (fm_get0 encP3 hx (by omega))) ?_
  refine WL_val rfl rfl rfl (R_add rfl rfl rfl (by omega)) ?_
  refine WLa rfl ?_
  refine WL_val rfl rfl rfl (R_build rfl zv172 pl172 rfl rfl) ?_
  refine WLa rfl ?_
  refine WL_do0 rfl rfl (D_store (vs := [_, _, _]) rfl Tryz.sizeOf172 rfl rfl rfl rfl rfl (plZ) (by exact fm_room0 encP3 hlt (j := 0) (by omega))) ?_
  rintro _ _ rfl
  have hset : (T.set k ⟨x.given + 1, v, true⟩)[k]? = some ⟨x.given + 1, v, true⟩ := by simp [hlt]
  have hputs := fm_put0 encP3 (⟨x.given + 1, v, true⟩ : Pl) hx (j := 0) (vs := [.int .i64 (x.given + 1), .int .i64 v, .bool true]) (by simp) rfl (tl := tl)
  simp only [Nat.add_zero] at hputs
  rw [hputs]
  refine WL_nil (WQ_code (WC_seq (WC_region (WLa rfl (WLa rfl (WLa rfl ?_))))))
  refine WL_val rfl rfl rfl (R_fieldAddr rfl fa172_0 rfl) ?_
  refine WL_val rfl rfl rfl (R_load (v := .int .i64 (x.given + 1)) rfl sc3 rfl (mmZ) (fm_get0 encP3 hset (by omega))) ?_
  refine WL_val rfl rfl rfl (R_sub rfl rfl rfl (by omega)) ?_
  refine WL_val rfl rfl rfl (R_build rfl zv30 pl30 rfl rfl) ?_
  refine WL_do0 rfl rfl (D_store (vs := [_, _]) rfl Tryz.sizeOf30 rfl rfl rfl rfl rfl (plZ) (Nat.le_of_ble_eq_true rfl)) ?_
  rintro _ _ rfl
  refine WLa rfl (WL_nil (WQ_code (WC_ret ?_)))
  refine WQ_ret rfl rfl (.cons (.cell (vs := [_, _]) rfl ag30 (mmZ) rfl (atZ)) (.cons (.tmp rfl) .nil)) rfl (by
    refine ⟨?_, ?_⟩
    ·show Value.tuple #[fdV _ _, _] = _
     rw [show x.given + 1 - 1 = x.given from by omega]
    ·simp only [tabH, List.length_set]
     rfl) (pqZ)
 ·refine WC_skip (WQ_code (WC_region ?_))
  refine WL_val rfl rfl rfl (R_add rfl rfl rfl (by omega)) ?_
  refine WLa rfl (WL_nil ?_)
  have hki : k ≠ i := by intro e; subst e; rw [hx] at hy; cases hy; simp_all
  refine WQ_nextF (k + 1) (by omega) (by omega) leZ (psZ) rfl (pqZ)
theorem open_full (p pb c : Nat) (tl : List Value) (T : List Pl) (hT : Fine T) (v : Int) (hl : ∀ (j : Nat) (y : Pl), T[j]? = some y → y.opn = true) : Spec Tryz.prog 42 [ptr p, .int .i64 v] (tabH p pb c tl T)
  (fun r H' => r = .tuple #[fdV 0 0, .int .i64 7] ∧ H' = tabH p pb c tl T) := by
 have hlen := hT.len
 refine Spec.of (E := [(0, ptr p), (1, .int .i64 v)]) Tryz.func42 rfl (by kernel_rfl) Tryz.ntmps42 rfl rfl (fun w => ?_)
 refine WC_seq (WC_region ?_)
 refine WL_do rfl rfl rfl (D_alloc rfl zv30) ?_
 rintro _ _ ⟨b1, rfl, rfl⟩
 refine WLa rfl (WL_nil (WQ_code (WC_seq (WC_seq (WC_region (WLa rfl ?_))))))
 refine WL_do rfl rfl rfl (D_call (zero_some p pb c tl T hT.ne) rfl rfl rfl rfl (pqZ)) ?_
 rintro _ _ ⟨_, ⟨rfl, rfl⟩, rfl⟩
 refine WL_nil (WQ_code ?_)
 refine WC_F rfl ?_
 refine WC_skip (WQ_code (WC_seq (WC_seq (WC_region (WLa rfl (WLa rfl ?_))))))
 refine WL_val rfl rfl rfl (R_fieldAddr rfl fa169_0 rfl) ?_
 refine WL_val rfl rfl rfl (R_load rfl sc167 rfl (mmZ) rfl) ?_
 refine WL_val rfl rfl rfl (R_len rfl Tryz.underlying167 rfl) ?_
 refine WLa rfl (WL_nil (WQ_code (WC_block ?_)))
 refine WC_loopF (G := Nat) [5, 6, 7, 16, 17, 18, 19, 20, 21, 22, 23, 24, 25, 26, 27, 28, 29, 30, 31, 32, 33, 34, 35, 36, 37, 38, 39, 40, 41, 42, 43, 44, 45, 46] (fun k => k ≤ T.length) (fun k => [(16, .int .i64 (k : Int))]) (fun k => []) (fun k => T.length - k) (0) (Nat.zero_le _) leZ (pqZ) ?_
 rintro k hk
 refine WC_seq (WC_region ?_)
 refine WL_val rfl rfl rfl (R_lss rfl rfl rfl) ?_
 refine WL_nil (WQ_code (WC_seq ?_))
 refine WC_dec rfl (fun c1 => ?_) (fun c1 => ?_)
 ·refine WC_skip (WQ_code (WC_seq (WC_block (WC_seq (WC_region (WLa rfl (WLa rfl (WL_nil (WQ_code (WC_seq (WC_region (WLa rfl (WLa rfl ?_)))))))))))))
  refine WL_val rfl rfl rfl (R_fieldAddr rfl fa169_0 rfl) ?_
  refine WL_val rfl rfl rfl (R_load rfl sc167 rfl (mmZ) rfl) ?_
  refine WLa rfl ?_
  obtain ⟨y, hy⟩ := ex_of (T := T) (i := k) (by omega)
  have hyo := hl k y hy
  refine WL_val rfl rfl rfl (R_indexAddrN rfl Tryz.underlying167 Tryz.sizeOf172 rfl rfl (by omega)) ?_
  refine WLa rfl (WL_nil (WQ_code (WC_seq (WC_region (WLa rfl (WLa rfl ?_))))))
  refine WL_val rfl rfl rfl (R_fieldAddr rfl fa172_2 rfl) ?_
  refine WL_val rfl rfl rfl (R_load rfl sc4 rfl (mmZ) (fm_get0 encP3 hy (by omega))) ?_
  refine WL_val rfl rfl rfl (R_not rfl rfl) ?_
  refine WL_nil (WQ_code ?_)
  refine WC_if rfl (fun c2 => ?_) (fun c2 => ?_)
  ·simp_all
  ·refine WC_skip (WQ_code (WC_region ?_))
   refine WL_val rfl rfl rfl (R_add rfl rfl rfl (by omega)) ?_
   refine WLa rfl (WL_nil ?_)
   refine WQ_nextF (k + 1) (by omega) (by omega) leZ (psZ) rfl (pqZ)
 ·refine WC_exit (WQ_code (WC_seq (WC_region ?_)))
  refine WL_val rfl rfl rfl (R_build rfl zv30 pl30 rfl rfl) ?_
  refine WL_do0 rfl rfl (D_store (vs := [_, _]) rfl Tryz.sizeOf30 rfl rfl rfl rfl rfl (plZ) (Nat.le_of_ble_eq_true rfl)) ?_
  rintro _ _ rfl
  refine WLa rfl (WL_nil (WQ_code (WC_ret ?_)))
  refine WQ_ret rfl rfl (.cons (.cell (vs := [_, _]) rfl ag30 (mmZ) rfl (atZ)) (.cons (.tmp rfl) .nil)) rfl (by
    exact ⟨rfl, rfl⟩) (pqZ)
end Go.Proofs.YtbkdebnkoidicaaGreat.Slt
end
section
set_option linter.unusedVariables false
set_option maxRecDepth 20000
namespace Go.Proofs.YtbkdebnkoidicaaGreat.Slt
theorem set_put {T : List Pl} {i : Nat} {x : Pl} (y : Pl) (hx : T[i]? = some x) {j : Nat} {vs : List Value} (hj : j + vs.length ≤ 3) (hy : putAt (encP x) j vs = encP y) {tl : List Value} :
  putAt (T.flatMap encP ++ tl) (0 + i * 3 + j) vs = (T.set i y).flatMap encP ++ tl := fm_put0 encP3 y hx hj hy
theorem set_get {T : List Pl} {i : Nat} {x : Pl} (y : Pl) (hx : T[i]? = some x) : (T.set i y)[i]? = some y := by simp [lt_of hx]
theorem close_yes (p pb c : Nat) (tl : List Value) (T : List Pl) (hT : Fine T) (n gg : Int)  (i : Nat) (x : Pl) (h : OpenAt T n gg i x) : Spec Tryz.prog 43 [ptr p, fdV n gg] (tabH p pb c tl T)
  (fun r H' => r = .tuple #[.int .i64 x.value, .int .i64 0] ∧ H' = tabH p pb c tl (T.set i { x with opn := false })) := by
 have hx := h.2.1
 have hlt := lt_of hx
 refine Spec.of (E := [(0, ptr p), (1, fdV n gg)]) Tryz.func43 rfl (by kernel_rfl) Tryz.ntmps43 rfl rfl (fun w => ?_)
 refine WC_seq (WC_region ?_)
 refine WL_do rfl rfl rfl (D_box (cs := [_, _]) rfl rfl rfl) ?_
 rintro _ _ ⟨b1, rfl, rfl⟩
 refine WLa rfl (WLa rfl (WL_nil (WQ_code (WC_seq (WC_region (WLa rfl ?_))))))
 refine WL_val rfl rfl rfl (R_loadA (vs := [_, _]) rfl ag30 rfl (mmZ) rfl (atZ)) ?_
 refine WL_do rfl rfl rfl (D_call (find_yes p pb c tl T hT n gg i x h) rfl rfl rfl rfl (pqZ)) ?_
 rintro _ _ ⟨_, ⟨rfl, rfl⟩, rfl⟩
 refine WLa rfl (WLa rfl (WLa rfl (WLa rfl (WLa rfl (WL_nil (WQ_code (WC_seq (WC_seq (WC_region (WLa rfl ?_))))))))))
 refine WL_val rfl rfl rfl (R_neq rfl rfl rfl) ?_
 refine WL_nil (WQ_code ?_)
 refine WC_dF rfl (by simp) ?_
 refine WC_skip (WQ_code (WC_seq (WC_region (WLa rfl (WLa rfl ?_)))))
 refine WL_val rfl rfl rfl (R_fieldAddr rfl fa172_2 rfl) ?_
 refine WL_do0 rfl rfl (D_store (vs := [_]) rfl Tryz.sizeOf4 rfl rfl rfl rfl rfl (plZ) (by exact fm_room0 encP3 hlt (j := 2) (by omega))) ?_
 rintro _ _ rfl
 rw [set_put { x with opn := false } hx (j := 2) (vs := [.bool false]) (by simp) rfl]
 refine WL_nil (WQ_code (WC_seq (WC_region (WLa rfl (WLa rfl ?_)))))
 refine WL_val rfl rfl rfl (R_fieldAddr rfl fa172_1 rfl) ?_
 refine WL_val rfl rfl rfl (R_load (v := .int .i64 x.value) rfl sc3 rfl (mmZ) (fm_get0 encP3 (set_get { x with opn := false } hx) (by omega))) ?_
 refine WLa rfl (WLa rfl (WL_nil (WQ_code (WC_ret ?_))))
 refine WQ_ret rfl rfl (.cons (.tmp rfl) (.cons (.tmp rfl) .nil)) rfl (by
   refine ⟨rfl, ?_⟩
   simp only [tabH, List.length_set]
   rfl) (pqZ)
theorem close_no (p pb c : Nat) (tl : List Value) (T : List Pl) (hT : Fine T) (n gg : Int)  (h : NoneAt T n gg) : Spec Tryz.prog 43 [ptr p, fdV n gg] (tabH p pb c tl T) (fun r H' => r = .tuple #[.int .i64 0, .int .i64 9] ∧ H' = tabH p pb c tl T) := by
 refine Spec.of (E := [(0, ptr p), (1, fdV n gg)]) Tryz.func43 rfl (by kernel_rfl) Tryz.ntmps43 rfl rfl (fun w => ?_)
 refine WC_seq (WC_region ?_)
 refine WL_do rfl rfl rfl (D_box (cs := [_, _]) rfl rfl rfl) ?_
 rintro _ _ ⟨b1, rfl, rfl⟩
 refine WLa rfl (WLa rfl (WL_nil (WQ_code (WC_seq (WC_region (WLa rfl ?_))))))
 refine WL_val rfl rfl rfl (R_loadA (vs := [_, _]) rfl ag30 rfl (mmZ) rfl (atZ)) ?_
 refine WL_do rfl rfl rfl (D_call (find_no p pb c tl T hT n gg h) rfl rfl rfl rfl (pqZ)) ?_
 rintro _ _ ⟨_, ⟨rfl, rfl⟩, rfl⟩
 refine WLa rfl (WLa rfl (WLa rfl (WLa rfl (WLa rfl (WL_nil (WQ_code (WC_seq (WC_seq (WC_region (WLa rfl ?_))))))))))
 refine WL_val rfl rfl rfl (R_neq rfl rfl rfl) ?_
 refine WL_nil (WQ_code ?_)
 refine WC_dT rfl (by simp) ?_
 refine WC_seq (WC_region (WLa rfl (WLa rfl (WLa rfl (WL_nil (WQ_code (WC_ret ?_)))))))
 refine WQ_ret rfl rfl (.cons (.tmp rfl) (.cons (.tmp rfl) .nil)) rfl (by
   exact ⟨rfl, rfl⟩) (pqZ)
theorem get_yes (p pb c : Nat) (tl : List Value) (T : List Pl) (hT : Fine T) (n gg : Int)  (i : Nat) (x : Pl) (h : OpenAt T n gg i x) : Spec Tryz.prog 77 [ptr p, fdV n gg] (tabH p pb c tl T)
  (fun r H' => r = .tuple #[.int .i64 x.value, .int .i64 0] ∧ H' = tabH p pb c tl T) := by
 have hx := h.2.1
 have hlt := lt_of hx
 refine Spec.of (E := [(0, ptr p), (1, fdV n gg)]) Tryz.func77 rfl (by kernel_rfl) Tryz.ntmps77 rfl rfl (fun w => ?_)
 refine WC_seq (WC_region ?_)
 refine WL_do rfl rfl rfl (D_box (cs := [_, _]) rfl rfl rfl) ?_
 rintro _ _ ⟨b1, rfl, rfl⟩
 refine WLa rfl (WLa rfl (WL_nil (WQ_code (WC_seq (WC_region (WLa rfl ?_))))))
 refine WL_val rfl rfl rfl (R_loadA (vs := [_, _]) rfl ag30 rfl (mmZ) rfl (atZ)) ?_
 refine WL_do rfl rfl rfl (D_call (find_yes p pb c tl T hT n gg i x h) rfl rfl rfl rfl (pqZ)) ?_
 rintro _ _ ⟨_, ⟨rfl, rfl⟩, rfl⟩
 refine WLa rfl (WLa rfl (WLa rfl (WLa rfl (WLa rfl (WL_nil (WQ_code (WC_seq (WC_seq (WC_region (WLa rfl ?_))))))))))
 refine WL_val rfl rfl rfl (R_neq rfl rfl rfl) ?_
 refine WL_nil (WQ_code ?_)
 refine WC_dF rfl (by simp) ?_
 refine WC_skip (WQ_code (WC_seq (WC_region (WLa rfl (WLa rfl ?_)))))
 refine WL_val rfl rfl rfl (R_fieldAddr rfl fa172_1 rfl) ?_
 refine WL_val rfl rfl rfl (R_load rfl sc3 rfl (mmZ) (fm_get0 encP3 hx (by omega))) ?_
 refine WLa rfl (WLa rfl (WL_nil (WQ_code (WC_ret ?_))))
 refine WQ_ret rfl rfl (.cons (.tmp rfl) (.cons (.tmp rfl) .nil)) rfl (by
   exact ⟨rfl, rfl⟩) (pqZ)
theorem get_no (p pb c : Nat) (tl : List Value) (T : List Pl) (hT : Fine T) (n gg : Int)  (h : NoneAt T n gg) : Spec Tryz.prog 77 [ptr p, fdV n gg] (tabH p pb c tl T) (fun r H' => r = .tuple #[.int .i64 0, .int .i64 9] ∧ H' = tabH p pb c tl T) := by
 refine Spec.of (E := [(0, ptr p), (1, fdV n gg)]) Tryz.func77 rfl (by kernel_rfl) Tryz.ntmps77 rfl rfl (fun w => ?_)
 refine WC_seq (WC_region ?_)
 refine WL_do rfl rfl rfl (D_box (cs := [_, _]) rfl rfl rfl) ?_
 rintro _ _ ⟨b1, rfl, rfl⟩
 refine WLa rfl (WLa rfl (WL_nil (WQ_code (WC_seq (WC_region (WLa rfl ?_))))))
 refine WL_val rfl rfl rfl (R_loadA (vs := [_, _]) rfl ag30 rfl (mmZ) rfl (atZ)) ?_
 refine WL_do rfl rfl rfl (D_call (find_no p pb c tl T hT n gg h) rfl rfl rfl rfl (pqZ)) ?_
 rintro _ _ ⟨_, ⟨rfl, rfl⟩, rfl⟩
 refine WLa rfl (WLa rfl (WLa rfl (WLa rfl (WLa rfl (WL_nil (WQ_code (WC_seq (WC_seq (WC_region (WLa rfl ?_))))))))))
 refine WL_val rfl rfl rfl (R_neq rfl rfl rfl) ?_
 refine WL_nil (WQ_code ?_)
 refine WC_dT rfl (by simp) ?_
 refine WC_seq (WC_region (WLa rfl (WLa rfl (WLa rfl (WL_nil (WQ_code (WC_ret ?_)))))))
 refine WQ_ret rfl rfl (.cons (.tmp rfl) (.cons (.tmp rfl) .nil)) rfl (by
   exact ⟨rfl, rfl⟩) (pqZ)
theorem at_yes (p pb c : Nat) (tl : List Value) (T : List Pl) (hT : Fine T) (i : Nat) (x : Pl) (hx : T[i]? = some x) (ho : x.opn = true) : Spec Tryz.prog 53 [ptr p, .int .i64 (i : Int)] (tabH p pb c tl T)
  (fun r H' => r = .tuple #[fdV i (x.given - 1), .int .i64 0] ∧ H' = tabH p pb c tl T) := by
 have hlt := lt_of hx
 have hb := hT.bd hx
 refine Spec.of (E := [(0, ptr p), (1, .int .i64 (i : Int))]) Tryz.func53 rfl (by kernel_rfl) Tryz.ntmps53 rfl rfl (fun w => ?_)
 refine WC_seq (WC_region ?_)
 refine WL_do rfl rfl rfl (D_alloc rfl zv30) ?_
 rintro _ _ ⟨b1, rfl, rfl⟩
 refine WLa rfl (WL_nil (WQ_code (WC_seq (WC_block (WC_seq (WC_region (WLa rfl ?_)))))))
 refine WL_do rfl rfl rfl (D_call (zero_some p pb c tl T hT.ne) rfl rfl rfl rfl (pqZ)) ?_
 rintro _ _ ⟨_, ⟨rfl, rfl⟩, rfl⟩
 refine WLa rfl (WL_nil (WQ_code ?_))
 refine WC_F rfl ?_
 refine WC_seq (WC_region (WLa rfl ?_))
 refine WL_val rfl rfl rfl (R_lss rfl rfl rfl) ?_
 refine WLa rfl ?_
 refine WL_set (s := 13) (v := .bool false) rfl (by simp) ?_
 refine WLa rfl (WLa rfl (WLa rfl ?_))
 refine WL_val rfl rfl rfl (R_fieldAddr rfl fa169_0 rfl) ?_
 refine WL_val rfl rfl rfl (R_load rfl sc167 rfl (mmZ) rfl) ?_
 refine WL_val rfl rfl rfl (R_len rfl Tryz.underlying167 rfl) ?_
 refine WL_val rfl rfl rfl (R_geq rfl rfl rfl) ?_
 refine WLa rfl (WLa rfl ?_)
 refine WL_set (s := 22) (v := .bool false) rfl (by simp; omega) ?_
 refine WLa rfl (WLa rfl ?_)
 refine WL_val rfl rfl rfl (R_fieldAddr rfl fa169_0 rfl) ?_
 refine WL_val rfl rfl rfl (R_load rfl sc167 rfl (mmZ) rfl) ?_
 refine WLa rfl ?_
 refine WL_val rfl rfl rfl (R_indexAddrN rfl Tryz.underlying167 Tryz.sizeOf172 rfl rfl (by exact hlt)) ?_
 refine WL_val rfl rfl rfl (R_fieldAddr rfl fa172_2 rfl) ?_
 refine WL_val rfl rfl rfl (R_load rfl sc4 rfl (mmZ) (fm_get0 encP3 hx (by omega))) ?_
 refine WL_val rfl rfl rfl (R_not rfl rfl) ?_
 rw [ho]
 refine WLa rfl (WLa rfl (WL_nil (WQ_code ?_)))
 refine WC_F rfl ?_
 refine WC_skip (WQ_code (WC_seq (WC_region (WLa rfl (WLa rfl (WLa rfl ?_))))))
 refine WL_val rfl rfl rfl (R_fieldAddr rfl fa169_0 rfl) ?_
 refine WL_val rfl rfl rfl (R_load rfl sc167 rfl (mmZ) rfl) ?_
 refine WLa rfl ?_
 refine WL_val rfl rfl rfl (R_indexAddrN rfl Tryz.underlying167 Tryz.sizeOf172 rfl rfl (by exact hlt)) ?_
 refine WL_val rfl rfl rfl (R_fieldAddr rfl fa172_0 rfl) ?_
 refine WL_val rfl rfl rfl (R_load rfl sc3 rfl (mmZ) (fm_get0 encP3 hx (by omega))) ?_
 refine WL_val rfl rfl rfl (R_sub rfl rfl rfl (by omega)) ?_
 refine WL_val rfl rfl rfl (R_build rfl zv30 pl30 rfl rfl) ?_
 refine WL_do0 rfl rfl (D_store (vs := [_, _]) rfl Tryz.sizeOf30 rfl rfl rfl rfl rfl (plZ) (Nat.le_of_ble_eq_true rfl)) ?_
 rintro _ _ rfl
 refine WLa rfl (WL_nil (WQ_code (WC_ret ?_)))
 refine WQ_ret rfl rfl (.cons (.cell (vs := [_, _]) rfl ag30 (mmZ) rfl (atZ)) (.cons (.tmp rfl) .nil)) rfl (by
   exact ⟨rfl, rfl⟩) (pqZ)
theorem at_no (p pb c : Nat) (tl : List Value) (T : List Pl) (hT : Fine T) (n : Int) (h : ∀ (i : Nat) (x : Pl), n = (i : Int) → T[i]? = some x → x.opn = false) : Spec Tryz.prog 53 [ptr p, .int .i64 n] (tabH p pb c tl T)
  (fun r H' => r = .tuple #[fdV 0 0, .int .i64 9] ∧ H' = tabH p pb c tl T) := by
 refine Spec.of (E := [(0, ptr p), (1, .int .i64 n)]) Tryz.func53 rfl (by kernel_rfl) Tryz.ntmps53 rfl rfl (fun w => ?_)
 refine WC_seq (WC_region ?_)
 refine WL_do rfl rfl rfl (D_alloc rfl zv30) ?_
 rintro _ _ ⟨b1, rfl, rfl⟩
 refine WLa rfl (WL_nil (WQ_code (WC_seq (WC_block (WC_seq (WC_region (WLa rfl ?_)))))))
 refine WL_do rfl rfl rfl (D_call (zero_some p pb c tl T hT.ne) rfl rfl rfl rfl (pqZ)) ?_
 rintro _ _ ⟨_, ⟨rfl, rfl⟩, rfl⟩
 refine WLa rfl (WL_nil (WQ_code ?_))
 refine WC_F rfl ?_
 refine WC_seq (WC_region (WLa rfl ?_))
 refine WL_val rfl rfl rfl (R_lss rfl rfl rfl) ?_
 refine WLa rfl ?_
 refine WL_splitD (s := 13) rfl (fun c1 => ?_) (fun c1 => ?_)
 ·refine WL_skip rfl rfl rfl ?_
  refine WL_skip rfl rfl rfl ?_
  refine WL_skip rfl rfl rfl ?_
  refine WL_skip rfl rfl rfl ?_
  refine WL_skip rfl rfl rfl ?_
  refine WL_skip rfl rfl rfl ?_
  refine WL_skip rfl rfl rfl ?_
  refine WLa rfl (WLa rfl ?_)
  refine WL_skip rfl rfl rfl ?_
  refine WL_skip rfl rfl rfl ?_
  refine WL_skip rfl rfl rfl ?_
  refine WL_skip rfl rfl rfl ?_
  refine WL_skip rfl rfl rfl ?_
  refine WL_skip rfl rfl rfl ?_
  refine WL_skip rfl rfl rfl ?_
  refine WL_skip rfl rfl rfl ?_
  refine WL_skip rfl rfl rfl ?_
  refine WLa rfl (WLa rfl (WL_nil (WQ_code ?_)))
  refine WC_T rfl ?_
  refine WC_seq (WC_region ?_)
  refine WL_val rfl rfl rfl (R_build rfl zv30 pl30 rfl rfl) ?_
  refine WL_do0 rfl rfl (D_store (vs := [_, _]) rfl Tryz.sizeOf30 rfl rfl rfl rfl rfl (plZ) (Nat.le_of_ble_eq_true rfl)) ?_
  rintro _ _ rfl
  refine WLa rfl (WL_nil (WQ_code (WC_ret ?_)))
  refine WQ_ret rfl rfl (.cons (.cell (vs := [_, _]) rfl ag30 (mmZ) rfl (atZ)) (.cons (.tmp rfl) .nil)) rfl (by
    exact ⟨rfl, rfl⟩) (pqZ)
 ·refine WLa rfl (WLa rfl (WLa rfl ?_))
  refine WL_val rfl rfl rfl (R_fieldAddr rfl fa169_0 rfl) ?_
  refine WL_val rfl rfl rfl (R_load rfl sc167 rfl (mmZ) rfl) ?_
  refine WL_val rfl rfl rfl (R_len rfl Tryz.underlying167 rfl) ?_
  refine WL_val rfl rfl rfl (R_geq rfl rfl rfl) ?_
  refine WLa rfl (WLa rfl ?_)
  refine WL_splitD (s := 22) rfl (fun c2 => ?_) (fun c2 => ?_)
  ·refine WL_skip rfl rfl rfl ?_
   refine WL_skip rfl rfl rfl ?_
   refine WL_skip rfl rfl rfl ?_
   refine WL_skip rfl rfl rfl ?_
   refine WL_skip rfl rfl rfl ?_
   refine WL_skip rfl rfl rfl ?_
   refine WL_skip rfl rfl rfl ?_
   refine WL_skip rfl rfl rfl ?_
   refine WL_skip rfl rfl rfl ?_
   refine WLa rfl (WLa rfl (WL_nil (WQ_code ?_)))
   refine WC_T rfl ?_
   refine WC_seq (WC_region ?_)
   refine WL_val rfl rfl rfl (R_build rfl zv30 pl30 rfl rfl) ?_
   refine WL_do0 rfl rfl (D_store (vs := [_, _]) rfl Tryz.sizeOf30 rfl rfl rfl rfl rfl (plZ) (Nat.le_of_ble_eq_true rfl)) ?_
   rintro _ _ rfl
   refine WLa rfl (WL_nil (WQ_code (WC_ret ?_)))
   refine WQ_ret rfl rfl (.cons (.cell (vs := [_, _]) rfl ag30 (mmZ) rfl (atZ)) (.cons (.tmp rfl) .nil)) rfl (by
     exact ⟨rfl, rfl⟩) (pqZ)
  ·refine WLa rfl (WLa rfl ?_)
   refine WL_val rfl rfl rfl (R_fieldAddr rfl fa169_0 rfl) ?_
   refine WL_val rfl rfl rfl (R_load rfl sc167 rfl (mmZ) rfl) ?_
   refine WLa rfl ?_
   obtain ⟨x, hx⟩ := ex_of (T := T) (i := n.toNat) (by omega)
   have hb := hT.bd hx
   have ho := h n.toNat x (by omega) hx
   refine WL_val rfl rfl rfl (R_indexAddr rfl Tryz.underlying167 Tryz.sizeOf172 rfl rfl (by exact ⟨by omega, by omega⟩)) ?_
   refine WL_val rfl rfl rfl (R_fieldAddr rfl fa172_2 rfl) ?_
   refine WL_val rfl rfl rfl (R_load rfl sc4 rfl (mmZ) (fm_get0 encP3 hx (by omega))) ?_
   refine WL_val rfl rfl rfl (R_not rfl rfl) ?_
   refine WLa rfl (WLa rfl (WL_nil (WQ_code ?_)))
   refine WC_if rfl (fun c3 => ?_) (fun c3 => ?_)
   ·refine WC_seq (WC_region ?_)
    refine WL_val rfl rfl rfl (R_build rfl zv30 pl30 rfl rfl) ?_
    refine WL_do0 rfl rfl (D_store (vs := [_, _]) rfl Tryz.sizeOf30 rfl rfl rfl rfl rfl (plZ) (Nat.le_of_ble_eq_true rfl)) ?_
    rintro _ _ rfl
    refine WLa rfl (WL_nil (WQ_code (WC_ret ?_)))
    refine WQ_ret rfl rfl (.cons (.cell (vs := [_, _]) rfl ag30 (mmZ) rfl (atZ)) (.cons (.tmp rfl) .nil)) rfl (by
      exact ⟨rfl, rfl⟩) (pqZ)
   ·simp_all
end Go.Proofs.YtbkdebnkoidicaaGreat.Slt
end
section
set_option linter.unusedVariables false
set_option maxRecDepth 20000
namespace Go.Proofs.YtbkdebnkoidicaaGreat.Slt
theorem encP_one (x : Pl) : (encP x).all Value.oneCell' = true := rfl
theorem clone_ok (pb c : Nat) (tl : List Value) (T : List Pl) (hT : Fine T) : Spec Tryz.prog 140 [.slice (some ⟨pb, 0, none⟩) T.length c] [⟨some pb, cl (T.flatMap encP ++ tl) 172⟩]
  (fun r H' => ∃ b c' tl', r = .slice (some ⟨b, 0, none⟩) T.length c' ∧ H' = [⟨some b, cl (T.flatMap encP ++ tl') 172⟩, ⟨some pb, cl (T.flatMap encP ++ tl) 172⟩]) := by
 have hlen := hT.len
 have hpos := hT.pos
 refine Spec.of (E := [(0, .slice (some ⟨pb, 0, none⟩) T.length c)]) Tryz.func140 rfl (by kernel_rfl) Tryz.ntmps140 rfl rfl (fun w => ?_)
 refine WC_seq (WC_region (WLa rfl (WL_nil (WQ_code (WC_seq (WC_seq (WC_region (WLa rfl ?_))))))))
 refine WL_val rfl rfl rfl (R_sliceEqNil rfl Tryz.underlying167 rfl) ?_
 refine WL_nil (WQ_code ?_)
 refine WC_F rfl ?_
 refine WC_skip (WQ_code (WC_seq (WC_region ?_)))
 refine WL_do rfl rfl rfl (D_buildSlice rfl si167 rfl rfl rfl) ?_
 rintro _ _ ⟨b1, rfl, rfl⟩
 refine WLa rfl ?_
 refine WL_do rfl rfl rfl (D_append rfl si167 rfl ((⟨by simp, by simp, by simp, by simp, fun h => by cases h⟩ : Own (some b1) 0 0 3 [] [])) (plZ) rfl (mmZ) ((fun j v hj => by rw [Nat.zero_add, List.getElem?_append_left (List.getElem?_eq_some_iff.1 hj).1]; exact hj : At (T.flatMap encP ++ tl) 0 (T.flatMap encP))) (fm_length encP3 T) (fm_all encP_one T) (by omega) (by omega)) ?_
 rintro _ _ ⟨ob2, cap2, tl2, rfl, own2, rfl⟩
 obtain ⟨b9, rfl⟩ := own2.some_of (by omega)
 rw [show 0 + T.length = T.length from by omega, List.nil_append]
 refine WLa rfl (WL_nil (WQ_code (WC_ret ?_)))
 refine WQ_ret rfl rfl (.cons (.tmp rfl) .nil) rfl (by
   exact ⟨b9, cap2, tl2, rfl, rfl⟩) (pqZ)
theorem copy_ok (p pb c : Nat) (tl : List Value) (T : List Pl) (hT : Fine T) : Spec Tryz.prog 80 [ptr p] (tabH p pb c tl T) (fun r H' => ∃ p2 pb2 c2 tl2, r = ptr p2 ∧ H' = tabH p2 pb2 c2 tl2 T ++ tabH p pb c tl T) := by
 refine Spec.of (E := [(0, ptr p)]) Tryz.func80 rfl (by kernel_rfl) Tryz.ntmps80 rfl rfl (fun w => ?_)
 refine WC_seq (WC_region (WLa rfl (WL_nil (WQ_code (WC_seq (WC_seq (WC_region (WLa rfl ?_))))))))
 refine WL_do rfl rfl rfl (D_call (zero_some p pb c tl T hT.ne) rfl rfl rfl rfl (pqZ)) ?_
 rintro _ _ ⟨_, ⟨rfl, rfl⟩, rfl⟩
 refine WL_nil (WQ_code ?_)
 refine WC_F rfl ?_
 refine WC_skip (WQ_code (WC_seq (WC_region (WLa rfl (WLa rfl ?_)))))
 refine WL_val rfl rfl rfl (R_fieldAddr rfl fa169_0 rfl) ?_
 refine WL_val rfl rfl rfl (R_load rfl sc167 rfl (mmZ) rfl) ?_
 refine WL_do rfl rfl rfl (D_call (clone_ok pb c tl T hT) rfl rfl rfl rfl (pqZ)) ?_
 rintro _ _ ⟨_, ⟨b5, c5, tl5, rfl, rfl⟩, rfl⟩
 refine WL_val rfl rfl rfl (R_build rfl zv169 pl169 rfl rfl) ?_
 refine WL_do rfl rfl rfl (D_box (cs := [_]) rfl rfl rfl) ?_
 rintro _ _ ⟨b1, rfl, rfl⟩
 refine WLa rfl (WL_nil (WQ_code (WC_ret ?_)))
 refine WQ_ret rfl rfl (.cons (.tmp rfl) .nil) rfl (by
   exact ⟨_, b5, c5, tl5, rfl, rfl⟩) (pqZ)
end Go.Proofs.YtbkdebnkoidicaaGreat.Slt
end
section
set_option linter.unusedVariables false
set_option maxRecDepth 20000
namespace Go.Proofs.YtbkdebnkoidicaaGreat.Slt
structure Fl where
 n : Int
 gen : Int
 value : Int
 closed : Bool
def encL (x : Fl) : List Value := [.int .i64 x.n, .int .i64 x.gen, .int .i64 x.value, .bool x.closed]
theorem encL4 (x : Fl) : (encL x).length = 4 := rfl
theorem encL_one (x : Fl) : (encL x).all Value.oneCell' = true := rfl
def Fl.out (x : Fl) : Int × Int × Int := (x.n, x.gen, x.value)
end Go.Proofs.YtbkdebnkoidicaaGreat.Slt
end
section
set_option linter.unusedVariables false
set_option maxRecDepth 20000
namespace Go.Proofs.YtbkdebnkoidicaaGreat.Slt
abbrev refV (m : Int) (ob : Option Nat) (n c : Nat) : Value := .agg #[.int .i64 m, slV ob n c]
structure Open1 (W : List Fl) (n : Int) (j : Nat) (x : Fl) : Prop where
 at_ : W[j]? = some x
 num : x.n = n
 opn : x.closed = false
 one : ∀ (i : Nat) (y : Fl), W[i]? = some y → y.n = n → y.closed = false → i = j
def NoOpen (W : List Fl) (n : Int) : Prop := ∀ (i : Nat) (y : Fl), W[i]? = some y → y.n = n → y.closed = true
theorem Open1.lt {W : List Fl} {n : Int} {j : Nat} {x : Fl} (h : Open1 W n j x) : j < W.length := (List.getElem?_eq_some_iff.1 h.at_).1
theorem rat_yes (m : Int) (ob : Option Nat) (cw : Nat) (W : List Fl) (tw : List Value) (hown : Own ob W.length cw 4 (W.flatMap encL) tw) (n : Int) (j : Nat) (x : Fl) (h : Open1 W n j x) : Spec Tryz.prog 163 [refV m ob W.length cw, .int .i64 n] [⟨ob, cl (W.flatMap encL ++ tw) 143⟩] (fun r H' => r = .int .i64 (j : Int) ∧ H' = [⟨ob, cl (W.flatMap encL ++ tw) 143⟩]) := by
 have hlt := h.lt
 have hcap := hown.le
 have hbig := hown.big
 obtain ⟨wb, rfl⟩ := hown.some_of (by omega)
 refine Spec.of (E := [(0, refV m (some wb) W.length cw), (1, .int .i64 n)]) Tryz.func163 rfl (by kernel_rfl) Tryz.ntmps163 rfl rfl (fun w => ?_)
 refine WC_seq (WC_region ?_)
 refine WL_do rfl rfl rfl (D_box (cs := [_, _]) rfl rfl rfl) ?_
 rintro _ _ ⟨b1, rfl, rfl⟩
 refine WLa rfl (WL_nil (WQ_code (WC_seq (WC_seq (WC_region (WLa rfl (WL_nil (WQ_code (WC_block ?_)))))))))
 refine WC_loopF (G := Nat) [4, 5, 6, 7, 8, 9, 10, 11, 12, 13, 14, 15, 16, 17, 18, 19, 20, 21, 22, 23, 24, 25, 26, 27, 28, 29, 30, 31] (fun k => k ≤ j) (fun k => [(5, .int .i64 (k : Int))]) (fun k => []) (fun k => j - k) (0) (Nat.zero_le _) leZ (pqZ) ?_
 rintro k hk
 refine WC_seq (WC_seq (WC_region (WLa rfl ?_)))
 refine WL_val rfl rfl rfl (R_fieldAddr rfl fa71_1 rfl) ?_
 refine WL_val rfl rfl rfl (R_load rfl sc69 rfl (mmZ) rfl) ?_
 refine WL_val rfl rfl rfl (R_len rfl Tryz.underlying69 rfl) ?_
 refine WL_val rfl rfl rfl (R_lss rfl rfl rfl) ?_
 refine WL_nil (WQ_code ?_)
 refine WC_dT rfl (by omega) ?_
 refine WC_skip (WQ_code (WC_seq (WC_block (WC_seq (WC_region ?_)))))
 refine WL_val rfl rfl rfl (R_fieldAddr rfl fa71_1 rfl) ?_
 refine WL_val rfl rfl rfl (R_load rfl sc69 rfl (mmZ) rfl) ?_
 refine WLa rfl ?_
 obtain ⟨y, hy⟩ := exE (T := W) (i := k) (by omega)
 refine WL_val rfl rfl rfl (R_indexAddrN rfl Tryz.underlying69 Tryz.sizeOf143 rfl rfl (by omega)) ?_
 refine WL_val rfl rfl rfl (R_fieldAddr rfl fa143_0 rfl) ?_
 refine WL_val rfl rfl rfl (R_fieldAddr rfl fa30_0 rfl) ?_
 refine WL_val rfl rfl rfl (R_load (v := .int .i64 y.n) rfl sc3 rfl (mmZ) (fm_get0 encL4 hy (by omega))) ?_
 refine WLa rfl ?_
 refine WL_val rfl rfl rfl (R_eql rfl rfl rfl) ?_
 refine WLa rfl ?_
 refine WL_splitD (s := 22) rfl (fun c1 => ?_) (fun c1 => ?_)
 ·refine WL_val rfl rfl rfl (R_fieldAddr rfl fa71_1 rfl) ?_
  refine WL_val rfl rfl rfl (R_load rfl sc69 rfl (mmZ) rfl) ?_
  refine WLa rfl ?_
  refine WL_val rfl rfl rfl (R_indexAddrN rfl Tryz.underlying69 Tryz.sizeOf143 rfl rfl (by omega)) ?_
  refine WL_val rfl rfl rfl (R_fieldAddr rfl fa143_2 rfl) ?_
  refine WL_val rfl rfl rfl (R_load rfl sc4 rfl (mmZ) (fm_get0 encL4 hy (by omega))) ?_
  refine WL_val rfl rfl rfl (R_not rfl rfl) ?_
  refine WLa rfl (WL_nil (WQ_code ?_))
  refine WC_if rfl (fun c2 => ?_) (fun c2 => ?_)
  ·obtain rfl : k = j := h.one k y hy (by simp_all) (by simp_all)
   refine WC_seq (WC_region (WLa rfl (WLa rfl (WL_nil (WQ_code (WC_ret ?_))))))
   refine WQ_ret rfl rfl (.cons (.tmp rfl) .nil) rfl (by
     exact ⟨rfl, rfl⟩) (pqZ)
  ·refine WC_skip (WQ_code (WC_region (WLa rfl ?_)))
   refine WL_val rfl rfl rfl (R_add rfl rfl rfl (by omega)) ?_
   refine WLa rfl (WL_nil ?_)
   have hkj : k ≠ j := by intro e; subst e; have := h.at_; rw [hy] at this; cases this; have h1 := h.num; have h2 := h.opn; simp_all
   refine WQ_nextF (k + 1) (by omega) (by omega) leZ (psZ) rfl (pqZ)
 ·refine WL_skip rfl rfl rfl ?_
  refine WL_skip rfl rfl rfl ?_
  refine WL_skip rfl rfl rfl ?_
  refine WL_skip rfl rfl rfl ?_
  refine WL_skip rfl rfl rfl ?_
  refine WL_skip rfl rfl rfl ?_
  refine WL_skip rfl rfl rfl ?_
  refine WLa rfl (WL_nil (WQ_code ?_))
  refine WC_F rfl ?_
  refine WC_skip (WQ_code (WC_region (WLa rfl ?_)))
  refine WL_val rfl rfl rfl (R_add rfl rfl rfl (by omega)) ?_
  refine WLa rfl (WL_nil ?_)
  have hkj : k ≠ j := by intro e; subst e; have := h.at_; rw [hy] at this; cases this; have h1 := h.num; have h2 := h.opn; simp_all
  refine WQ_nextF (k + 1) (by omega) (by omega) leZ (psZ) rfl (pqZ)
theorem rat_no (m : Int) (ob : Option Nat) (cw : Nat) (W : List Fl) (tw : List Value) (hown : Own ob W.length cw 4 (W.flatMap encL) tw) (n : Int) (h : NoOpen W n) : Spec Tryz.prog 163 [refV m ob W.length cw, .int .i64 n] [⟨ob, cl (W.flatMap encL ++ tw) 143⟩] (fun r H' => r = .int .i64 (-1) ∧ H' = [⟨ob, cl (W.flatMap encL ++ tw) 143⟩]) := by
 have hcap := hown.le
 have hbig := hown.big
 refine Spec.of (E := [(0, refV m ob W.length cw), (1, .int .i64 n)]) Tryz.func163 rfl (by kernel_rfl) Tryz.ntmps163 rfl rfl (fun w => ?_)
 refine WC_seq (WC_region ?_)
 refine WL_do rfl rfl rfl (D_box (cs := [_, _]) rfl rfl rfl) ?_
 rintro _ _ ⟨b1, rfl, rfl⟩
 refine WLa rfl (WL_nil (WQ_code (WC_seq (WC_seq (WC_region (WLa rfl (WL_nil (WQ_code (WC_block ?_)))))))))
 refine WC_loopF (G := Nat) [4, 5, 6, 7, 8, 9, 10, 11, 12, 13, 14, 15, 16, 17, 18, 19, 20, 21, 22, 23, 24, 25, 26, 27, 28, 29, 30, 31] (fun k => k ≤ W.length) (fun k => [(5, .int .i64 (k : Int))]) (fun k => []) (fun k => W.length - k) (0) (Nat.zero_le _) leZ (pqZ) ?_
 rintro k hk
 refine WC_seq (WC_seq (WC_region (WLa rfl ?_)))
 refine WL_val rfl rfl rfl (R_fieldAddr rfl fa71_1 rfl) ?_
 refine WL_val rfl rfl rfl (R_load rfl sc69 rfl (mmZ) rfl) ?_
 refine WL_val rfl rfl rfl (R_len rfl Tryz.underlying69 rfl) ?_
 refine WL_val rfl rfl rfl (R_lss rfl rfl rfl) ?_
 refine WL_nil (WQ_code ?_)
 refine WC_dec rfl (fun c1 => ?_) (fun c1 => ?_)
 ·refine WC_skip (WQ_code (WC_seq (WC_block (WC_seq (WC_region ?_)))))
  refine WL_val rfl rfl rfl (R_fieldAddr rfl fa71_1 rfl) ?_
  refine WL_val rfl rfl rfl (R_load rfl sc69 rfl (mmZ) rfl) ?_
  refine WLa rfl ?_
  obtain ⟨y, hy⟩ := exE (T := W) (i := k) (by omega)
  obtain ⟨wb, rfl⟩ := hown.some_of (by omega)
  refine WL_val rfl rfl rfl (R_indexAddrN rfl Tryz.underlying69 Tryz.sizeOf143 rfl rfl (by omega)) ?_
  refine WL_val rfl rfl rfl (R_fieldAddr rfl fa143_0 rfl) ?_
  refine WL_val rfl rfl rfl (R_fieldAddr rfl fa30_0 rfl) ?_
  refine WL_val rfl rfl rfl (R_load (v := .int .i64 y.n) rfl sc3 rfl (mmZ) (fm_get0 encL4 hy (by omega))) ?_
  refine WLa rfl ?_
  refine WL_val rfl rfl rfl (R_eql rfl rfl rfl) ?_
  refine WLa rfl ?_
  refine WL_splitD (s := 22) rfl (fun c2 => ?_) (fun c2 => ?_)
  ·refine WL_val rfl rfl rfl (R_fieldAddr rfl fa71_1 rfl) ?_
   refine WL_val rfl rfl rfl (R_load rfl sc69 rfl (mmZ) rfl) ?_
   refine WLa rfl ?_
   refine WL_val rfl rfl rfl (R_indexAddrN rfl Tryz.underlying69 Tryz.sizeOf143 rfl rfl (by omega)) ?_
   refine WL_val rfl rfl rfl (R_fieldAddr rfl fa143_2 rfl) ?_
   refine WL_val rfl rfl rfl (R_load rfl sc4 rfl (mmZ) (fm_get0 encL4 hy (by omega))) ?_
   refine WL_val rfl rfl rfl (R_not rfl rfl) ?_
   refine WLa rfl (WL_nil (WQ_code ?_))
   refine WC_if rfl (fun c3 => ?_) (fun c3 => ?_)
   ·exfalso; have := h k y hy (by simp_all); simp_all
   ·refine WC_skip (WQ_code (WC_region (WLa rfl ?_)))
    refine WL_val rfl rfl rfl (R_add rfl rfl rfl (by omega)) ?_
    refine WLa rfl (WL_nil ?_)
    refine WQ_nextF (k + 1) (by omega) (by omega) leZ (psZ) rfl (pqZ)
  ·refine WL_skip rfl rfl rfl ?_
   refine WL_skip rfl rfl rfl ?_
   refine WL_skip rfl rfl rfl ?_
   refine WL_skip rfl rfl rfl ?_
   refine WL_skip rfl rfl rfl ?_
   refine WL_skip rfl rfl rfl ?_
   refine WL_skip rfl rfl rfl ?_
   refine WLa rfl (WL_nil (WQ_code ?_))
   refine WC_F rfl ?_
   refine WC_skip (WQ_code (WC_region (WLa rfl ?_)))
   refine WL_val rfl rfl rfl (R_add rfl rfl rfl (by omega)) ?_
   refine WLa rfl (WL_nil ?_)
   refine WQ_nextF (k + 1) (by omega) (by omega) leZ (psZ) rfl (pqZ)
 ·refine WC_exit (WQ_code (WC_seq (WC_region (WLa rfl (WL_nil (WQ_code (WC_ret ?_)))))))
  refine WQ_ret rfl rfl (.cons (.tmp rfl) .nil) rfl (by
    exact ⟨rfl, rfl⟩) (pqZ)
theorem rfind_yes (m : Int) (ob : Option Nat) (cw : Nat) (W : List Fl) (tw : List Value) (hown : Own ob W.length cw 4 (W.flatMap encL) tw) (n g : Int) (j : Nat) (x : Fl) (h : Open1 W n j x) (hg : x.gen = g) : Spec Tryz.prog 165 [refV m ob W.length cw, fdV n g] [⟨ob, cl (W.flatMap encL ++ tw) 143⟩] (fun r H' => r = .int .i64 (j : Int) ∧ H' = [⟨ob, cl (W.flatMap encL ++ tw) 143⟩]) := by
 have hlt := h.lt
 have hx := h.at_
 have hn := h.num
 obtain ⟨wb, rfl⟩ := hown.some_of (by omega)
 refine Spec.of (E := [(0, refV m (some wb) W.length cw), (1, fdV n g)]) Tryz.func165 rfl (by kernel_rfl) Tryz.ntmps165 rfl rfl (fun w => ?_)
 refine WC_seq (WC_region ?_)
 refine WL_do rfl rfl rfl (D_box (cs := [_, _]) rfl rfl rfl) ?_
 rintro _ _ ⟨b1, rfl, rfl⟩
 refine WL_do rfl rfl rfl (D_box (cs := [_, _]) rfl rfl rfl) ?_
 rintro _ _ ⟨b2, rfl, rfl⟩
 refine WLa rfl (WL_nil (WQ_code (WC_seq (WC_region ?_))))
 refine WL_val rfl rfl rfl (R_loadA (vs := [_, _]) rfl ag71 rfl (mmZ) rfl (atZ)) ?_
 refine WL_val rfl rfl rfl (R_fieldAddr rfl fa30_0 rfl) ?_
 refine WL_val rfl rfl rfl (R_load rfl sc3 rfl (mmZ) rfl) ?_
 refine WL_do rfl rfl rfl (D_call (rat_yes m (some wb) cw W tw hown n j x h) rfl rfl rfl rfl (pqZ)) ?_
 rintro _ _ ⟨_, ⟨rfl, rfl⟩, rfl⟩
 refine WLa rfl (WL_nil (WQ_code (WC_seq (WC_seq ?_))))
 refine WC_draw _ [(0, true), (1, true), (2, true), (3, true), (4, true), (5, true), (6, true), (7, true), (8, true), (9, true), (10, true), (11, true)] followsMixed rfl rfl (by kernel_rfl) .all ?_
 refine WMa rfl ?_
 refine WM_val rfl rfl rfl rfl (R_lss rfl rfl rfl) ?_
 refine WMa rfl ?_
 refine WM_set (s := 12) (v := .bool false) rfl (by simp) ?_
 refine WM_val rfl rfl rfl rfl (R_fieldAddr rfl fa71_1 rfl) ?_
 refine WM_val rfl rfl rfl rfl (R_load rfl sc69 rfl (mmZ) rfl) ?_
 refine WMa rfl ?_
 refine WM_val rfl rfl rfl rfl (R_indexAddrN rfl Tryz.underlying69 Tryz.sizeOf143 rfl rfl (by exact hlt)) ?_
 refine WM_val rfl rfl rfl rfl (R_fieldAddr rfl fa143_0 rfl) ?_
 refine WM_val rfl rfl rfl rfl (R_loadA (vs := [.int .i64 x.n, .int .i64 x.gen]) rfl ag30 rfl (mmZ) rfl ((fm_at0 encL4 hx (j := 0) (vs := [.int .i64 x.n, .int .i64 x.gen]) (At.cons (At.cons At.nil)) (by simp)))) ?_
 refine WM_val rfl rfl rfl rfl (R_loadA (vs := [_, _]) rfl ag30 rfl (mmZ) rfl (atZ)) ?_
 refine WM_val rfl rfl rfl rfl (R_sne30 rfl rfl rfl rfl) ?_
 refine WMa rfl (WM_nil (WQ_code ?_))
 refine WC_dF rfl (by simp [hn, hg]) ?_
 refine WC_skip (WQ_code (WC_seq (WC_region (WLa rfl (WLa rfl (WL_nil (WQ_code (WC_ret ?_))))))))
 refine WQ_ret rfl rfl (.cons (.tmp rfl) .nil) rfl (by
   exact ⟨rfl, rfl⟩) (pqZ)
theorem rfind_ne (m : Int) (ob : Option Nat) (cw : Nat) (W : List Fl) (tw : List Value) (hown : Own ob W.length cw 4 (W.flatMap encL) tw) (n g : Int) (j : Nat) (x : Fl) (h : Open1 W n j x) (hg : x.gen ≠ g) : Spec Tryz.prog 165 [refV m ob W.length cw, fdV n g] [⟨ob, cl (W.flatMap encL ++ tw) 143⟩] (fun r H' => r = .int .i64 (-1) ∧ H' = [⟨ob, cl (W.flatMap encL ++ tw) 143⟩]) := by
 have hlt := h.lt
 have hx := h.at_
 have hn := h.num
 obtain ⟨wb, rfl⟩ := hown.some_of (by omega)
 refine Spec.of (E := [(0, refV m (some wb) W.length cw), (1, fdV n g)]) Tryz.func165 rfl (by kernel_rfl) Tryz.ntmps165 rfl rfl (fun w => ?_)
 refine WC_seq (WC_region ?_)
 refine WL_do rfl rfl rfl (D_box (cs := [_, _]) rfl rfl rfl) ?_
 rintro _ _ ⟨b1, rfl, rfl⟩
 refine WL_do rfl rfl rfl (D_box (cs := [_, _]) rfl rfl rfl) ?_
 rintro _ _ ⟨b2, rfl, rfl⟩
 refine WLa rfl (WL_nil (WQ_code (WC_seq (WC_region ?_))))
 refine WL_val rfl rfl rfl (R_loadA (vs := [_, _]) rfl ag71 rfl (mmZ) rfl (atZ)) ?_
 refine WL_val rfl rfl rfl (R_fieldAddr rfl fa30_0 rfl) ?_
 refine WL_val rfl rfl rfl (R_load rfl sc3 rfl (mmZ) rfl) ?_
 refine WL_do rfl rfl rfl (D_call (rat_yes m (some wb) cw W tw hown n j x h) rfl rfl rfl rfl (pqZ)) ?_
 rintro _ _ ⟨_, ⟨rfl, rfl⟩, rfl⟩
 refine WLa rfl (WL_nil (WQ_code (WC_seq (WC_seq ?_))))
 refine WC_draw _ [(0, true), (1, true), (2, true), (3, true), (4, true), (5, true), (6, true), (7, true), (8, true), (9, true), (10, true), (11, true)] followsMixed rfl rfl (by kernel_rfl) .all ?_
 refine WMa rfl ?_
 refine WM_val rfl rfl rfl rfl (R_lss rfl rfl rfl) ?_
 refine WMa rfl ?_
 refine WM_set (s := 12) (v := .bool false) rfl (by simp) ?_
 refine WM_val rfl rfl rfl rfl (R_fieldAddr rfl fa71_1 rfl) ?_
 refine WM_val rfl rfl rfl rfl (R_load rfl sc69 rfl (mmZ) rfl) ?_
 refine WMa rfl ?_
 refine WM_val rfl rfl rfl rfl (R_indexAddrN rfl Tryz.underlying69 Tryz.sizeOf143 rfl rfl (by exact hlt)) ?_
 refine WM_val rfl rfl rfl rfl (R_fieldAddr rfl fa143_0 rfl) ?_
 refine WM_val rfl rfl rfl rfl (R_loadA (vs := [.int .i64 x.n, .int .i64 x.gen]) rfl ag30 rfl (mmZ) rfl ((fm_at0 encL4 hx (j := 0) (vs := [.int .i64 x.n, .int .i64 x.gen]) (At.cons (At.cons At.nil)) (by simp)))) ?_
 refine WM_val rfl rfl rfl rfl (R_loadA (vs := [_, _]) rfl ag30 rfl (mmZ) rfl (atZ)) ?_
 refine WM_val rfl rfl rfl rfl (R_sne30 rfl rfl rfl rfl) ?_
 refine WMa rfl (WM_nil (WQ_code ?_))
 refine WC_dT rfl (by simp [hn, hg]) ?_
 refine WC_seq (WC_region (WLa rfl (WL_nil (WQ_code (WC_ret ?_)))))
 refine WQ_ret rfl rfl (.cons (.tmp rfl) .nil) rfl (by
   exact ⟨rfl, rfl⟩) (pqZ)
theorem rfind_no (m : Int) (ob : Option Nat) (cw : Nat) (W : List Fl) (tw : List Value) (hown : Own ob W.length cw 4 (W.flatMap encL) tw) (n g : Int) (h : NoOpen W n) : Spec Tryz.prog 165 [refV m ob W.length cw, fdV n g] [⟨ob, cl (W.flatMap encL ++ tw) 143⟩] (fun r H' => r = .int .i64 (-1) ∧ H' = [⟨ob, cl (W.flatMap encL ++ tw) 143⟩]) := by
 refine Spec.of (E := [(0, refV m ob W.length cw), (1, fdV n g)]) Tryz.func165 rfl (by kernel_rfl) Tryz.ntmps165 rfl rfl (fun w => ?_)
 refine WC_seq (WC_region ?_)
 refine WL_do rfl rfl rfl (D_box (cs := [_, _]) rfl rfl rfl) ?_
 rintro _ _ ⟨b1, rfl, rfl⟩
 refine WL_do rfl rfl rfl (D_box (cs := [_, _]) rfl rfl rfl) ?_
 rintro _ _ ⟨b2, rfl, rfl⟩
 refine WLa rfl (WL_nil (WQ_code (WC_seq (WC_region ?_))))
 refine WL_val rfl rfl rfl (R_loadA (vs := [_, _]) rfl ag71 rfl (mmZ) rfl (atZ)) ?_
 refine WL_val rfl rfl rfl (R_fieldAddr rfl fa30_0 rfl) ?_
 refine WL_val rfl rfl rfl (R_load rfl sc3 rfl (mmZ) rfl) ?_
 refine WL_do rfl rfl rfl (D_call (rat_no m ob cw W tw hown n h) rfl rfl rfl rfl (pqZ)) ?_
 rintro _ _ ⟨_, ⟨rfl, rfl⟩, rfl⟩
 refine WLa rfl (WL_nil (WQ_code (WC_seq (WC_seq ?_))))
 refine WC_draw _ [(0, true), (1, true), (2, true), (3, true), (4, true), (5, true), (6, true), (7, true), (8, true), (9, true), (10, true), (11, true)] followsMixed rfl rfl (by kernel_rfl) .all ?_
 refine WMa rfl ?_
 refine WM_val rfl rfl rfl rfl (R_lss rfl rfl rfl) ?_
 refine WMa rfl ?_
 refine WM_set (s := 12) (v := .bool true) rfl (by simp) ?_
 refine WM_skip rfl rfl rfl rfl ?_
 refine WM_skip rfl rfl rfl rfl ?_
 refine WM_skip rfl rfl rfl rfl ?_
 refine WM_skip rfl rfl rfl rfl ?_
 refine WM_skip rfl rfl rfl rfl ?_
 refine WM_skip rfl rfl rfl rfl ?_
 refine WM_skip rfl rfl rfl rfl ?_
 refine WM_skip rfl rfl rfl rfl ?_
 refine WMa rfl (WM_nil (WQ_code ?_))
 refine WC_T rfl ?_
 refine WC_seq (WC_region (WLa rfl (WL_nil (WQ_code (WC_ret ?_)))))
 refine WQ_ret rfl rfl (.cons (.tmp rfl) .nil) rfl (by
   exact ⟨rfl, rfl⟩) (pqZ)
theorem rcopy_ok (m : Int) (ob : Option Nat) (cw : Nat) (W : List Fl) (tw : List Value) (hown : Own ob W.length cw 4 (W.flatMap encL) tw) (hlen : W.length ≤ 1000) : Spec Tryz.prog 164 [refV m ob W.length cw] [⟨ob, cl (W.flatMap encL ++ tw) 143⟩] (fun r H' => ∃ ob2 c2 tw2, r = refV m ob2 W.length c2 ∧ Own ob2 W.length c2 4 (W.flatMap encL) tw2 ∧ H' = ⟨ob2, cl (W.flatMap encL ++ tw2) 143⟩ :: [⟨ob, cl (W.flatMap encL ++ tw) 143⟩]) := by
 cases ob with
 | none =>
  have hW : W = [] := by
   have := hown.nil rfl; have := hown.le; exact List.eq_nil_of_length_eq_zero (by omega)
  subst hW
  have hc := hown.nil rfl
  subst hc
  have htw : tw = [] := List.eq_nil_of_length_eq_zero (by have := hown.cap; simpa using this)
  subst htw
  refine Spec.of (E := [(0, refV m none 0 0)]) Tryz.func164 rfl (by kernel_rfl) Tryz.ntmps164 rfl rfl (fun w => ?_)
  refine WC_seq (WC_region ?_)
  refine WL_do rfl rfl rfl (D_box (cs := [_, _]) rfl rfl rfl) ?_
  rintro _ _ ⟨b1, rfl, rfl⟩
  refine WL_do rfl rfl rfl (D_alloc rfl zv71) ?_
  rintro _ _ ⟨b2, rfl, rfl⟩
  refine WL_nil (WQ_code (WC_seq ?_))
  refine WC_draw ([⟨some b1, cl [.int .i64 m, slV none 0 0] 71⟩]) [(0, true), (1, true), (2, true), (3, true), (4, true), (5, true), (6, false)] followsMixed rfl rfl (by kernel_rfl) pqZ ?_
  refine WM_val rfl rfl rfl rfl (R_fieldAddr rfl fa71_0 rfl) ?_
  refine WM_val rfl rfl rfl rfl (R_load rfl sc3 rfl (mmZ) rfl) ?_
  refine WM_val rfl rfl rfl rfl (R_fieldAddr rfl fa71_1 rfl) ?_
  refine WM_val rfl rfl rfl rfl (R_load rfl sc69 rfl (mmZ) rfl) ?_
  refine WM_val rfl rfl rfl rfl (R_append00 rfl si69 rfl rfl) ?_
  refine WM_val rfl rfl rfl rfl (R_build rfl zv71 pl71 rfl rfl) ?_
  refine WM_do0 rfl rfl rfl (D_store (vs := [_, _]) rfl Tryz.sizeOf71 rfl rfl rfl rfl rfl (plZ) (Nat.le_of_ble_eq_true rfl)) ?_
  rintro _ _ rfl
  refine ⟨⟨_, pqZ⟩, ?_⟩
  refine WM_nil (WQ_code (WC_ret ?_))
  refine WQ_none 143 ?_
  refine WQ_ret rfl rfl (.cons (.cell (vs := [_, _]) rfl ag71 (mmZ) rfl (atZ)) .nil) rfl (by
    exact ⟨none, 0, [], rfl, Own.empty 4, rfl⟩) (pqZ)
 | some wb =>
  refine Spec.of (E := [(0, refV m (some wb) W.length cw)]) Tryz.func164 rfl (by kernel_rfl) Tryz.ntmps164 rfl rfl (fun w => ?_)
  refine WC_seq (WC_region ?_)
  refine WL_do rfl rfl rfl (D_box (cs := [_, _]) rfl rfl rfl) ?_
  rintro _ _ ⟨b1, rfl, rfl⟩
  refine WL_do rfl rfl rfl (D_alloc rfl zv71) ?_
  rintro _ _ ⟨b2, rfl, rfl⟩
  refine WL_nil (WQ_code (WC_seq ?_))
  refine WC_draw ([⟨some b1, cl [.int .i64 m, slV (some wb) W.length cw] 71⟩, ⟨some wb, cl (W.flatMap encL ++ tw) 143⟩]) [(0, true), (1, true), (2, true), (3, true), (4, false), (5, true), (6, false)] followsMixed rfl rfl (by kernel_rfl) pqZ ?_
  refine WM_val rfl rfl rfl rfl (R_fieldAddr rfl fa71_0 rfl) ?_
  refine WM_val rfl rfl rfl rfl (R_load rfl sc3 rfl (mmZ) rfl) ?_
  refine WM_val rfl rfl rfl rfl (R_fieldAddr rfl fa71_1 rfl) ?_
  refine WM_val rfl rfl rfl rfl (R_load rfl sc69 rfl (mmZ) rfl) ?_
  refine WM_none 143 ?_
  refine WM_do rfl rfl rfl rfl (D_append rfl si69 rfl ((Own.empty 4)) (plZ) rfl (mmZ) ((fun j v hj => by rw [Nat.zero_add, List.getElem?_append_left (List.getElem?_eq_some_iff.1 hj).1]; exact hj : At (W.flatMap encL ++ tw) 0 (W.flatMap encL))) (fm_length encL4 W) (fm_all encL_one W) (by omega) (by omega)) ?_
  rintro _ _ ⟨ob3, cap3, tl3, rfl, own3, rfl⟩
  refine ⟨⟨_, pqZ⟩, ?_⟩
  rw [show 0 + W.length = W.length from by omega, List.nil_append] at *
  refine WM_val rfl rfl rfl rfl (R_build rfl zv71 pl71 rfl rfl) ?_
  refine WM_do0 rfl rfl rfl (D_store (vs := [_, _]) rfl Tryz.sizeOf71 rfl rfl rfl rfl rfl (plZ) (Nat.le_of_ble_eq_true rfl)) ?_
  rintro _ _ rfl
  refine ⟨⟨_, pqZ⟩, ?_⟩
  refine WM_nil (WQ_code (WC_ret ?_))
  refine WQ_ret rfl rfl (.cons (.cell (vs := [_, _]) rfl ag71 (mmZ) rfl (atZ)) .nil) rfl (by
    exact ⟨_, _, _, rfl, own3, rfl⟩) (pqZ)
end Go.Proofs.YtbkdebnkoidicaaGreat.Slt
end
section
set_option linter.unusedVariables false
set_option maxRecDepth 20000
namespace Go.Proofs.YtbkdebnkoidicaaGreat.Slt
theorem rnew_bad (m : Int) (h : m < 1 ∨ 128 < m) : Spec Tryz.prog 59 [.int .i64 m] [] (fun r H' => r = .tuple #[refV 0 none 0 0, .int .i64 2] ∧ H' = []) := by
 refine Spec.of (E := [(0, .int .i64 m)]) Tryz.func59 rfl (by kernel_rfl) Tryz.ntmps59 rfl rfl (fun w => ?_)
 refine WC_seq (WC_region ?_)
 refine WL_do rfl rfl rfl (D_alloc rfl zv71) ?_
 rintro _ _ ⟨b1, rfl, rfl⟩
 refine WLa rfl (WL_nil (WQ_code (WC_seq (WC_seq (WC_region (WLa rfl ?_))))))
 refine WL_val rfl rfl rfl (R_lss rfl rfl rfl) ?_
 refine WLa rfl ?_
 refine WL_splitD (s := 6) rfl (fun c1 => ?_) (fun c1 => ?_)
 ·refine WL_skip rfl rfl rfl ?_
  refine WL_skip rfl rfl rfl ?_
  refine WLa rfl (WL_nil (WQ_code ?_))
  refine WC_T rfl ?_
  refine WC_seq (WC_region ?_)
  refine WL_val rfl rfl rfl (R_build rfl zv71 pl71 rfl rfl) ?_
  refine WL_do0 rfl rfl (D_store (vs := [_, _]) rfl Tryz.sizeOf71 rfl rfl rfl rfl rfl (plZ) (Nat.le_of_ble_eq_true rfl)) ?_
  rintro _ _ rfl
  refine WLa rfl (WL_nil (WQ_code (WC_ret ?_)))
  refine WQ_ret rfl rfl (.cons (.cell (vs := [_, _]) rfl ag71 (mmZ) rfl (atZ)) (.cons (.tmp rfl) .nil)) rfl (by
    exact ⟨rfl, rfl⟩) (pqZ)
 ·refine WLa rfl ?_
  refine WL_val rfl rfl rfl (R_gtr rfl rfl rfl) ?_
  refine WLa rfl (WL_nil (WQ_code ?_))
  refine WC_dec rfl (fun c2 => ?_) (fun c2 => ?_)
  ·refine WC_seq (WC_region ?_)
   refine WL_val rfl rfl rfl (R_build rfl zv71 pl71 rfl rfl) ?_
   refine WL_do0 rfl rfl (D_store (vs := [_, _]) rfl Tryz.sizeOf71 rfl rfl rfl rfl rfl (plZ) (Nat.le_of_ble_eq_true rfl)) ?_
   rintro _ _ rfl
   refine WLa rfl (WL_nil (WQ_code (WC_ret ?_)))
   refine WQ_ret rfl rfl (.cons (.cell (vs := [_, _]) rfl ag71 (mmZ) rfl (atZ)) (.cons (.tmp rfl) .nil)) rfl (by
     exact ⟨rfl, rfl⟩) (pqZ)
  ·exfalso; revert h; simp_all <;> omega
theorem rnew_ok (m : Int) (h1 : 1 ≤ m) (h2 : m ≤ 128) : Spec Tryz.prog 59 [.int .i64 m] [] (fun r H' => r = .tuple #[refV m none 0 0, .int .i64 0] ∧ H' = []) := by
 refine Spec.of (E := [(0, .int .i64 m)]) Tryz.func59 rfl (by kernel_rfl) Tryz.ntmps59 rfl rfl (fun w => ?_)
 refine WC_seq (WC_region ?_)
 refine WL_do rfl rfl rfl (D_alloc rfl zv71) ?_
 rintro _ _ ⟨b1, rfl, rfl⟩
 refine WLa rfl (WL_nil (WQ_code (WC_seq (WC_seq (WC_region (WLa rfl ?_))))))
 refine WL_val rfl rfl rfl (R_lss rfl rfl rfl) ?_
 refine WLa rfl ?_
 refine WL_set (s := 6) (v := .bool false) rfl (by simp <;> omega) ?_
 refine WLa rfl ?_
 refine WL_val rfl rfl rfl (R_gtr rfl rfl rfl) ?_
 refine WLa rfl (WL_nil (WQ_code ?_))
 refine WC_dF rfl (by omega) ?_
 refine WC_skip (WQ_code (WC_seq (WC_region (WLa rfl ?_))))
 refine WL_val rfl rfl rfl (R_build rfl zv71 pl71 rfl rfl) ?_
 refine WL_do0 rfl rfl (D_store (vs := [_, _]) rfl Tryz.sizeOf71 rfl rfl rfl rfl rfl (plZ) (Nat.le_of_ble_eq_true rfl)) ?_
 rintro _ _ rfl
 refine WLa rfl (WL_nil (WQ_code (WC_ret ?_)))
 refine WQ_ret rfl rfl (.cons (.cell (vs := [_, _]) rfl ag71 (mmZ) rfl (atZ)) (.cons (.tmp rfl) .nil)) rfl (by
   exact ⟨rfl, rfl⟩) (pqZ)
theorem rget_yes (m : Int) (ob : Option Nat) (cw : Nat) (W : List Fl) (tw : List Value) (hown : Own ob W.length cw 4 (W.flatMap encL) tw) (n g : Int) (j : Nat) (x : Fl) (h : Open1 W n j x) (hg : x.gen = g) : Spec Tryz.prog 136 [refV m ob W.length cw, fdV n g] [⟨ob, cl (W.flatMap encL ++ tw) 143⟩] (fun r H' => r = .tuple #[.int .i64 x.value, .int .i64 0] ∧ H' = [⟨ob, cl (W.flatMap encL ++ tw) 143⟩]) := by
 have hlt := h.lt
 have hx := h.at_
 obtain ⟨wb, rfl⟩ := hown.some_of (by omega)
 refine Spec.of (E := [(0, refV m (some wb) W.length cw), (1, fdV n g)]) Tryz.func136 rfl (by kernel_rfl) Tryz.ntmps136 rfl rfl (fun w => ?_)
 refine WC_seq (WC_region ?_)
 refine WL_do rfl rfl rfl (D_box (cs := [_, _]) rfl rfl rfl) ?_
 rintro _ _ ⟨b1, rfl, rfl⟩
 refine WL_do rfl rfl rfl (D_box (cs := [_, _]) rfl rfl rfl) ?_
 rintro _ _ ⟨b2, rfl, rfl⟩
 refine WLa rfl (WLa rfl (WL_nil (WQ_code (WC_seq (WC_region ?_)))))
 refine WL_val rfl rfl rfl (R_loadA (vs := [_, _]) rfl ag71 rfl (mmZ) rfl (atZ)) ?_
 refine WL_val rfl rfl rfl (R_loadA (vs := [_, _]) rfl ag30 rfl (mmZ) rfl (atZ)) ?_
 refine WL_do rfl rfl rfl (D_call (rfind_yes m (some wb) cw W tw hown n g j x h hg) rfl rfl rfl rfl (pqZ)) ?_
 rintro _ _ ⟨_, ⟨rfl, rfl⟩, rfl⟩
 refine WLa rfl (WL_nil (WQ_code (WC_seq (WC_seq (WC_region (WLa rfl ?_))))))
 refine WL_val rfl rfl rfl (R_lss rfl rfl rfl) ?_
 refine WL_nil (WQ_code ?_)
 refine WC_dF rfl (by omega) ?_
 refine WC_skip (WQ_code (WC_seq (WC_region ?_)))
 refine WL_val rfl rfl rfl (R_fieldAddr rfl fa71_1 rfl) ?_
 refine WL_val rfl rfl rfl (R_load rfl sc69 rfl (mmZ) rfl) ?_
 refine WLa rfl ?_
 refine WL_val rfl rfl rfl (R_indexAddrN rfl Tryz.underlying69 Tryz.sizeOf143 rfl rfl (by exact hlt)) ?_
 refine WL_val rfl rfl rfl (R_fieldAddr rfl fa143_1 rfl) ?_
 refine WL_val rfl rfl rfl (R_load rfl sc3 rfl (mmZ) (fm_get0 encL4 hx (by omega))) ?_
 refine WLa rfl (WLa rfl (WL_nil (WQ_code (WC_ret ?_))))
 refine WQ_ret rfl rfl (.cons (.tmp rfl) (.cons (.tmp rfl) .nil)) rfl (by
   exact ⟨rfl, rfl⟩) (pqZ)
theorem rget_ne (m : Int) (ob : Option Nat) (cw : Nat) (W : List Fl) (tw : List Value) (hown : Own ob W.length cw 4 (W.flatMap encL) tw) (n g : Int) (j : Nat) (x : Fl) (h : Open1 W n j x) (hg : x.gen ≠ g) : Spec Tryz.prog 136 [refV m ob W.length cw, fdV n g] [⟨ob, cl (W.flatMap encL ++ tw) 143⟩] (fun r H' => r = .tuple #[.int .i64 0, .int .i64 9] ∧ H' = [⟨ob, cl (W.flatMap encL ++ tw) 143⟩]) := by
 refine Spec.of (E := [(0, refV m ob W.length cw), (1, fdV n g)]) Tryz.func136 rfl (by kernel_rfl) Tryz.ntmps136 rfl rfl (fun w => ?_)
 refine WC_seq (WC_region ?_)
 refine WL_do rfl rfl rfl (D_box (cs := [_, _]) rfl rfl rfl) ?_
 rintro _ _ ⟨b1, rfl, rfl⟩
 refine WL_do rfl rfl rfl (D_box (cs := [_, _]) rfl rfl rfl) ?_
 rintro _ _ ⟨b2, rfl, rfl⟩
 refine WLa rfl (WLa rfl (WL_nil (WQ_code (WC_seq (WC_region ?_)))))
 refine WL_val rfl rfl rfl (R_loadA (vs := [_, _]) rfl ag71 rfl (mmZ) rfl (atZ)) ?_
 refine WL_val rfl rfl rfl (R_loadA (vs := [_, _]) rfl ag30 rfl (mmZ) rfl (atZ)) ?_
 refine WL_do rfl rfl rfl (D_call (rfind_ne m ob cw W tw hown n g j x h hg) rfl rfl rfl rfl (pqZ)) ?_
 rintro _ _ ⟨_, ⟨rfl, rfl⟩, rfl⟩
 refine WLa rfl (WL_nil (WQ_code (WC_seq (WC_seq (WC_region (WLa rfl ?_))))))
 refine WL_val rfl rfl rfl (R_lss rfl rfl rfl) ?_
 refine WL_nil (WQ_code ?_)
 refine WC_dT rfl (by omega) ?_
 refine WC_seq (WC_region (WLa rfl (WLa rfl (WL_nil (WQ_code (WC_ret ?_))))))
 refine WQ_ret rfl rfl (.cons (.tmp rfl) (.cons (.tmp rfl) .nil)) rfl (by
   exact ⟨rfl, rfl⟩) (pqZ)
theorem rget_no (m : Int) (ob : Option Nat) (cw : Nat) (W : List Fl) (tw : List Value) (hown : Own ob W.length cw 4 (W.flatMap encL) tw) (n g : Int) (h : NoOpen W n) : Spec Tryz.prog 136 [refV m ob W.length cw, fdV n g] [⟨ob, cl (W.flatMap encL ++ tw) 143⟩] (fun r H' => r = .tuple #[.int .i64 0, .int .i64 9] ∧ H' = [⟨ob, cl (W.flatMap encL ++ tw) 143⟩]) := by
 refine Spec.of (E := [(0, refV m ob W.length cw), (1, fdV n g)]) Tryz.func136 rfl (by kernel_rfl) Tryz.ntmps136 rfl rfl (fun w => ?_)
 refine WC_seq (WC_region ?_)
 refine WL_do rfl rfl rfl (D_box (cs := [_, _]) rfl rfl rfl) ?_
 rintro _ _ ⟨b1, rfl, rfl⟩
 refine WL_do rfl rfl rfl (D_box (cs := [_, _]) rfl rfl rfl) ?_
 rintro _ _ ⟨b2, rfl, rfl⟩
 refine WLa rfl (WLa rfl (WL_nil (WQ_code (WC_seq (WC_region ?_)))))
 refine WL_val rfl rfl rfl (R_loadA (vs := [_, _]) rfl ag71 rfl (mmZ) rfl (atZ)) ?_
 refine WL_val rfl rfl rfl (R_loadA (vs := [_, _]) rfl ag30 rfl (mmZ) rfl (atZ)) ?_
 refine WL_do rfl rfl rfl (D_call (rfind_no m ob cw W tw hown n g h) rfl rfl rfl rfl (pqZ)) ?_
 rintro _ _ ⟨_, ⟨rfl, rfl⟩, rfl⟩
 refine WLa rfl (WL_nil (WQ_code (WC_seq (WC_seq (WC_region (WLa rfl ?_))))))
 refine WL_val rfl rfl rfl (R_lss rfl rfl rfl) ?_
 refine WL_nil (WQ_code ?_)
 refine WC_dT rfl (by omega) ?_
 refine WC_seq (WC_region (WLa rfl (WLa rfl (WL_nil (WQ_code (WC_ret ?_))))))
 refine WQ_ret rfl rfl (.cons (.tmp rfl) (.cons (.tmp rfl) .nil)) rfl (by
   exact ⟨rfl, rfl⟩) (pqZ)
theorem rname_yes (m : Int) (ob : Option Nat) (cw : Nat) (W : List Fl) (tw : List Value) (hown : Own ob W.length cw 4 (W.flatMap encL) tw) (n : Int) (j : Nat) (x : Fl) (h : Open1 W n j x) : Spec Tryz.prog 138 [refV m ob W.length cw, .int .i64 n] [⟨ob, cl (W.flatMap encL ++ tw) 143⟩] (fun r H' => r = .tuple #[fdV x.n x.gen, .int .i64 0] ∧ H' = [⟨ob, cl (W.flatMap encL ++ tw) 143⟩]) := by
 have hlt := h.lt
 have hx := h.at_
 obtain ⟨wb, rfl⟩ := hown.some_of (by omega)
 refine Spec.of (E := [(0, refV m (some wb) W.length cw), (1, .int .i64 n)]) Tryz.func138 rfl (by kernel_rfl) Tryz.ntmps138 rfl rfl (fun w => ?_)
 refine WC_seq (WC_region ?_)
 refine WL_do rfl rfl rfl (D_box (cs := [_, _]) rfl rfl rfl) ?_
 rintro _ _ ⟨b1, rfl, rfl⟩
 refine WL_do rfl rfl rfl (D_alloc rfl zv30) ?_
 rintro _ _ ⟨b2, rfl, rfl⟩
 refine WLa rfl (WL_nil (WQ_code (WC_seq (WC_region ?_))))
 refine WL_val rfl rfl rfl (R_loadA (vs := [_, _]) rfl ag71 rfl (mmZ) rfl (atZ)) ?_
 refine WLa rfl ?_
 refine WL_do rfl rfl rfl (D_call (rat_yes m (some wb) cw W tw hown n j x h) rfl rfl rfl rfl (pqZ)) ?_
 rintro _ _ ⟨_, ⟨rfl, rfl⟩, rfl⟩
 refine WLa rfl (WL_nil (WQ_code (WC_seq (WC_seq (WC_region (WLa rfl ?_))))))
 refine WL_val rfl rfl rfl (R_lss rfl rfl rfl) ?_
 refine WL_nil (WQ_code ?_)
 refine WC_dF rfl (by omega) ?_
 refine WC_skip (WQ_code (WC_seq (WC_region ?_)))
 refine WL_val rfl rfl rfl (R_fieldAddr rfl fa71_1 rfl) ?_
 refine WL_val rfl rfl rfl (R_load rfl sc69 rfl (mmZ) rfl) ?_
 refine WLa rfl ?_
 refine WL_val rfl rfl rfl (R_indexAddrN rfl Tryz.underlying69 Tryz.sizeOf143 rfl rfl (by exact hlt)) ?_
 refine WL_val rfl rfl rfl (R_fieldAddr rfl fa143_0 rfl) ?_
 refine WL_val rfl rfl rfl (R_loadA (vs := [.int .i64 x.n, .int .i64 x.gen]) rfl ag30 rfl (mmZ) rfl ((fm_at0 encL4 hx (j := 0) (vs := [.int .i64 x.n, .int .i64 x.gen]) (At.cons (At.cons At.nil)) (by simp)))) ?_
 refine WL_do0 rfl rfl (D_store (vs := [_, _]) rfl Tryz.sizeOf30 rfl rfl rfl rfl rfl (plZ) (Nat.le_of_ble_eq_true rfl)) ?_
 rintro _ _ rfl
 refine WLa rfl (WL_nil (WQ_code (WC_ret ?_)))
 refine WQ_ret rfl rfl (.cons (.cell (vs := [_, _]) rfl ag30 (mmZ) rfl (atZ)) (.cons (.tmp rfl) .nil)) rfl (by
   exact ⟨rfl, rfl⟩) (pqZ)
theorem rname_no (m : Int) (ob : Option Nat) (cw : Nat) (W : List Fl) (tw : List Value) (hown : Own ob W.length cw 4 (W.flatMap encL) tw) (n : Int) (h : NoOpen W n) : Spec Tryz.prog 138 [refV m ob W.length cw, .int .i64 n] [⟨ob, cl (W.flatMap encL ++ tw) 143⟩] (fun r H' => r = .tuple #[fdV 0 0, .int .i64 9] ∧ H' = [⟨ob, cl (W.flatMap encL ++ tw) 143⟩]) := by
 refine Spec.of (E := [(0, refV m ob W.length cw), (1, .int .i64 n)]) Tryz.func138 rfl (by kernel_rfl) Tryz.ntmps138 rfl rfl (fun w => ?_)
 refine WC_seq (WC_region ?_)
 refine WL_do rfl rfl rfl (D_box (cs := [_, _]) rfl rfl rfl) ?_
 rintro _ _ ⟨b1, rfl, rfl⟩
 refine WL_do rfl rfl rfl (D_alloc rfl zv30) ?_
 rintro _ _ ⟨b2, rfl, rfl⟩
 refine WLa rfl (WL_nil (WQ_code (WC_seq (WC_region ?_))))
 refine WL_val rfl rfl rfl (R_loadA (vs := [_, _]) rfl ag71 rfl (mmZ) rfl (atZ)) ?_
 refine WLa rfl ?_
 refine WL_do rfl rfl rfl (D_call (rat_no m ob cw W tw hown n h) rfl rfl rfl rfl (pqZ)) ?_
 rintro _ _ ⟨_, ⟨rfl, rfl⟩, rfl⟩
 refine WLa rfl (WL_nil (WQ_code (WC_seq (WC_seq (WC_region (WLa rfl ?_))))))
 refine WL_val rfl rfl rfl (R_lss rfl rfl rfl) ?_
 refine WL_nil (WQ_code ?_)
 refine WC_dT rfl (by omega) ?_
 refine WC_seq (WC_region ?_)
 refine WL_val rfl rfl rfl (R_build rfl zv30 pl30 rfl rfl) ?_
 refine WL_do0 rfl rfl (D_store (vs := [_, _]) rfl Tryz.sizeOf30 rfl rfl rfl rfl rfl (plZ) (Nat.le_of_ble_eq_true rfl)) ?_
 rintro _ _ rfl
 refine WLa rfl (WL_nil (WQ_code (WC_ret ?_)))
 refine WQ_ret rfl rfl (.cons (.cell (vs := [_, _]) rfl ag30 (mmZ) rfl (atZ)) (.cons (.tmp rfl) .nil)) rfl (by
   exact ⟨rfl, rfl⟩) (pqZ)
abbrev NewL (H' : Heap) (m : Int) (V : Value) (W : List Fl) : Prop := ∃ ob c tw, V = refV m ob W.length c ∧ Own ob W.length c 4 (W.flatMap encL) tw ∧ H' = [⟨ob, cl (W.flatMap encL ++ tw) 143⟩]
theorem own_set {ob : Option Nat} {c : Nat} {W : List Fl} {tw : List Value} (h : Own ob W.length c 4 (W.flatMap encL) tw) (j : Nat) (y : Fl) : Own ob (W.set j y).length c 4 ((W.set j y).flatMap encL) tw := by
 have e : ((W.set j y).flatMap encL).length = (W.flatMap encL).length := by rw [fm_length encL4, fm_length encL4, List.length_set]
 exact ⟨by rw [e, List.length_set]; exact h.len, by rw [e]; exact h.cap, by rw [List.length_set]; exact h.le, h.big, h.nil⟩
theorem rclose_yes (m : Int) (ob : Option Nat) (cw : Nat) (W : List Fl) (tw : List Value) (hown : Own ob W.length cw 4 (W.flatMap encL) tw) (hlen : W.length ≤ 1000) (n g : Int) (j : Nat) (x : Fl) (h : Open1 W n j x) (hg : x.gen = g) : Spec Tryz.prog 122 [refV m ob W.length cw, fdV n g] [⟨ob, cl (W.flatMap encL ++ tw) 143⟩]
  (fun r H' => ∃ V, r = .tuple #[V, .int .i64 x.value, .int .i64 0] ∧ NewL H' m V (W.set j { x with closed := true })) := by
 have hlt := h.lt
 have hx := h.at_
 obtain ⟨wb, rfl⟩ := hown.some_of (by omega)
 refine Spec.of (E := [(0, refV m (some wb) W.length cw), (1, fdV n g)]) Tryz.func122 rfl (by kernel_rfl) Tryz.ntmps122 rfl rfl (fun w => ?_)
 refine WC_seq (WC_region ?_)
 refine WL_do rfl rfl rfl (D_box (cs := [_, _]) rfl rfl rfl) ?_
 rintro _ _ ⟨b1, rfl, rfl⟩
 refine WL_do rfl rfl rfl (D_box (cs := [_, _]) rfl rfl rfl) ?_
 rintro _ _ ⟨b2, rfl, rfl⟩
 refine WL_do rfl rfl rfl (D_alloc rfl zv71) ?_
 rintro _ _ ⟨b3, rfl, rfl⟩
 refine WLa rfl (WLa rfl (WL_nil (WQ_code (WC_seq (WC_region ?_)))))
 refine WL_val rfl rfl rfl (R_loadA (vs := [_, _]) rfl ag71 rfl (mmZ) rfl (atZ)) ?_
 refine WL_val rfl rfl rfl (R_loadA (vs := [_, _]) rfl ag30 rfl (mmZ) rfl (atZ)) ?_
 refine WL_do rfl rfl rfl (D_call (rfind_yes m (some wb) cw W tw hown n g j x h hg) rfl rfl rfl rfl (pqZ)) ?_
 rintro _ _ ⟨_, ⟨rfl, rfl⟩, rfl⟩
 refine WLa rfl (WL_nil (WQ_code (WC_seq (WC_seq (WC_region (WLa rfl ?_))))))
 refine WL_val rfl rfl rfl (R_lss rfl rfl rfl) ?_
 refine WL_nil (WQ_code ?_)
 refine WC_dF rfl (by omega) ?_
 refine WC_skip (WQ_code (WC_seq (WC_region ?_)))
 refine WL_val rfl rfl rfl (R_loadA (vs := [_, _]) rfl ag71 rfl (mmZ) rfl (atZ)) ?_
 refine WL_do rfl rfl rfl (D_call (rcopy_ok m (some wb) cw W tw hown hlen) rfl rfl rfl rfl (pqZ)) ?_
 rintro _ _ ⟨_, ⟨ob2, c2, tw2, rfl, own2, rfl⟩, rfl⟩
 refine WL_do rfl rfl rfl (D_alloc rfl zv71) ?_
 rintro _ _ ⟨b4, rfl, rfl⟩
 refine WL_do0 rfl rfl (D_store (vs := [_, _]) rfl Tryz.sizeOf71 rfl rfl rfl rfl rfl (plZ) (Nat.le_of_ble_eq_true rfl)) ?_
 rintro _ _ rfl
 refine WL_nil (WQ_code (WC_seq (WC_region ?_)))
 refine WL_val rfl rfl rfl (R_fieldAddr rfl fa71_1 rfl) ?_
 refine WL_val rfl rfl rfl (R_load rfl sc69 rfl (mmZ) rfl) ?_
 refine WLa rfl ?_
 obtain ⟨wb2, rfl⟩ := own2.some_of (by omega)
 refine WL_val rfl rfl rfl (R_indexAddrN rfl Tryz.underlying69 Tryz.sizeOf143 rfl rfl (by exact hlt)) ?_
 refine WL_val rfl rfl rfl (R_fieldAddr rfl fa143_2 rfl) ?_
 refine WL_do0 rfl rfl (D_store (vs := [_]) rfl Tryz.sizeOf4 rfl rfl rfl rfl rfl (plZ) (by exact fm_room0 encL4 hlt (j := 3) (by omega))) ?_
 rintro _ _ rfl
 rw [fm_put0 encL4 ({ x with closed := true } : Fl) hx (j := 3) (vs := [.bool true]) (by simp) rfl (tl := tw2)]
 refine WL_nil (WQ_code (WC_seq ?_))
 refine WC_draw ([⟨some b4, cl [.int .i64 m, slV (some wb2) W.length c2] 71⟩, ⟨some b1, cl [.int .i64 m, slV (some wb) W.length cw] 71⟩, ⟨some wb, cl (W.flatMap encL ++ tw) 143⟩]) [(0, true), (1, true), (2, true), (3, true), (4, true), (5, true), (6, true), (7, false), (8, true), (9, true)] followsMixed rfl rfl (by kernel_rfl) pqZ ?_
 refine WM_val rfl rfl rfl rfl (R_loadA (vs := [_, _]) rfl ag71 rfl (mmZ) rfl (atZ)) ?_
 refine WM_val rfl rfl rfl rfl (R_fieldAddr rfl fa71_1 rfl) ?_
 refine WM_val rfl rfl rfl rfl (R_load rfl sc69 rfl (mmZ) rfl) ?_
 refine WMa rfl ?_
 refine WM_val rfl rfl rfl rfl (R_indexAddrN rfl Tryz.underlying69 Tryz.sizeOf143 rfl rfl (by exact hlt)) ?_
 refine WM_val rfl rfl rfl rfl (R_fieldAddr rfl fa143_1 rfl) ?_
 refine WM_val rfl rfl rfl rfl (R_load (v := .int .i64 x.value) rfl sc3 rfl (mmZ) (fm_get0 encL4 hx (by omega))) ?_
 refine WM_do0 rfl rfl rfl (D_store (vs := [_, _]) rfl Tryz.sizeOf71 rfl rfl rfl rfl rfl (plZ) (Nat.le_of_ble_eq_true rfl)) ?_
 rintro _ _ rfl
 refine ⟨⟨_, pqZ⟩, ?_⟩
 refine WMa rfl (WMa rfl (WM_nil (WQ_code (WC_ret ?_))))
 refine WQ_ret rfl rfl (.cons (.cell (vs := [_, _]) rfl ag71 (mmZ) rfl (atZ)) (.cons (.tmp rfl) (.cons (.tmp rfl) .nil))) rfl (by
   exact ⟨_, rfl, some wb2, c2, tw2, by rw [List.length_set], own_set own2 j _, rfl⟩) (pqZ)
theorem rclose_ne (m : Int) (ob : Option Nat) (cw : Nat) (W : List Fl) (tw : List Value) (hown : Own ob W.length cw 4 (W.flatMap encL) tw) (n g : Int) (j : Nat) (x : Fl) (h : Open1 W n j x) (hg : x.gen ≠ g) : Spec Tryz.prog 122 [refV m ob W.length cw, fdV n g] [⟨ob, cl (W.flatMap encL ++ tw) 143⟩] (fun r H' => r = .tuple #[refV m ob W.length cw, .int .i64 0, .int .i64 9] ∧ H' = [⟨ob, cl (W.flatMap encL ++ tw) 143⟩]) := by
 refine Spec.of (E := [(0, refV m ob W.length cw), (1, fdV n g)]) Tryz.func122 rfl (by kernel_rfl) Tryz.ntmps122 rfl rfl (fun w => ?_)
 refine WC_seq (WC_region ?_)
 refine WL_do rfl rfl rfl (D_box (cs := [_, _]) rfl rfl rfl) ?_
 rintro _ _ ⟨b1, rfl, rfl⟩
 refine WL_do rfl rfl rfl (D_box (cs := [_, _]) rfl rfl rfl) ?_
 rintro _ _ ⟨b2, rfl, rfl⟩
 refine WL_do rfl rfl rfl (D_alloc rfl zv71) ?_
 rintro _ _ ⟨b3, rfl, rfl⟩
 refine WLa rfl (WLa rfl (WL_nil (WQ_code (WC_seq (WC_region ?_)))))
 refine WL_val rfl rfl rfl (R_loadA (vs := [_, _]) rfl ag71 rfl (mmZ) rfl (atZ)) ?_
 refine WL_val rfl rfl rfl (R_loadA (vs := [_, _]) rfl ag30 rfl (mmZ) rfl (atZ)) ?_
 refine WL_do rfl rfl rfl (D_call (rfind_ne m ob cw W tw hown n g j x h hg) rfl rfl rfl rfl (pqZ)) ?_
 rintro _ _ ⟨_, ⟨rfl, rfl⟩, rfl⟩
 refine WLa rfl (WL_nil (WQ_code (WC_seq (WC_seq (WC_region (WLa rfl ?_))))))
 refine WL_val rfl rfl rfl (R_lss rfl rfl rfl) ?_
 refine WL_nil (WQ_code ?_)
 refine WC_dT rfl (by omega) ?_
 refine WC_seq (WC_region ?_)
 refine WL_val rfl rfl rfl (R_loadA (vs := [_, _]) rfl ag71 rfl (mmZ) rfl (atZ)) ?_
 refine WL_do0 rfl rfl (D_store (vs := [_, _]) rfl Tryz.sizeOf71 rfl rfl rfl rfl rfl (plZ) (Nat.le_of_ble_eq_true rfl)) ?_
 rintro _ _ rfl
 refine WLa rfl (WLa rfl (WL_nil (WQ_code (WC_ret ?_))))
 refine WQ_ret rfl rfl (.cons (.cell (vs := [_, _]) rfl ag71 (mmZ) rfl (atZ)) (.cons (.tmp rfl) (.cons (.tmp rfl) .nil))) rfl (by
   exact ⟨rfl, rfl⟩) (pqZ)
theorem rclose_no (m : Int) (ob : Option Nat) (cw : Nat) (W : List Fl) (tw : List Value) (hown : Own ob W.length cw 4 (W.flatMap encL) tw) (n g : Int) (h : NoOpen W n) : Spec Tryz.prog 122 [refV m ob W.length cw, fdV n g] [⟨ob, cl (W.flatMap encL ++ tw) 143⟩] (fun r H' => r = .tuple #[refV m ob W.length cw, .int .i64 0, .int .i64 9] ∧ H' = [⟨ob, cl (W.flatMap encL ++ tw) 143⟩]) := by
 refine Spec.of (E := [(0, refV m ob W.length cw), (1, fdV n g)]) Tryz.func122 rfl (by kernel_rfl) Tryz.ntmps122 rfl rfl (fun w => ?_)
 refine WC_seq (WC_region ?_)
 refine WL_do rfl rfl rfl (D_box (cs := [_, _]) rfl rfl rfl) ?_
 rintro _ _ ⟨b1, rfl, rfl⟩
 refine WL_do rfl rfl rfl (D_box (cs := [_, _]) rfl rfl rfl) ?_
 rintro _ _ ⟨b2, rfl, rfl⟩
 refine WL_do rfl rfl rfl (D_alloc rfl zv71) ?_
 rintro _ _ ⟨b3, rfl, rfl⟩
 refine WLa rfl (WLa rfl (WL_nil (WQ_code (WC_seq (WC_region ?_)))))
 refine WL_val rfl rfl rfl (R_loadA (vs := [_, _]) rfl ag71 rfl (mmZ) rfl (atZ)) ?_
 refine WL_val rfl rfl rfl (R_loadA (vs := [_, _]) rfl ag30 rfl (mmZ) rfl (atZ)) ?_
 refine WL_do rfl rfl rfl (D_call (rfind_no m ob cw W tw hown n g h) rfl rfl rfl rfl (pqZ)) ?_
 rintro _ _ ⟨_, ⟨rfl, rfl⟩, rfl⟩
 refine WLa rfl (WL_nil (WQ_code (WC_seq (WC_seq (WC_region (WLa rfl ?_))))))
 refine WL_val rfl rfl rfl (R_lss rfl rfl rfl) ?_
 refine WL_nil (WQ_code ?_)
 refine WC_dT rfl (by omega) ?_
 refine WC_seq (WC_region ?_)
 refine WL_val rfl rfl rfl (R_loadA (vs := [_, _]) rfl ag71 rfl (mmZ) rfl (atZ)) ?_
 refine WL_do0 rfl rfl (D_store (vs := [_, _]) rfl Tryz.sizeOf71 rfl rfl rfl rfl rfl (plZ) (Nat.le_of_ble_eq_true rfl)) ?_
 rintro _ _ rfl
 refine WLa rfl (WLa rfl (WL_nil (WQ_code (WC_ret ?_))))
 refine WQ_ret rfl rfl (.cons (.cell (vs := [_, _]) rfl ag71 (mmZ) rfl (atZ)) (.cons (.tmp rfl) (.cons (.tmp rfl) .nil))) rfl (by
   exact ⟨rfl, rfl⟩) (pqZ)
end Go.Proofs.YtbkdebnkoidicaaGreat.Slt
end
section
set_option linter.unusedVariables false
set_option maxRecDepth 20000
set_option maxHeartbeats 1000000
namespace Go.Proofs.YtbkdebnkoidicaaGreat.Slt
def cntTo (W : List Fl) (n : Int) : Nat → Nat
 | 0 => 0
 | k + 1 => cntTo W n k + (match W[k]? with | some y => if y.n = n then 1 else 0 | none => 0)
abbrev cnt (W : List Fl) (n : Int) : Nat := cntTo W n W.length
theorem cntTo_succ {W : List Fl} {n : Int} {k : Nat} {y : Fl} (h : W[k]? = some y) : cntTo W n (k + 1) = cntTo W n k + if y.n = n then 1 else 0 := by simp [cntTo, h]
def CntIs (W : List Fl) (n : Int) (k c : Nat) : Prop := c = cntTo W n k ∧ c ≤ k
theorem CntIs.up {W : List Fl} {n : Int} {k c : Nat} {y : Fl} (h : CntIs W n k c) (hy : W[k]? = some y) (e : y.n = n) : CntIs W n (k + 1) (c + 1) := by
 refine ⟨?_, Nat.succ_le_succ h.2⟩
 rw [cntTo_succ hy, if_pos e, h.1]
theorem CntIs.same {W : List Fl} {n : Int} {k c : Nat} {y : Fl} (h : CntIs W n k c) (hy : W[k]? = some y) (e : ¬ y.n = n) : CntIs W n (k + 1) c := by
 refine ⟨?_, Nat.le_succ_of_le h.2⟩
 rw [cntTo_succ hy, if_neg e, h.1]; rfl
theorem rat_split (m : Int) (ob : Option Nat) (cw : Nat) (W : List Fl) (tw : List Value) (hown : Own ob W.length cw 4 (W.flatMap encL) tw) (k i : Nat) (hki : k ≤ i) (hpre : ∀ k, k < i → ∃ j x, Open1 W (k : Int) j x) (hno : NoOpen W (i : Int)) : Spec Tryz.prog 163 [refV m ob W.length cw, .int .i64 (k : Int)] [⟨ob, cl (W.flatMap encL ++ tw) 143⟩]
  (fun r H' => ∃ v, r = .int .i64 v ∧ H' = [⟨ob, cl (W.flatMap encL ++ tw) 143⟩] ∧ ((k < i ∧ 0 ≤ v) ∨ (k = i ∧ v < 0))) := by
 by_cases h : k < i
 ·obtain ⟨j, x, hx⟩ := hpre k h
  exact (rat_yes m ob cw W tw hown k j x hx).mono fun r H' ⟨h1, h2⟩ => ⟨(j : Int), h1, h2, .inl ⟨h, by omega⟩⟩
 ·obtain rfl : k = i := by omega
  exact (rat_no m ob cw W tw hown k hno).mono fun r H' ⟨h1, h2⟩ => ⟨-1, h1, h2, .inr ⟨rfl, by omega⟩⟩
theorem ropen_at (m : Int) (ob : Option Nat) (cw : Nat) (W : List Fl) (tw : List Value) (hown : Own ob W.length cw 4 (W.flatMap encL) tw) (hlen : W.length ≤ 1000) (v : Int) (i : Nat) (hi : (i : Int) < m) (hm : m ≤ 128) (hpre : ∀ k, k < i → ∃ j x, Open1 W (k : Int) j x) (hno : NoOpen W (i : Int)) : Spec Tryz.prog 120 [refV m ob W.length cw, .int .i64 v] [⟨ob, cl (W.flatMap encL ++ tw) 143⟩]
  (fun r H' => ∃ V, r = .tuple #[V, fdV i (cnt W i : Int), .int .i64 0] ∧ NewL H' m V (W ++ [⟨i, cnt W i, v, false⟩])) := by
 refine Spec.of (E := [(0, refV m ob W.length cw), (1, .int .i64 v)]) Tryz.func120 rfl (by kernel_rfl) Tryz.ntmps120 rfl rfl (fun w => ?_)
 refine WC_seq (WC_region ?_)
 refine WL_do rfl rfl rfl (D_box (cs := [_, _]) rfl rfl rfl) ?_
 rintro _ _ ⟨b1, rfl, rfl⟩
 refine WL_do rfl rfl rfl (D_alloc rfl zv71) ?_
 rintro _ _ ⟨b2, rfl, rfl⟩
 refine WL_do rfl rfl rfl (D_alloc rfl zv30) ?_
 rintro _ _ ⟨b3, rfl, rfl⟩
 refine WLa rfl (WL_nil (WQ_code (WC_seq (WC_seq (WC_region (WLa rfl (WL_nil (WQ_code (WC_block ?_)))))))))
 refine WC_loopF (G := Nat) [6, 7, 8, 9, 10, 11, 12, 13, 14, 15, 16, 17, 18, 19, 20, 21, 22, 23, 24, 25, 26, 27, 28, 29, 30, 31, 32, 33, 34, 35, 36, 37, 38, 39, 40, 41, 42, 43, 44, 45, 46, 47, 48, 49, 50, 51, 52, 53, 54] (fun k => k ≤ i) (fun k => [(7, .int .i64 (k : Int))]) (fun k => []) (fun k => i - k) (0) (Nat.zero_le _) leZ (pqZ) ?_
 rintro k hk
 refine WC_seq (WC_seq (WC_region (WLa rfl ?_)))
 refine WL_val rfl rfl rfl (R_fieldAddr rfl fa71_0 rfl) ?_
 refine WL_val rfl rfl rfl (R_load rfl sc3 rfl (mmZ) rfl) ?_
 refine WL_val rfl rfl rfl (R_lss rfl rfl rfl) ?_
 refine WL_nil (WQ_code ?_)
 refine WC_dT rfl (by omega) ?_
 refine WC_skip (WQ_code (WC_seq (WC_block (WC_seq (WC_seq (WC_region ?_))))))
 refine WL_val rfl rfl rfl (R_loadA (vs := [_, _]) rfl ag71 rfl (mmZ) rfl (atZ)) ?_
 refine WLa rfl ?_
 refine WL_do rfl rfl rfl (D_call (rat_split m ob cw W tw hown k i hk hpre hno) rfl rfl rfl rfl (pqZ)) ?_
 rintro _ _ ⟨_, ⟨z, rfl, rfl, hz⟩, rfl⟩
 refine WL_val rfl rfl rfl (R_geq rfl rfl rfl) ?_
 refine WL_nil (WQ_code ?_)
 refine WC_dec rfl (fun c1 => ?_) (fun c1 => ?_)
 ·refine WC_exit (WQ_code (WC_region (WLa rfl ?_)))
  refine WL_val rfl rfl rfl (R_add rfl rfl rfl (by omega)) ?_
  refine WLa rfl (WL_nil ?_)
  refine WQ_nextF (k + 1) (by omega) (by omega) leZ (psZ) rfl (pqZ)
 ·obtain rfl : k = i := by omega
  refine WC_skip (WQ_code (WC_seq (WC_region (WLa rfl (WL_nil (WQ_code (WC_seq (WC_seq (WC_region (WLa rfl (WL_nil (WQ_code (WC_block ?_)))))))))))))
  refine WC_loopF (G := Nat × Nat) [8, 9, 22, 23, 24, 25, 26, 27, 28, 29, 30, 31, 32, 33, 34, 35, 36, 37, 38, 39] (fun g => g.1 ≤ W.length ∧ CntIs W (k : Int) g.1 g.2) (fun g => [(9, .int .i64 (g.1 : Int)), (8, .int .i64 (g.2 : Int))]) (fun g => []) (fun g => W.length - g.1) ((0, 0)) (⟨Nat.zero_le _, rfl, Nat.zero_le _⟩) leZ (pqZ) ?_
  rintro g ⟨hx, hc⟩
  refine WC_seq (WC_seq (WC_region (WLa rfl ?_)))
  refine WL_val rfl rfl rfl (R_fieldAddr rfl fa71_1 rfl) ?_
  refine WL_val rfl rfl rfl (R_load rfl sc69 rfl (mmZ) rfl) ?_
  refine WL_val rfl rfl rfl (R_len rfl Tryz.underlying69 rfl) ?_
  refine WL_val rfl rfl rfl (R_lss rfl rfl rfl) ?_
  refine WL_nil (WQ_code ?_)
  refine WC_dec rfl (fun c2 => ?_) (fun c2 => ?_)
  ·refine WC_skip (WQ_code (WC_seq (WC_block (WC_seq (WC_region ?_)))))
   refine WL_val rfl rfl rfl (R_fieldAddr rfl fa71_1 rfl) ?_
   refine WL_val rfl rfl rfl (R_load rfl sc69 rfl (mmZ) rfl) ?_
   refine WLa rfl ?_
   obtain ⟨y, hy⟩ := exE (T := W) (i := g.1) (by omega)
   obtain ⟨wb, rfl⟩ := hown.some_of (by omega)
   refine WL_val rfl rfl rfl (R_indexAddrN rfl Tryz.underlying69 Tryz.sizeOf143 rfl rfl (by omega)) ?_
   refine WL_val rfl rfl rfl (R_fieldAddr rfl fa143_0 rfl) ?_
   refine WL_val rfl rfl rfl (R_fieldAddr rfl fa30_0 rfl) ?_
   refine WL_val rfl rfl rfl (R_load (v := .int .i64 y.n) rfl sc3 rfl (mmZ) (fm_get0 encL4 hy (by omega))) ?_
   refine WLa rfl ?_
   refine WL_val rfl rfl rfl (R_eql rfl rfl rfl) ?_
   refine WL_nil (WQ_code ?_)
   refine WC_dec rfl (fun c3 => ?_) (fun c3 => ?_)
   ·refine WC_region (WLa rfl ?_)
    have hcl := hc.2
    refine WL_val rfl rfl rfl (R_add rfl rfl rfl (by omega)) ?_
    refine WLa rfl (WL_nil (WQ_code (WC_region (WLa rfl ?_))))
    refine WL_val rfl rfl rfl (R_add rfl rfl rfl (by omega)) ?_
    refine WLa rfl (WL_nil ?_)
    refine WQ_nextF ((g.1 + 1, g.2 + 1)) (⟨by dsimp only; omega, hc.up hy (by omega)⟩) (by dsimp only; omega) leZ (psZ) rfl (pqZ)
   ·refine WC_skip (WQ_code (WC_region (WLa rfl ?_)))
    refine WL_val rfl rfl rfl (R_add rfl rfl rfl (by omega)) ?_
    refine WLa rfl (WL_nil ?_)
    refine WQ_nextF ((g.1 + 1, g.2)) (⟨by dsimp only; omega, hc.same hy (by omega)⟩) (by dsimp only; omega) leZ (psZ) rfl (pqZ)
  ·have e9 : g.1 = W.length := by omega
   have e8 : g.2 = cnt W (k : Int) := by rw [hc.1, e9]
   rw [e8]
   refine WC_exit (WQ_code (WC_seq (WC_region ?_)))
   refine WL_val rfl rfl rfl (R_loadA (vs := [_, _]) rfl ag71 rfl (mmZ) rfl (atZ)) ?_
   refine WL_do rfl rfl rfl (D_call (rcopy_ok m ob cw W tw hown hlen) rfl rfl rfl rfl (pqZ)) ?_
   rintro _ _ ⟨_, ⟨ob2, c2, tw2, rfl, own2, rfl⟩, rfl⟩
   refine WL_do rfl rfl rfl (D_alloc rfl zv71) ?_
   rintro _ _ ⟨b4, rfl, rfl⟩
   refine WL_do0 rfl rfl (D_store (vs := [_, _]) rfl Tryz.sizeOf71 rfl rfl rfl rfl rfl (plZ) (Nat.le_of_ble_eq_true rfl)) ?_
   rintro _ _ rfl
   refine WL_nil (WQ_code (WC_seq (WC_region (WLa rfl (WLa rfl ?_)))))
   refine WL_val rfl rfl rfl (R_build rfl zv30 pl30 rfl rfl) ?_
   refine WL_do rfl rfl rfl (D_alloc rfl zv30) ?_
   rintro _ _ ⟨b5, rfl, rfl⟩
   refine WL_do0 rfl rfl (D_store (vs := [_, _]) rfl Tryz.sizeOf30 rfl rfl rfl rfl rfl (plZ) (Nat.le_of_ble_eq_true rfl)) ?_
   rintro _ _ rfl
   refine WL_nil (WQ_code (WC_seq (WC_region ?_)))
   refine WL_val rfl rfl rfl (R_fieldAddr rfl fa71_1 rfl) ?_
   refine WL_val rfl rfl rfl (R_load rfl sc69 rfl (mmZ) rfl) ?_
   refine WL_val rfl rfl rfl (R_loadA (vs := [_, _]) rfl ag30 rfl (mmZ) rfl (atZ)) ?_
   refine WLa rfl ?_
   refine WL_val rfl rfl rfl (R_build rfl zv143 pl143 rfl rfl) ?_
   refine WL_do rfl rfl rfl (D_buildSlice rfl si69 rfl rfl rfl) ?_
   rintro _ _ ⟨b6, rfl, rfl⟩
   refine WL_do rfl rfl rfl (D_append rfl si69 rfl (own2) (plZ) rfl (mmZ) ((atZ : At _ 0 [_, _, _, _])) (rfl) (rfl) (by omega) (by omega)) ?_
   rintro _ _ ⟨ob7, cap7, tl7, rfl, own7, rfl⟩
   have hsn : W.flatMap encL ++ [Value.int .i64 (k : Int), .int .i64 (cnt W (k : Int) : Int), .int .i64 v, .bool false] = (W ++ ([⟨(k : Int), ((cnt W (k : Int) : Nat) : Int), v, false⟩] : List Fl)).flatMap encL := by simp [encL]
   rw [hsn] at own7 ⊢
   refine WL_val rfl rfl rfl (R_fieldAddr rfl fa71_1 rfl) ?_
   refine WL_do0 rfl rfl (D_store (vs := [_]) rfl Tryz.sizeOf69 rfl rfl rfl rfl rfl (plZ) (Nat.le_of_ble_eq_true rfl)) ?_
   rintro _ _ rfl
   refine WL_nil (WQ_code (WC_seq ?_))
   refine WC_draw ([⟨some b4, cl [.int .i64 m, slV ob7 (W.length + 1) cap7] 71⟩, ⟨some b5, cl [.int .i64 (k : Int), .int .i64 (cnt W (k : Int) : Int)] 30⟩]) [(0, true), (1, true), (2, false), (3, false), (4, true)] followsMixed rfl rfl (by kernel_rfl) pqZ ?_
   refine WM_val rfl rfl rfl rfl (R_loadA (vs := [_, _]) rfl ag71 rfl (mmZ) rfl (atZ)) ?_
   refine WM_val rfl rfl rfl rfl (R_loadA (vs := [_, _]) rfl ag30 rfl (mmZ) rfl (atZ)) ?_
   refine WM_do0 rfl rfl rfl (D_store (vs := [_, _]) rfl Tryz.sizeOf71 rfl rfl rfl rfl rfl (plZ) (Nat.le_of_ble_eq_true rfl)) ?_
   rintro _ _ rfl
   refine ⟨⟨_, pqZ⟩, ?_⟩
   refine WM_do0 rfl rfl rfl (D_store (vs := [_, _]) rfl Tryz.sizeOf30 rfl rfl rfl rfl rfl (plZ) (Nat.le_of_ble_eq_true rfl)) ?_
   rintro _ _ rfl
   refine ⟨⟨_, pqZ⟩, ?_⟩
   refine WMa rfl (WM_nil (WQ_code (WC_ret ?_)))
   refine WQ_ret rfl rfl (.cons (.cell (vs := [_, _]) rfl ag71 (mmZ) rfl (atZ)) (.cons (.cell (vs := [_, _]) rfl ag30 (mmZ) rfl (atZ)) (.cons (.tmp rfl) .nil))) rfl (by
     exact ⟨_, rfl, ob7, cap7, tl7, by rw [List.length_append]; rfl, by rw [List.length_append]; exact own7, rfl⟩) (pqZ)
theorem ropen_full (m : Int) (ob : Option Nat) (cw : Nat) (W : List Fl) (tw : List Value) (hown : Own ob W.length cw 4 (W.flatMap encL) tw) (v : Int) (hm0 : 0 ≤ m) (hm : m ≤ 128) (hall : ∀ k : Nat, (k : Int) < m → ∃ j x, Open1 W (k : Int) j x) : Spec Tryz.prog 120 [refV m ob W.length cw, .int .i64 v] [⟨ob, cl (W.flatMap encL ++ tw) 143⟩]
  (fun r H' => r = .tuple #[refV m ob W.length cw, fdV 0 0, .int .i64 7] ∧ H' = [⟨ob, cl (W.flatMap encL ++ tw) 143⟩]) := by
 refine Spec.of (E := [(0, refV m ob W.length cw), (1, .int .i64 v)]) Tryz.func120 rfl (by kernel_rfl) Tryz.ntmps120 rfl rfl (fun w => ?_)
 refine WC_seq (WC_region ?_)
 refine WL_do rfl rfl rfl (D_box (cs := [_, _]) rfl rfl rfl) ?_
 rintro _ _ ⟨b1, rfl, rfl⟩
 refine WL_do rfl rfl rfl (D_alloc rfl zv71) ?_
 rintro _ _ ⟨b2, rfl, rfl⟩
 refine WL_do rfl rfl rfl (D_alloc rfl zv30) ?_
 rintro _ _ ⟨b3, rfl, rfl⟩
 refine WLa rfl (WL_nil (WQ_code (WC_seq (WC_seq (WC_region (WLa rfl (WL_nil (WQ_code (WC_block ?_)))))))))
 refine WC_loopF (G := Nat) [6, 7, 8, 9, 10, 11, 12, 13, 14, 15, 16, 17, 18, 19, 20, 21, 22, 23, 24, 25, 26, 27, 28, 29, 30, 31, 32, 33, 34, 35, 36, 37, 38, 39, 40, 41, 42, 43, 44, 45, 46, 47, 48, 49, 50, 51, 52, 53, 54] (fun k => (k : Int) ≤ m) (fun k => [(7, .int .i64 (k : Int))]) (fun k => []) (fun k => m.toNat - k) (0) (hm0) leZ (pqZ) ?_
 rintro k hk
 refine WC_seq (WC_seq (WC_region (WLa rfl ?_)))
 refine WL_val rfl rfl rfl (R_fieldAddr rfl fa71_0 rfl) ?_
 refine WL_val rfl rfl rfl (R_load rfl sc3 rfl (mmZ) rfl) ?_
 refine WL_val rfl rfl rfl (R_lss rfl rfl rfl) ?_
 refine WL_nil (WQ_code ?_)
 refine WC_dec rfl (fun c1 => ?_) (fun c1 => ?_)
 ·refine WC_skip (WQ_code (WC_seq (WC_block (WC_seq (WC_seq (WC_region ?_))))))
  refine WL_val rfl rfl rfl (R_loadA (vs := [_, _]) rfl ag71 rfl (mmZ) rfl (atZ)) ?_
  refine WLa rfl ?_
  obtain ⟨j, x, hjx⟩ := hall k (by omega)
  refine WL_do rfl rfl rfl (D_call (rat_yes m ob cw W tw hown k j x hjx) rfl rfl rfl rfl (pqZ)) ?_
  rintro _ _ ⟨_, ⟨rfl, rfl⟩, rfl⟩
  refine WL_val rfl rfl rfl (R_geq rfl rfl rfl) ?_
  refine WL_nil (WQ_code ?_)
  refine WC_dT rfl (by omega) ?_
  refine WC_exit (WQ_code (WC_region (WLa rfl ?_)))
  refine WL_val rfl rfl rfl (R_add rfl rfl rfl (by omega)) ?_
  refine WLa rfl (WL_nil ?_)
  refine WQ_nextF (k + 1) (by omega) (by omega) leZ (psZ) rfl (pqZ)
 ·refine WC_exit (WQ_code (WC_seq (WC_region ?_)))
  refine WL_val rfl rfl rfl (R_loadA (vs := [_, _]) rfl ag71 rfl (mmZ) rfl (atZ)) ?_
  refine WL_val rfl rfl rfl (R_build rfl zv30 pl30 rfl rfl) ?_
  refine WL_do0 rfl rfl (D_store (vs := [_, _]) rfl Tryz.sizeOf71 rfl rfl rfl rfl rfl (plZ) (Nat.le_of_ble_eq_true rfl)) ?_
  rintro _ _ rfl
  refine WL_do0 rfl rfl (D_store (vs := [_, _]) rfl Tryz.sizeOf30 rfl rfl rfl rfl rfl (plZ) (Nat.le_of_ble_eq_true rfl)) ?_
  rintro _ _ rfl
  refine WLa rfl (WL_nil (WQ_code (WC_ret ?_)))
  refine WQ_ret rfl rfl (.cons (.cell (vs := [_, _]) rfl ag71 (mmZ) rfl (atZ)) (.cons (.cell (vs := [_, _]) rfl ag30 (mmZ) rfl (atZ)) (.cons (.tmp rfl) .nil))) rfl (by
    exact ⟨rfl, rfl⟩) (pqZ)
structure Alike (T : List Pl) (W : List Fl) : Prop where
 yes : ∀ (k : Nat) (x : Pl), T[k]? = some x → x.opn = true → ∃ j, Open1 W (k : Int) j ⟨k, x.given - 1, x.value, false⟩
 no : ∀ (k : Nat) (x : Pl), T[k]? = some x → x.opn = false → NoOpen W (k : Int)
 out : ∀ (n : Int), (n < 0 ∨ (T.length : Int) ≤ n) → NoOpen W n
 cnt : ∀ (k : Nat) (x : Pl), T[k]? = some x → x.given = (cnt W (k : Int) : Int)
end Go.Proofs.YtbkdebnkoidicaaGreat.Slt
end
section
set_option linter.unusedVariables false
set_option maxRecDepth 20000
namespace Go.Proofs.YtbkdebnkoidicaaGreat.Slt
def NoneR (W : List Fl) (n g : Int) : Prop := NoOpen W n ∨ ∃ j x, Open1 W n j x ∧ x.gen ≠ g
theorem rclose_none (m : Int) (ob : Option Nat) (cw : Nat) (W : List Fl) (tw : List Value) (hown : Own ob W.length cw 4 (W.flatMap encL) tw) (n g : Int) (h : NoneR W n g) : Spec Tryz.prog 122 [refV m ob W.length cw, fdV n g] [⟨ob, cl (W.flatMap encL ++ tw) 143⟩] (fun r H' => r = .tuple #[refV m ob W.length cw, .int .i64 0, .int .i64 9] ∧ H' = [⟨ob, cl (W.flatMap encL ++ tw) 143⟩]) := by
 rcases h with h | ⟨j, x, h, e⟩
 ·exact rclose_no m ob cw W tw hown n g h
 ·exact rclose_ne m ob cw W tw hown n g j x h e
theorem rget_none (m : Int) (ob : Option Nat) (cw : Nat) (W : List Fl) (tw : List Value) (hown : Own ob W.length cw 4 (W.flatMap encL) tw) (n g : Int) (h : NoneR W n g) : Spec Tryz.prog 136 [refV m ob W.length cw, fdV n g] [⟨ob, cl (W.flatMap encL ++ tw) 143⟩] (fun r H' => r = .tuple #[.int .i64 0, .int .i64 9] ∧ H' = [⟨ob, cl (W.flatMap encL ++ tw) 143⟩]) := by
 rcases h with h | ⟨j, x, h, e⟩
 ·exact rget_no m ob cw W tw hown n g h
 ·exact rget_ne m ob cw W tw hown n g j x h e
theorem Alike.none {T : List Pl} {W : List Fl} (hA : Alike T W) {n g : Int} (h : NoneAt T n g) : NoneR W n g := by
 by_cases hr : n < 0 ∨ (T.length : Int) ≤ n
 ·exact .inl (hA.out n hr)
 ·obtain ⟨i, rfl⟩ := Int.eq_ofNat_of_zero_le (show 0 ≤ n by omega)
  obtain ⟨x, hx⟩ := ex_of (T := T) (i := i) (by omega)
  cases ho : x.opn with
  | false => exact .inl (hA.no i x hx ho)
  | true =>
   obtain ⟨j, hj⟩ := hA.yes i x hx ho
   exact .inr ⟨j, _, hj, fun e => h i x ⟨rfl, hx, ho, e.symm⟩⟩
theorem Alike.some {T : List Pl} {W : List Fl} (hA : Alike T W) {n g : Int} {i : Nat} {x : Pl} (h : OpenAt T n g i x) : ∃ j, Open1 W n j ⟨i, x.given - 1, x.value, false⟩ ∧ x.given - 1 = g := by
 obtain ⟨rfl, hx, ho, rfl⟩ := h
 obtain ⟨j, hj⟩ := hA.yes i x hx ho
 exact ⟨j, hj, rfl⟩
theorem cntTo_set {W : List Fl} {j : Nat} {f f' : Fl} (hj : W[j]? = some f) (hn : f'.n = f.n) (n : Int) : ∀ k, cntTo (W.set j f') n k = cntTo W n k
 | 0 => rfl
 | k + 1 => by
  simp only [cntTo, cntTo_set hj hn n k]
  congr 1
  by_cases e : j = k
  ·subst e
   have hl : j < W.length := (List.getElem?_eq_some_iff.1 hj).1
   rw [List.getElem?_set, if_pos rfl, if_pos hl, hj]
   simp only [hn]
  ·rw [List.getElem?_set, if_neg e]
theorem cntTo_app (W : List Fl) (f : Fl) (n : Int) : ∀ k, k ≤ W.length → cntTo (W ++ [f]) n k = cntTo W n k
 | 0, _ => rfl
 | k + 1, h => by
  simp only [cntTo, cntTo_app W f n k (by omega), List.getElem?_append_left (show k < W.length by omega)]
theorem cnt_snoc (W : List Fl) (f : Fl) (n : Int) : cnt (W ++ [f]) n = cnt W n + if f.n = n then 1 else 0 := by
 have h : (W ++ [f])[W.length]? = some f := by simp
 rw [cnt, List.length_append, List.length_singleton, cntTo_succ h, cntTo_app W f n _ (Nat.le_refl _)]
theorem alike_open {T : List Pl} {W : List Fl} (hA : Alike T W) {i : Nat} {x : Pl} (hx : T[i]? = some x) (ho : x.opn = false) (v : Int) : Alike (T.set i ⟨x.given + 1, v, true⟩) (W ++ [⟨i, cnt W i, v, false⟩]) := by
 have hi := lt_of hx
 have hg := hA.cnt i x hx
 have hno := hA.no i x hx ho
 refine ⟨fun k y hy hyo => ?_, fun k y hy hyo => ?_, fun n hn a y hy hyn => ?_, fun k y hy => ?_⟩
 ·rw [List.getElem?_set] at hy
  split at hy
  ·rename_i e
   subst e
   cases hy
   refine ⟨W.length, ?_, rfl, rfl, fun a z hz hzn hzc => ?_⟩
   ·rw [List.getElem?_append_right (Nat.le_refl _)]; simp [hg]
   ·rw [List.getElem?_append] at hz
    split at hz
    ·have := hno a z hz hzn; rw [this] at hzc; cases hzc
    ·rw [List.getElem?_singleton] at hz
     split at hz
     ·omega
     ·cases hz
  ·rename_i e
   obtain ⟨j, hj⟩ := hA.yes k y hy hyo
   refine ⟨j, ?_, hj.num, hj.opn, fun a z hz hzn hzc => ?_⟩
   ·rw [List.getElem?_append_left hj.lt]; exact hj.at_
   ·rw [List.getElem?_append] at hz
    split at hz
    ·exact hj.one a z hz hzn hzc
    ·rw [List.getElem?_singleton] at hz
     split at hz
     ·cases hz; exact absurd (Int.ofNat.inj hzn) e
     ·cases hz
 ·rw [List.getElem?_set] at hy
  split at hy
  ·rename_i e
   subst e
   cases hy; cases hyo
  ·rename_i e
   intro a z hz hzn
   rw [List.getElem?_append] at hz
   split at hz
   ·exact hA.no k y hy hyo a z hz hzn
   ·rw [List.getElem?_singleton] at hz
    split at hz
    ·cases hz; exact absurd (Int.ofNat.inj hzn) e
    ·cases hz
 ·rw [List.length_set] at hn
  rw [List.getElem?_append] at hy
  split at hy
  ·exact hA.out n hn a y hy hyn
  ·rw [List.getElem?_singleton] at hy
   split at hy
   ·cases hy; dsimp only at hyn; omega
   ·cases hy
 ·rw [cnt_snoc]
  rw [List.getElem?_set] at hy
  split at hy
  ·rename_i e
   subst e
   cases hy
   simp [hg]
  ·rename_i e
   have := hA.cnt k y hy
   rw [if_neg (by dsimp only; omega)]
   simpa using this
theorem alike_upd {T : List Pl} {W : List Fl} (hA : Alike T W) {i : Nat} {x y : Pl} (hx : T[i]? = some x) (ho : x.opn = true) {j : Nat} (hj : Open1 W (i : Int) j ⟨i, x.given - 1, x.value, false⟩) (hy : y.given = x.given) {f : Fl}
  (hf : f = ⟨i, y.given - 1, y.value, !y.opn⟩) : Alike (T.set i y) (W.set j f) := by
 have hi := lt_of hx
 have hjl := hj.lt
 have hfn : f.n = (i : Int) := by rw [hf]
 have hcnt := fun n => cntTo_set (f' := f) hj.at_ hfn n W.length
 have hother : ∀ (a : Nat) (z : Fl), a ≠ j → (W.set j f)[a]? = some z → W[a]? = some z := fun a z ha hz => by rwa [List.getElem?_set, if_neg (Ne.symm ha)] at hz
 have hthis : (W.set j f)[j]? = some f := by simp [hjl]
 refine ⟨fun k u hu huo => ?_, fun k u hu huo => ?_, fun n hn a z hz hzn => ?_, fun k u hu => ?_⟩
 ·rw [List.getElem?_set] at hu
  split at hu
  ·rename_i e
   subst e
   cases hu
   refine ⟨j, by rw [hthis, hf, huo]; rfl, rfl, rfl, fun a z hz hzn hzc => ?_⟩
   by_cases e : a = j
   ·exact e
   ·exact hj.one a z (hother a z e hz) hzn hzc
  ·rename_i e
   obtain ⟨j', hj'⟩ := hA.yes k u hu huo
   have hne : j ≠ j' := by
    intro e2
    subst e2
    have := hj.at_.symm.trans hj'.at_
    simp at this
    exact e (Int.ofNat.inj this.1)
   refine ⟨j', by rw [List.getElem?_set, if_neg hne]; exact hj'.at_, rfl, rfl, fun a z hz hzn hzc => ?_⟩
   by_cases e2 : a = j
   ·subst e2
    rw [hthis] at hz
    cases hz
    rw [hfn] at hzn
    exact absurd (Int.ofNat.inj hzn) e
   ·exact hj'.one a z (hother a z e2 hz) hzn hzc
 ·rw [List.getElem?_set] at hu
  split at hu
  ·rename_i e
   subst e
   cases hu
   intro a z hz hzn
   by_cases e2 : a = j
   ·subst e2
    rw [hthis] at hz
    cases hz
    rw [hf, huo]; rfl
   ·have hz' := hother a z e2 hz
    cases hc : z.closed with
    | true => rfl
    | false => exact absurd (hj.one a z hz' hzn hc) e2
  ·rename_i e
   intro a z hz hzn
   by_cases e2 : a = j
   ·subst e2
    rw [hthis] at hz
    cases hz
    rw [hfn] at hzn
    exact absurd (Int.ofNat.inj hzn) e
   ·exact hA.no k u hu huo a z (hother a z e2 hz) hzn
 ·rw [List.length_set] at hn
  by_cases e2 : a = j
  ·subst e2
   rw [hthis] at hz
   cases hz
   rw [hfn] at hzn
   omega
  ·exact hA.out n hn a z (hother a z e2 hz) hzn
 ·rw [cnt, List.length_set, hcnt]
  rw [List.getElem?_set] at hu
  split at hu
  ·rename_i e
   subst e
   cases hu
   rw [hy]; exact hA.cnt i x hx
  ·exact hA.cnt k u hu
theorem alike_fresh (n : Nat) : Alike (freshT n) [] := by
 refine ⟨fun k x hx ho => ?_, fun k x hx ho i y hy => by simp at hy, fun n hn i y hy => by simp at hy, fun k x hx => ?_⟩
 ·obtain ⟨_, rfl⟩ := List.mem_replicate.1 (List.mem_of_getElem? hx)
  cases ho
 ·obtain ⟨_, rfl⟩ := List.mem_replicate.1 (List.mem_of_getElem? hx)
  rfl
end Go.Proofs.YtbkdebnkoidicaaGreat.Slt
end
section
set_option linter.unusedVariables false
set_option maxRecDepth 20000
namespace Go.Proofs.YtbkdebnkoidicaaGreat
theorem Spec.none {P : Program} {f : FuncId} {args : List Value} {H : Heap} {post : Value → Heap → Prop} (e : TypeId) (h : Spec P f args H (fun r H' => ∃ x : Ent, (x.b = Option.none ∧ x.o = cl [] e) ∧ post r (x :: H'))) : Spec P f args H post :=
 ⟨h.enters, fun w hw => (h.calls w hw).mono fun _ _ ⟨v, H', e1, ⟨x, ⟨hx, hx2⟩, p⟩, r⟩ => ⟨v, x :: H', e1, p, by
  obtain ⟨b, o⟩ := x
  dsimp only at hx hx2
  subst hx hx2
  exact r.addNone e⟩⟩
abbrev encI (x : Int) : List Value := [.int .i64 x]
abbrev ivs (l : List Int) : List Value := l.flatMap encI
theorem encI1 (x : Int) : (encI x).length = 1 := rfl
end Go.Proofs.YtbkdebnkoidicaaGreat
end
