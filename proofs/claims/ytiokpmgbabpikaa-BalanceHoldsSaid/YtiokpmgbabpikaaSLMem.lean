/-
  Slices that the program makes and appends to.
-/
import Derived.Test.YtiokpmgbabpikaaSLDraw
namespace Go.Proofs.Ytiokpmgbabpikaa

def SI (P : Program) (t e : TypeId) (sz bytes : Nat) (zs : List Value) : Prop :=
  P.underlying t = some (.slice e) ∧ ∃ i z, P.info? e = some i ∧ i.zero = some z ∧ i.size = sz ∧ i.bytes = bytes ∧ z.cells = zs.toArray ∧ zs.length = sz ∧ 0 < sz
/-- A slice that starts at its block's head; nil where there is none. -/
def slV (ob : Option Nat) (n c : Nat) : Value := .slice (ob.map fun b => ⟨b, 0, none⟩) n c
/-- The cells of a slice: 'xs' up to its length, 'tl' up to its capacity. -/
structure Own (ob : Option Nat) (n c sz : Nat) (xs tl : List Value) : Prop where
  len : xs.length = n * sz
  cap : xs.length + tl.length = c * sz
  le : n ≤ c
  big : c ≤ 9223372036854775807
  nil : ob = none → c = 0
theorem Own.empty (sz : Nat) : Own none 0 0 sz [] [] := ⟨by simp, by simp, by simp, by simp, fun _ => rfl⟩
theorem Own.some_of {ob : Option Nat} {n c sz : Nat} {xs tl : List Value} (h : Own ob n c sz xs tl) (hn : 0 < n) : ∃ b, ob = some b := by
  cases ob with
  | some b => exact ⟨b, rfl⟩
  | none => have := h.nil rfl; have := h.le; omega

/-- An entry that says nothing. -/
theorem HW.addNone {H0 H : Heap} {w0 w : World} (h : HW H0 w0 H w) (e : TypeId) : HW H0 w0 (⟨none, cl [] e⟩ :: H) w :=
  ⟨⟨by simpa [keys] using h.hok.nodup, fun x hx => by
      rcases List.mem_cons.1 hx with rfl | hx
      · exact ⟨e, rfl⟩
      · exact h.hok.ok x hx⟩, h.os, h.tape, h.output, h.size, h.kept, fun k hk => h.own k (by simpa [keys] using hk), h.dr⟩
theorem HW.drew {H0 H : Heap} {w0 w : World} (h : HW H0 w0 H w) : HW H0 w0 H w.drew := h.bel (Bel.drew' w)
section
variable {X : Ctx} {p : Post} {E : Env} {H : Heap} {o : Oper}
theorem WL_none {ops : Array Oper} {l : List Oper} (e : TypeId) (k : WL X ops p l E (⟨none, cl [] e⟩ :: H)) : WL X ops p l E H := fun a w ha hw => k a w ha (hw.addNone e)
theorem WC_none {c : Code} (e : TypeId) (k : WC X c p E (⟨none, cl [] e⟩ :: H)) : WC X c p E H := fun a w ha hw => k a w ha (hw.addNone e)
theorem WQ_none {K : Act → World → Prop} (e : TypeId) (k : WQ X K E (⟨none, cl [] e⟩ :: H)) : WQ X K E H := fun a w ha hw => k a w ha (hw.addNone e)

theorem rep_get (zs : List Value) (n : Nat) : ∀ k, (List.replicate n zs).flatten[k]? = if k < n * zs.length then zs[k % zs.length]? else none := by
  induction n with
  | zero => intro k; simp
  | succ n ih =>
    intro k
    rw [List.replicate_succ, List.flatten_cons]
    by_cases h : k < zs.length
    · rw [List.getElem?_append_left h, if_pos (by rw [Nat.add_mul]; omega), Nat.mod_eq_of_lt h]
    · rw [List.getElem?_append_right (by omega), ih]
      have h1 : (k - zs.length) % zs.length = k % zs.length := (Nat.mod_eq_sub_mod (by omega)).symm
      rw [h1]
      by_cases h2 : k - zs.length < n * zs.length
      · rw [if_pos h2, if_pos (by rw [Nat.add_mul]; omega)]
      · rw [if_neg h2, if_neg (by rw [Nat.add_mul]; omega)]
theorem made_eq (zs : List Value) (n : Nat) (h : 0 < zs.length) : madeCells zs.toArray (n * zs.length) = (List.replicate n zs).flatten.toArray := by
  apply Array.ext'
  apply List.ext_getElem?
  intro k
  rw [rep_get]
  simp only [madeCells, List.size_toArray, Array.toList_map, Array.toList_range, List.getElem?_map]
  by_cases hk : k < n * zs.length
  · rw [if_pos hk, List.getElem?_range hk]
    have hm : k % zs.length < zs.length := Nat.mod_lt _ h
    simp [hm]
  · rw [if_neg hk, List.getElem?_eq_none (by simp; omega)]
    rfl
theorem rep_length (zs : List Value) (n : Nat) : (List.replicate n zs).flatten.length = n * zs.length := by simp
theorem D_make {t e : TypeId} {sz bytes n : Nat} {zs : List Value} {x y : Operand} {k : IntKind} (ho : o.op = .makeSlice t x y) (hs : SI X.P t e sz bytes zs) (hx : ev E x = some (.int k (n : Int))) (hy : ev E y = some (.int k (n : Int)))
    (hb : bytes * n ≤ 281474976710656) (hn : n ≤ 9223372036854775807) :
    Does X o E H (fun v H' => ∃ b, v = .slice (some ⟨b, 0, none⟩) n n ∧ H' = ⟨some b, cl (List.replicate n zs).flatten e⟩ :: H) := by
  intro a w ha hw next Q kk
  obtain ⟨h1, i, z, h2, h3, h4, h5, h6, h7, h8⟩ := hs
  refine ⟨about_true, ?_⟩
  rw [semAt_of (by rw [ho]; intro c e; cases e)]
  have hb' : (i.bytes : Int) * (n : Int) ≤ 281474976710656 := by
    rw [h5, ← Int.natCast_mul]; omega
  have hr := run_make (P := X.P) w t e i z h1 h2 h3 k k n n (by omega) (by omega) hb' (by omega)
  simp only [Int.toNat_natCast] at hr
  rw [h4, h6, ← h7, made_eq zs n (by omega)] at hr
  have hrun : (execOp a.eval o).run X.P w = .ok (.value (.slice (some ⟨w.heap.size, 0, none⟩) n n)) (w.alloc (cl (List.replicate n zs).flatten e)) := by
    simp only [execOp, ho, ha.eval hx, ha.eval hy, Sem.run_bind, hr, Result.andThen_ok, Sem.run_pure]; rfl
  rw [hrun]
  exact kk _ _ _ ⟨_, rfl, rfl⟩ (hw.alloc _)

/-- The cells of 'T{a, b, ..}', a slice's literal. -/
def fillS (sz : Nat) : List Value → List (Nat × Value) → Option (List Value)
  | cs, [] => some cs
  | cs, (i, v) :: rest => bif Nat.beq v.cells.toList.length sz && Nat.ble (i * sz + v.cells.toList.length) cs.length then fillS sz (putAt cs (i * sz) v.cells.toList) rest else none
theorem fillS_eq (sz : Nat) : ∀ (parts : List (Nat × Value)) (cs r : List Value), fillS sz cs parts = some r → Instr.fill (fun i => some (i * sz, sz)) cs.toArray parts = some r.toArray
  | [], cs, r, h => by simp [fillS] at h; simp [Instr.fill, h]
  | (i, v) :: rest, cs, r, h => by
    simp only [fillS] at h
    cases hc : (Nat.beq v.cells.toList.length sz && Nat.ble (i * sz + v.cells.toList.length) cs.length) with
    | false => rw [hc] at h; cases h
    | true =>
      rw [hc] at h
      simp only [Bool.and_eq_true, Nat.beq_eq, Nat.ble_eq] at hc
      obtain ⟨h1, h2⟩ := hc
      have hf := foldl_put (i * sz) v.cells.toList 0 cs (by omega)
      have ih := fillS_eq sz rest _ r h
      simp only [Array.length_toList] at h1 h2
      have hz : v.cells.zipIdx.foldl (fun (a : Array Value) (x : Value × Nat) => a.setIfInBounds (i * sz + x.2) x.1) cs.toArray = (putAt cs (i * sz) v.cells.toList).toArray := by
        rw [← Array.foldl_toList, Array.toList_zipIdx]; exact hf
      simp only [Instr.fill]
      rw [if_neg (by simp; omega)]
      exact (congrArg (fun c => Instr.fill (fun i => some (i * sz, sz)) c rest) hz).trans ih
theorem D_buildSlice {t e : TypeId} {sz bytes n : Nat} {zs cs : List Value} {parts : List (Nat × Operand)} {vs : List (Nat × Value)} (ho : o.op = .buildSlice t n parts.toArray) (hs : SI X.P t e sz bytes zs)
    (hv : evParts E parts = some vs) (hf : fillS sz (List.replicate n zs).flatten vs = some cs) (hn : Nat.ble (n * sz) 16777216 = true) :
    Does X o E H (fun v H' => ∃ b, v = .slice (some ⟨b, 0, none⟩) n n ∧ H' = ⟨some b, cl cs e⟩ :: H) := by
  intro a w ha hw next Q kk
  obtain ⟨h1, i, z, h2, h3, h4, h5, h6, h7, h8⟩ := hs
  refine ⟨about_true, ?_⟩
  rw [semAt_of (by rw [ho]; intro c e; cases e)]
  have hp := ha.parts hv
  have hpa : (parts.toArray.map fun (i, x) => (i, a.eval x)) = vs.toArray := by rw [← hp]; simp
  have hle : ¬ (n * sz > 16777216) := by simp only [Nat.ble_eq] at hn; omega
  have hfl := fillS_eq sz vs _ cs hf
  have hm := made_eq zs n (by omega)
  rw [h7] at hm
  have hrun : (execOp a.eval o).run X.P w = .ok (.value (.slice (some ⟨w.heap.size, 0, none⟩) n n)) (w.alloc (cl cs e)) := by
    by_cases h0 : n * sz = 0
    · have hn0 : n = 0 := by rcases Nat.mul_eq_zero.1 h0 with h | h <;> omega
      subst hn0
      simp only [List.replicate_zero, List.flatten_nil] at hfl
      simp [execOp, ho, Instr.buildSlice, run_underlying h1, sizeOf, typeInfo, h2, h4, hp, Array.range_zero', hfl, newRow, cl]
    · simp only [madeCells] at hm
      have hsz : (sizeOf e).run X.P w = .ok sz w := by simp [sizeOf, typeInfo, h2, h4]
      have hzv : (zeroValue e).run X.P w = .ok z w := by simp [zeroValue, typeInfo, h2, h3]
      have hb : (Instr.buildSlice t n vs.toArray).run X.P w = .ok (.slice (some ⟨w.heap.size, 0, none⟩) n n) (w.alloc (cl cs e)) := by
        simp only [Instr.buildSlice, Sem.run_bind, run_underlying h1, Result.andThen_ok, hsz, if_neg hle, if_neg h0, hzv, Sem.run_pure, h6, hm, hfl]
        simp [newRow, cl]
      simp only [execOp, ho, hpa, Sem.run_bind, hb, Result.andThen_ok, Sem.run_pure]
  rw [hrun]
  exact kk _ _ _ ⟨_, rfl, rfl⟩ (hw.alloc _)

theorem cells_at {H0 : Heap} {w0 w : World} {b k : Nat} {cs vs : List Value} {e : TypeId} (hw : HW H0 w0 H w) (hm : (⟨some b, cl cs e⟩ : Ent) ∈ H) (ha : At cs k vs) : ∀ j u, vs[j]? = some u → w.cell? ((⟨b, k, none⟩ : Addr).add j) = some u :=
  fun j u hj => by rw [add_at, cell_of hw hm]; exact ha j u hj
theorem pull_mem {x : Ent} {F : Heap} (h : Pull x H F) : x ∈ H := by
  induction h with
  | head => exact List.mem_cons_self ..
  | tail _ ih => exact List.mem_cons_of_mem _ ih
theorem HW.drop {H0 F : Heap} {w0 w : World} {x : Ent} (hw : HW H0 w0 H w) (hp : Pull x H F) : HW H0 w0 F w := by
  have h := hw.perm hp.perm
  exact HW.left (B := [x]) (h.perm (by simpa using (List.perm_append_comm (l₁ := [x]) (l₂ := F))))
theorem grown_own {w : World} {n m c sz e : Nat} {xs news : List Value} {zs : List Value} (hx : xs.length = n * sz) (hl : news.length = m * sz) (hz : zs.length = sz) (h63 : n + m ≤ 9223372036854775807) (b : Nat) :
    ∃ tl, xs.toArray ++ news.toArray ++ Builtin.zeroCells zs.toArray (grownCap w (n + m) c e - (n + m)) = (xs ++ news ++ tl).toArray ∧ Own (some b) (n + m) (grownCap w (n + m) c e) sz (xs ++ news) tl := by
  have hge := grownCap_ge w (n + m) c e
  have hcm : grownCap w (n + m) c e ≤ maxLen := grownCap_le_maxLen w (n + m) c e (by simpa [maxLen] using h63)
  refine ⟨(Builtin.zeroCells zs.toArray (grownCap w (n + m) c e - (n + m))).toList, by simp, ⟨?_, ?_, hge, by simpa [maxLen] using hcm, fun h => by cases h⟩⟩
  · rw [List.length_append, hx, hl, Nat.add_mul]
  · have e1 : (Builtin.zeroCells zs.toArray (grownCap w (n + m) c e - (n + m))).toList.length = (grownCap w (n + m) c e - (n + m)) * sz := by
      rw [Array.length_toList, size_zeroCells, List.size_toArray, hz]
    rw [e1, List.length_append, hx, hl, ← Nat.add_mul, ← Nat.add_mul]
    congr 1; omega
/-- append, from a slice that holds cells. -/
theorem D_append {t e e2 : TypeId} {sz bytes n c m mc b2 k2 : Nat} {zs xs tl cs2 news : List Value} {ob : Option Nat} {x y : Operand} {F : Heap}
    (ho : o.op = .call { callee := .builtin .append, args := #[x, y], argTypes := #[t, t] }) (hs : SI X.P t e sz bytes zs) (hx : ev E x = some (slV ob n c)) (hown : Own ob n c sz xs tl) (hp : Pull ⟨ob, cl (xs ++ tl) e⟩ H F)
    (hy : ev E y = some (.slice (some ⟨b2, k2, none⟩) m mc)) (hm : (⟨some b2, cl cs2 e2⟩ : Ent) ∈ H) (hat : At cs2 k2 news) (hl : news.length = m * sz) (h1 : news.all Value.oneCell' = true) (hroom : (n + m) * bytes ≤ 140737488355328) (h63 : n + m ≤ 9223372036854775807) :
    Does X o E H (fun v H' => ∃ ob' c' tl', v = slV ob' (n + m) c' ∧ Own ob' (n + m) c' sz (xs ++ news) tl' ∧ H' = ⟨ob', cl (xs ++ news ++ tl') e⟩ :: F) := by
  intro a w ha hw next Q kk
  obtain ⟨g1, i, z, g2, g3, g4, g5, g6, g7, g8⟩ := hs
  refine ⟨about_true, ?_⟩
  rw [semAt_of (by rw [ho]; intro c e; cases e)]
  have hnews := cells_at hw hm hat
  have hexec : ∀ v w', (Builtin.append_ #[t, t] o.type #[slV ob n c, .slice (some ⟨b2, k2, none⟩) m mc]).run X.P w = .ok v w' → (execOp a.eval o).run X.P w = .ok (.value v) w' := fun v w' h => by
    simp [execOp, ho, resolve, ha.eval hx, ha.eval hy, invoke, builtin, h]
  have hl' : news.length = m * i.size := by rw [g4]; exact hl
  cases ob with
  | none =>
    have hc := hown.nil rfl
    have hn : n = 0 := by have := hown.le; omega
    subst hn; subst hc
    have hxs : xs = [] := List.eq_nil_of_length_eq_zero (by simpa using hown.len)
    subst hxs
    by_cases hm0 : m = 0
    · subst hm0
      have hne : news = [] := List.eq_nil_of_length_eq_zero (by simpa using hl)
      subst hne
      have hr : (Builtin.append_ #[t, t] o.type #[slV none 0 0, .slice (some ⟨b2, k2, none⟩) 0 mc]).run X.P w = .ok (slV none 0 0) w := by
        simp [Builtin.append_, slV, run_underlying g1, sizeOf, typeInfo, g2, Builtin.lenOf, Builtin.firstCells, loadCells, loadCellsFrom]
      rw [hexec _ _ hr]
      have htl : tl = [] := List.eq_nil_of_length_eq_zero (by simpa using hown.cap)
      subst htl
      exact kk _ _ _ ⟨none, 0, [], rfl, hown, rfl⟩ (hw.perm hp.perm)
    · have hr := run_append_nil (P := X.P) w t o.type e i z g1 g2 g3 ⟨b2, k2, none⟩ m mc news hl' hnews (by omega) (by omega) (by rw [g5]; simp only [Nat.zero_add] at hroom; omega)
      rw [hexec _ _ hr]
      obtain ⟨tl', e1, e2⟩ := grown_own (w := w) (n := 0) (m := m) (c := 0) (e := e) (xs := []) (news := news) (zs := zs) (by simp) hl g7 h63 w.heap.size
      simp only [Nat.zero_add, List.nil_append, Array.empty_append] at e1 e2
      rw [g6]
      rw [e1]
      refine kk _ _ _ ⟨some w.heap.size, _, tl', ?_, by simpa using e2, rfl⟩ (((hw.drop hp).drew).alloc (cl (news ++ tl') e))
      simp [slV]
  | some b =>
    have hb : w.heap[b]? = some (cl (xs ++ tl) e) := by
      have := hw.hok.ok _ (pull_mem hp)
      simpa [Ent.ok] using this
    by_cases hfit : n + m ≤ c
    · have hfit2 : n * i.size + news.length ≤ (xs ++ tl).toArray.size := by
        have := hown.cap
        simp only [List.size_toArray, List.length_append, g4, hl, this, ← Nat.add_mul]
        exact Nat.mul_le_mul_right _ hfit
      have hr := run_append_room (P := X.P) w t o.type e i g1 g2 b n c (xs ++ tl).toArray hb ⟨b2, k2, none⟩ m mc news hl' hnews (List.all_eq_true.1 h1) hfit hfit2
      rw [hexec _ _ hr]
      have hx1 : n * i.size = xs.length := by rw [g4]; exact hown.len.symm
      have hset : ((xs ++ tl).toArray.toList.take (n * i.size) ++ news ++ (xs ++ tl).toArray.toList.drop (n * i.size + news.length)) = xs ++ news ++ tl.drop news.length := by
        rw [hx1]
        simp [List.drop_append]
      have hlen : (xs ++ news).length = (n + m) * sz := by rw [List.length_append, hown.len, hl, Nat.add_mul]
      refine kk _ _ _ ⟨some b, c, tl.drop news.length, rfl, ⟨hlen, ?_, hfit, hown.big, fun h => by cases h⟩, rfl⟩ ?_
      · have h3 := hown.cap
        have h4 : news.length ≤ tl.length := by
          have h5 := Nat.mul_le_mul_right sz hfit
          rw [← hlen, ← h3] at h5
          simp only [List.length_append] at h5
          omega
        simp only [List.length_append, List.length_drop]
        omega
      · refine hw.turn hp (by simp) ?_ (fun k hk => setRow_other w b k _ hk) rfl rfl rfl
        have := setRow_heap w b (xs ++ tl).toArray (xs ++ news ++ tl.drop news.length).toArray e (0, 0) hb
        have hset' := congrArg List.toArray hset
        simp only [List.append_assoc] at hset' this ⊢
        rw [hset']
        exact this
    · have holds : ∀ j u, xs[j]? = some u → w.cell? ((⟨b, 0, none⟩ : Addr).add j) = some u :=
        cells_at hw (pull_mem hp) (fun j u hj => by
          rw [Nat.zero_add, List.getElem?_append_left (List.getElem?_eq_some_iff.1 hj).1]; exact hj)
      have hr := run_append_grow (P := X.P) w t o.type e i z g1 g2 g3 ⟨b, 0, none⟩ n c xs (by rw [g4]; exact hown.len) holds ⟨b2, k2, none⟩ m mc news hl' hnews (by omega) (by omega) (growslice_fits (by omega) (by rw [g5]; exact hroom))
      rw [hexec _ _ hr]
      obtain ⟨tl', e1, e2⟩ := grown_own (w := w) (n := n) (m := m) (c := c) (e := e) (xs := xs) (news := news) (zs := zs) hown.len hl g7 h63 w.heap.size
      rw [g6, e1]
      exact kk _ _ _ ⟨some w.heap.size, _, tl', rfl, e2, rfl⟩ (((hw.drop hp).drew).alloc (cl (xs ++ news ++ tl') e))
end
end Go.Proofs.Ytiokpmgbabpikaa
