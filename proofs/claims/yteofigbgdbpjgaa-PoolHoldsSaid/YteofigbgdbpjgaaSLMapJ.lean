/-
  Maps whose keys may be structs, more: v, is := m[k]; delete; len; ranges over a string.
-/
import Derived.Test.YteofigbgdbpjgaaZB
import Derived.Test.YteofigbgdbpjgaaSLStr
import Derived.Laws.StructEq
set_option linter.unusedVariables false
set_option linter.unusedSimpArgs false
namespace Go.Proofs.Yteofigbgdbpjgaa
section
variable {κ α : Type} {P : Program} {kt : TypeId} {ek : κ → Value} {ev : α → Value} {es : Array MapEntry} {c : Nat} {L L' : List (κ × α)}
theorem Mk.size (h : Mk ek ev es c L) : es.size = L.length := by
  have := h.perm.length_eq
  simpa using this
theorem Mk.find2 (K : KeyOk P kt ek) (h : Mk ek ev es c L) {k : κ} {a : α} (hx : (k, a) ∈ L) (w : World) : ∃ (j : Nat) (e : MapEntry), (Instr.findKey kt (ek k) es.toList).run P w = .ok (some (j, ev a)) w ∧ es.toList[j]? = some e ∧ e.key = ek k ∧ e.val = ev a := by
  obtain ⟨r, h1, h2⟩ := K.find k es.toList w h.keys
  rcases h2 with ⟨_, h2⟩ | ⟨j, e, rfl, h2, h3⟩
  · obtain ⟨e, he, hk, _⟩ := h.has hx
    exact absurd hk (h2 e he)
  · obtain ⟨⟨k', b⟩, hy, e1, e2⟩ := h.back (List.mem_of_getElem? h2)
    obtain rfl := K.inj _ _ (e1.symm.trans h3)
    obtain rfl := key_uniq h.nodup hx hy
    exact ⟨j, e, by rw [h1, e2], h2, h3, e2⟩
theorem Mk.del [DecidableEq κ] (h : Mk ek ev es c L) {k : κ} {a : α} (hx : (k, a) ∈ L) {j : Nat} {e : MapEntry} (hj : es.toList[j]? = some e) (he : e.key = ek k) (hv : e.val = ev a) :
    Mk ek ev (es.eraseIdxIfInBounds j) c (delL L k) := by
  obtain ⟨s, t, hs, hl⟩ := perm_middle_split hj
  obtain ⟨A, B, rfl⟩ := List.append_of_mem hx
  have hnd := h.nodup
  have hne := split_ne hnd
  have hdel : delL (A ++ (k, a) :: B) k = A ++ B := by
    unfold delL
    rw [List.filter_append, List.filter_cons_of_neg (by simp)]
    rw [List.filter_eq_self.2 (fun x hx => by simpa using hne x (List.mem_append_left _ hx)), List.filter_eq_self.2 (fun x hx => by simpa using hne x (List.mem_append_right _ hx))]
  have hm : (es.eraseIdxIfInBounds j).toList = s ++ t := by
    rw [Array.toList_eraseIdxIfInBounds, hs]
    subst hl
    simp [List.eraseIdx_append_of_length_le]
  rw [hdel]
  refine ⟨?_, ?_, fun x hx => ?_, ?_⟩
  · rw [hm]
    have hp := h.perm
    rw [hs] at hp
    have p1 : ((s ++ e :: t).map fun e => (e.key, e.val)).Perm ((e.key, e.val) :: (s ++ t).map fun e => (e.key, e.val)) := (List.perm_middle (l₁ := s) (a := e) (l₂ := t)).map _
    have p2 : ((A ++ (k, a) :: B).map fun x : κ × α => (ek x.1, ev x.2)).Perm ((ek k, ev a) :: (A ++ B).map fun x => (ek x.1, ev x.2)) := (List.perm_middle (l₁ := A) (a := (k, a)) (l₂ := B)).map _
    have p3 := p1.symm.trans (hp.trans p2)
    rw [he, hv] at p3
    exact List.Perm.cons_inv p3
  · have := ((List.perm_middle (l₁ := A) (a := (k, a)) (l₂ := B)).map (fun x : κ × α => x.1)).nodup_iff.1 hnd
    rw [List.map_cons, List.nodup_cons] at this
    exact this.2
  · rw [hm] at hx
    refine h.born x ?_
    rw [hs]
    rcases List.mem_append.1 hx with hx | hx
    · exact List.mem_append_left _ hx
    · exact List.mem_append_right _ (List.mem_cons_of_mem _ hx)
  · have hb := h.bnd
    rw [hs] at hb
    rw [hm]
    have := ((List.perm_middle (l₁ := s) (a := e) (l₂ := t)).map (fun x : MapEntry => x.born)).nodup_iff.1 hb
    rw [List.map_cons, List.nodup_cons] at this
    exact this.2
end
section
variable {X : Ctx} {E : Env} {H F : Heap} {o : Oper} {κ α : Type} {ek : κ → Value} {ev : α → Value} {es : Array MapEntry} {c b : Nat} {L : List (κ × α)} {mt kt et : TypeId} {x y z : Operand}
/-- v, is := m[k] -/
theorem R_lookKT {k : κ} {a : α} (ho : o.op = .lookup mt x y true) (hu : X.P.underlying mt = some (.map kt et)) (K : KeyOk X.P kt ek) (hx : Go.Proofs.Yteofigbgdbpjgaa.ev E x = some (.map (some b))) (hy : Go.Proofs.Yteofigbgdbpjgaa.ev E y = some (ek k)) (hm : (⟨some b, .map es c⟩ : Ent) ∈ H) (hM : Mk ek ev es c L) (hin : (k, a) ∈ L) :
    Runs X o E H (.tuple #[ev a, .bool true]) :=
  ⟨(by rw [ho]; intro c e; cases e), fun A w ha hw => by
    obtain ⟨j, h1⟩ := hM.find K hin w
    have hl : (Instr.lookup mt (.map (some b)) (ek k) true).run X.P w = .ok (.tuple #[ev a, .bool true]) w := by
      simp [Instr.lookup, run_underlying hu, MapKept.run_getObj_map (hw.mapAt hm), K.chk, h1, Result.andThen]
    simp [execOp, ho, ha.eval hx, ha.eval hy, hl]⟩
theorem R_lookKF {k : κ} {zv : Value} (ho : o.op = .lookup mt x y true) (hu : X.P.underlying mt = some (.map kt et)) (K : KeyOk X.P kt ek) (hx : Go.Proofs.Yteofigbgdbpjgaa.ev E x = some (.map (some b))) (hy : Go.Proofs.Yteofigbgdbpjgaa.ev E y = some (ek k)) (hm : (⟨some b, .map es c⟩ : Ent) ∈ H) (hM : Mk ek ev es c L) (hin : k ∉ L.map (·.1))
    (hz : ∀ w, (zeroValue et).run X.P w = .ok zv w) : Runs X o E H (.tuple #[zv, .bool false]) :=
  ⟨(by rw [ho]; intro c e; cases e), fun A w ha hw => by
    have h1 := hM.none K hin w
    have hl : (Instr.lookup mt (.map (some b)) (ek k) true).run X.P w = .ok (.tuple #[zv, .bool false]) w := by
      simp [Instr.lookup, run_underlying hu, MapKept.run_getObj_map (hw.mapAt hm), K.chk, h1, hz, Result.andThen]
    simp [execOp, ho, ha.eval hx, ha.eval hy, hl]⟩
theorem R_lenMapK (ho : o.op = .call { callee := .builtin .len, args := #[x], argTypes := #[mt] }) (hu : X.P.underlying mt = some (.map kt et)) (hx : Go.Proofs.Yteofigbgdbpjgaa.ev E x = some (.map (some b))) (hm : (⟨some b, .map es c⟩ : Ent) ∈ H) (hM : Mk ek ev es c L) :
    Runs X o E H (.int .i64 (L.length : Int)) :=
  ⟨(by rw [ho]; intro c e; cases e), fun A w ha hw => by
    have hg := MapKept.run_getObj_map (P := X.P) (hw.mapAt hm)
    have hl : (Builtin.len_ #[mt] o.type #[.map (some b)]).run X.P w = .ok (goInt L.length) w := by
      simp [Builtin.len_, run_underlying hu, hg, Result.andThen, hM.size]
    simp [execOp, ho, resolve, ha.eval hx, invoke, builtin, hl, goInt]⟩
/-- delete(m, k), of a key that lies there. -/
theorem D_deleteK [DecidableEq κ] {kt' : TypeId} {k : κ} {a : α} (ho : o.op = .call { callee := .builtin .delete, args := #[x, y], argTypes := #[mt, kt'] }) (hu : X.P.underlying mt = some (.map kt et)) (K : KeyOk X.P kt ek) (hx : Go.Proofs.Yteofigbgdbpjgaa.ev E x = some (.map (some b))) (hy : Go.Proofs.Yteofigbgdbpjgaa.ev E y = some (ek k)) (hp : Pull ⟨some b, .map es c⟩ H F) (hM : Mk ek ev es c L) (hin : (k, a) ∈ L) :
    Does X o E H (fun _ H' => ∃ es', Mk ek ev es' c (delL L k) ∧ H' = ⟨some b, .map es' c⟩ :: F) := by
  intro A w ha hw next Q kk
  refine ⟨about_true, ?_⟩
  rw [semAt_of (by rw [ho]; intro c e; cases e)]
  have hb := hw.mapAt (pull_mem hp)
  obtain ⟨j, e, h1, h2, h3, h4⟩ := hM.find2 K hin w
  have hd : (Builtin.delete_ #[mt, kt'] o.type #[.map (some b), ek k]).run X.P w = .ok (.tuple #[]) { w with heap := w.heap.setIfInBounds b (.map (es.eraseIdxIfInBounds j) c) } := by
    simp [Builtin.delete_, run_underlying hu, MapKept.run_getObj_map hb, K.chk, h1, MapKept.run_setObj_map _ hb, Result.andThen]
  have hrun : (execOp A.eval o).run X.P w = .ok (.value (.tuple #[])) { w with heap := w.heap.setIfInBounds b (.map (es.eraseIdxIfInBounds j) c) } := by
    simp [execOp, ho, resolve, ha.eval hx, ha.eval hy, invoke, builtin, hd]
  rw [hrun]
  exact kk _ _ _ ⟨_, hM.del hin h2 h3 h4, rfl⟩ (hw.turnMap hp)
/-! ### for i, c := range s -/
theorem run_eqStr {P : Program} (w : World) (d : Nat) (t : TypeId) (a b : ByteArray) (h : P.underlying t = some .string) : (Op.equalIn (d + 1) t (.string a) (.string b)).run P w = .ok (decide (a = b)) w := by
  rw [run_equalIn_string (P := P) w d t a b h, ByteArray.toList_eq, ByteArray.toList_eq]
  by_cases e : a = b
  · subst e; simp
  · have : a.data ≠ b.data := fun h => e (by cases a; cases b; exact congrArg ByteArray.mk h)
    simp [e, this]
variable {t : TypeId} {s : ByteArray}
theorem D_rangeStr (ho : o.op = .range t x) (hu : X.P.underlying t = some .string) (hx : Go.Proofs.Yteofigbgdbpjgaa.ev E x = some (.string s)) :
    Does X o E H (fun v H' => ∃ bi, v = .pointer (some ⟨bi, 0, none⟩) ∧ H' = ⟨some bi, .stringIter s 0⟩ :: H) := by
  intro A w ha hw next Q kk
  refine ⟨about_true, ?_⟩
  rw [semAt_of (by rw [ho]; intro c e; cases e)]
  have hrun : (execOp A.eval o).run X.P w = .ok (.value (.pointer (some ⟨w.heap.size, 0, none⟩))) (w.alloc (.stringIter s 0)) := by
    simp [execOp, ho, ha.eval hx, Instr.range, run_underlying hu, Result.andThen]
  rw [hrun]
  exact kk _ _ _ ⟨_, rfl, rfl⟩ (hw.alloc _)
theorem dec_ascii {s : ByteArray} {i : Nat} {u : UInt8} (h : (byt s)[i]? = some u) (hu : u.toNat < 128) : Utf8.decode s i = (u.toNat, 1) := by
  obtain ⟨hi, rfl⟩ := byt_get h
  have e : s.get! i = s[i] := by
    cases s; rename_i a
    show a[i]! = _
    exact getElem!_pos a i hi
  have e0 : (s.get! (i + 0)).toNat = s[i].toNat := by rw [Nat.add_zero, e]
  unfold Utf8.decode
  simp only [e0]
  rw [if_pos hu]
theorem dec_high {s : ByteArray} {i : Nat} {u : UInt8} (h : (byt s)[i]? = some u) (hu : 128 ≤ u.toNat) : 128 ≤ (Utf8.decode s i).1 := by
  obtain ⟨hi, rfl⟩ := byt_get h
  have e : s.get! i = s[i] := by
    cases s; rename_i a
    show a[i]! = _
    exact getElem!_pos a i hi
  have e0 : (s.get! (i + 0)).toNat = s[i].toNat := by rw [Nat.add_zero, e]
  unfold Utf8.decode
  simp only [e0]
  rw [if_neg (by omega)]
  simp only [Utf8.runeError]
  repeat' split
  all_goals ((try dsimp only); (try simp only [ge_iff_le, Bool.and_eq_true, decide_eq_true_eq] at *); omega)
theorem dec_max (s : ByteArray) (i : Nat) (hi : i < s.size) : (Utf8.decode s i).1 ≤ 1114111 := by
  have h0 : (s.get! (i + 0)).toNat < 256 := UInt8.toNat_lt _
  unfold Utf8.decode
  simp only [Utf8.runeError]
  repeat' split
  all_goals ((try dsimp only); (try simp only [Bool.and_eq_true, decide_eq_true_eq, Utf8.valid, Bool.or_eq_true] at *); omega)
theorem dec_or {s : ByteArray} {i c wd : Nat} {u : UInt8} (h : (byt s)[i]? = some u) (hd : Utf8.decode s i = (c, wd)) : (u.toNat < 128 ∧ c = u.toNat ∧ wd = 1) ∨ (128 ≤ u.toNat ∧ 128 ≤ c) := by
  by_cases hu : u.toNat < 128
  · rw [dec_ascii h hu] at hd
    cases hd
    exact .inl ⟨hu, rfl, rfl⟩
  · have := dec_high h (by omega)
    rw [hd] at this
    exact .inr ⟨by omega, this⟩
/-- The next character; or none is left. -/
theorem D_nextStr {bi pos : Nat} (ho : o.op = .next x true) (hx : Go.Proofs.Yteofigbgdbpjgaa.ev E x = some (.pointer (some ⟨bi, 0, none⟩))) (hp : Pull ⟨some bi, .stringIter s pos⟩ H F) :
    Does X o E H (fun v H' => (s.size ≤ pos ∧ v = .tuple #[.bool false] ∧ H' = ⟨some bi, .stringIter s pos⟩ :: F) ∨ ∃ c wd, Utf8.decode s pos = (c, wd) ∧ pos < s.size ∧ v = .tuple #[.bool true, .int .i64 (pos : Int), .int .i32 (c : Int)] ∧ H' = ⟨some bi, .stringIter s (pos + wd)⟩ :: F) := by
  intro A w ha hw next Q kk
  refine ⟨about_true, ?_⟩
  rw [semAt_of (by rw [ho]; intro c e; cases e)]
  have hw1 := hw.perm hp.perm
  have hib : w.heap[bi]? = some (.stringIter s pos) := by
    have := hw1.hok.ok _ (List.mem_cons_self ..)
    simpa [Ent.ok] using this
  have hlt : bi < w.heap.size := hw1.hok.lt (by simp [keys])
  have hg : (getObj bi).run X.P w = .ok (.stringIter s pos) w := by simp [getObj, Sem.run, hib]
  have hex : ∀ r, (Instr.next (.pointer (some ⟨bi, 0, none⟩)) true o.type).run X.P w = r → (execOp A.eval o).run X.P w = (r.andThen fun v w' => .ok (.value v) w') := fun r hr => by
    simp [execOp, ho, ha.eval hx, hr]
  by_cases h : pos < s.size
  · have hset : (setObj bi (.stringIter s (pos + (Utf8.decode s pos).2))).run X.P w = .ok () { w with heap := w.heap.setIfInBounds bi (.stringIter s (pos + (Utf8.decode s pos).2)) } := by
      simp only [setObj, Sem.run, hib]
    have hn : (Instr.next (.pointer (some ⟨bi, 0, none⟩)) true o.type).run X.P w = .ok (.tuple #[.bool true, .int .i64 (pos : Int), .int .i32 ((Utf8.decode s pos).1 : Int)]) { w with heap := w.heap.setIfInBounds bi (.stringIter s (pos + (Utf8.decode s pos).2)) } := by
      simp only [Instr.next, Sem.run_bind, hg, Result.andThen_ok, h, if_true, hset, Sem.run_pure, goInt]
    rw [hex _ hn]
    refine kk _ _ _ (.inr ⟨(Utf8.decode s pos).1, (Utf8.decode s pos).2, rfl, h, rfl, rfl⟩) (hw.turn hp (by simp) ?_ (fun k hk => ?_) rfl rfl rfl)
    · simp [Array.getElem?_setIfInBounds, hlt]
    · simp [Array.getElem?_setIfInBounds, Ne.symm hk]
  · have hn : (Instr.next (.pointer (some ⟨bi, 0, none⟩)) true o.type).run X.P w = .ok (.tuple #[.bool false]) w := by
      simp only [Instr.next, Sem.run_bind, hg, Result.andThen_ok, h, if_false, Sem.run_pure]
    rw [hex _ hn]
    exact kk _ _ _ (.inl ⟨by omega, rfl, rfl⟩) hw1
end
end Go.Proofs.Yteofigbgdbpjgaa
