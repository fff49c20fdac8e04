/-
  The operations, one law each.
-/
import Derived.Test.YtiokpmgbabpikaaSLCore
namespace Go.Proofs.Ytiokpmgbabpikaa

section
variable {X : Ctx} {E : Env} {H : Heap} {o : Oper}

theorem Runs.of {v : Value} (h0 : ∀ c, o.op ≠ .defer c) (h : ∀ a w, AE X E a → HW X.H0 X.w0 H w → (execOp a.eval o).run X.P w = .ok (.value v) w) : Runs X o E H v := ⟨h0, h⟩

theorem R_move {x : Operand} {v : Value} (ho : o.op = .move x) (h : ev E x = some v) : Runs X o E H v :=
  ⟨(by rw [ho]; intro c e; cases e), fun a w ha _ => by simp [execOp, ho, ha.eval h]⟩
theorem R_assign {x : Operand} {v : Value} (ho : o.op = .assign x) (h : ev E x = some v) : Runs X o E H v :=
  ⟨(by rw [ho]; intro c e; cases e), fun a w ha _ => by simp [execOp, ho, ha.eval h]⟩
theorem R_pickT {c x y : Operand} {v : Value} (ho : o.op = .pick c x y) (hc : ev E c = some (.bool true)) (h : ev E x = some v) : Runs X o E H v :=
  ⟨(by rw [ho]; intro c e; cases e), fun a w ha _ => by simp [execOp, ho, ha.eval h, ha.eval hc, asBool]⟩
theorem R_pickF {c x y : Operand} {v : Value} (ho : o.op = .pick c x y) (hc : ev E c = some (.bool false)) (h : ev E y = some v) : Runs X o E H v :=
  ⟨(by rw [ho]; intro c e; cases e), fun a w ha _ => by simp [execOp, ho, ha.eval h, ha.eval hc, asBool]⟩
theorem R_nilCheck {x : Operand} {ad : Addr} (ho : o.op = .nilCheck x) (h : ev E x = some (.pointer (some ad))) : Runs X o E H (.pointer (some ad)) :=
  ⟨(by rw [ho]; intro c e; cases e), fun a w ha _ => by simp [execOp, ho, ha.eval h]⟩
theorem R_nilCheckF {x : Operand} {f : FuncId} {fi ca : Array Value} (ho : o.op = .nilCheck x) (h : ev E x = some (.func (.func f) fi ca)) : Runs X o E H (.func (.func f) fi ca) :=
  ⟨(by rw [ho]; intro c e; cases e), fun a w ha _ => by simp [execOp, ho, ha.eval h]⟩
theorem R_not {t : TypeId} {x : Operand} {b : Bool} (ho : o.op = .unOp .not t x) (h : ev E x = some (.bool b)) : Runs X o E H (.bool (!b)) :=
  ⟨(by rw [ho]; intro c e; cases e), fun a w ha _ => by simp [execOp, ho, ha.eval h, Op.unary]⟩
theorem R_notD {t : TypeId} {x : Operand} {q : Prop} [Decidable q] (ho : o.op = .unOp .not t x) (h : ev E x = some (.bool (decide q))) : Runs X o E H (.bool (decide (¬ q))) :=
  ⟨(by rw [ho]; intro c e; cases e), fun a w ha _ => by simp [execOp, ho, ha.eval h, Op.unary]⟩

/-! integers -/
theorem R_arith {op : BinOp} {t t' : TypeId} {x y : Operand} {k : IntKind} {m n r : Int} (ho : o.op = .binOp op t x y t') (hx : ev E x = some (.int k m)) (hy : ev E y = some (.int k n))
    (hr : ∀ w, (binOp op t (.int k m) (.int k n)).run X.P w = .ok (.int k r) w) : Runs X o E H (.int k r) :=
  ⟨(by rw [ho]; intro c e; cases e), fun a w ha _ => by
    simp only [execOp, ho, ha.eval hx, ha.eval hy]
    simp [go_sem, hr]⟩
theorem wrap64_in {n : Int} (h1 : -9223372036854775808 ≤ n) (h2 : n ≤ 9223372036854775807) : IntKind.i64.wrap n = n := IntWalk.i64_in n ⟨h1, h2⟩
theorem R_add {t t' : TypeId} {x y : Operand} {m n : Int} (ho : o.op = .binOp .add t x y t') (hx : ev E x = some (.int .i64 m)) (hy : ev E y = some (.int .i64 n))
    (h : -9223372036854775808 ≤ m + n ∧ m + n ≤ 9223372036854775807) : Runs X o E H (.int .i64 (m + n)) :=
  R_arith ho hx hy fun w => by simp [go_sem, Op.intArith, wrap64_in h.1 h.2]
theorem R_sub {t t' : TypeId} {x y : Operand} {m n : Int} (ho : o.op = .binOp .sub t x y t') (hx : ev E x = some (.int .i64 m)) (hy : ev E y = some (.int .i64 n))
    (h : -9223372036854775808 ≤ m - n ∧ m - n ≤ 9223372036854775807) : Runs X o E H (.int .i64 (m - n)) :=
  R_arith ho hx hy fun w => by simp [go_sem, Op.intArith, wrap64_in h.1 h.2]
theorem R_mul {t t' : TypeId} {x y : Operand} {m n : Int} (ho : o.op = .binOp .mul t x y t') (hx : ev E x = some (.int .i64 m)) (hy : ev E y = some (.int .i64 n))
    (h : -9223372036854775808 ≤ m * n ∧ m * n ≤ 9223372036854775807) : Runs X o E H (.int .i64 (m * n)) :=
  R_arith ho hx hy fun w => by simp [go_sem, Op.intArith, wrap64_in h.1 h.2]
theorem R_addW {t t' : TypeId} {x y : Operand} {k : IntKind} {m n : Int} (ho : o.op = .binOp .add t x y t') (hx : ev E x = some (.int k m)) (hy : ev E y = some (.int k n)) :
    Runs X o E H (.int k (k.wrap (m + n))) := R_arith ho hx hy fun w => by simp [go_sem, Op.intArith]
theorem R_subW {t t' : TypeId} {x y : Operand} {k : IntKind} {m n : Int} (ho : o.op = .binOp .sub t x y t') (hx : ev E x = some (.int k m)) (hy : ev E y = some (.int k n)) :
    Runs X o E H (.int k (k.wrap (m - n))) := R_arith ho hx hy fun w => by simp [go_sem, Op.intArith]
theorem R_mulW {t t' : TypeId} {x y : Operand} {k : IntKind} {m n : Int} (ho : o.op = .binOp .mul t x y t') (hx : ev E x = some (.int k m)) (hy : ev E y = some (.int k n)) :
    Runs X o E H (.int k (k.wrap (m * n))) := R_arith ho hx hy fun w => by simp [go_sem, Op.intArith]
theorem R_cmp {op : BinOp} {t t' : TypeId} {x y : Operand} {k : IntKind} {m n : Int} {r : Bool} (ho : o.op = .binOp op t x y t') (hx : ev E x = some (.int k m)) (hy : ev E y = some (.int k n))
    (hr : ∀ w, (binOp op t (.int k m) (.int k n)).run X.P w = .ok (.bool r) w) : Runs X o E H (.bool r) :=
  ⟨(by rw [ho]; intro c e; cases e), fun a w ha _ => by
    simp only [execOp, ho, ha.eval hx, ha.eval hy]
    simp [go_sem, hr]⟩
theorem R_lss {t t' : TypeId} {x y : Operand} {k : IntKind} {m n : Int} (ho : o.op = .binOp .lss t x y t') (hx : ev E x = some (.int k m)) (hy : ev E y = some (.int k n)) : Runs X o E H (.bool (decide (m < n))) :=
  R_cmp ho hx hy fun w => by simp [go_sem]
theorem R_leq {t t' : TypeId} {x y : Operand} {k : IntKind} {m n : Int} (ho : o.op = .binOp .leq t x y t') (hx : ev E x = some (.int k m)) (hy : ev E y = some (.int k n)) : Runs X o E H (.bool (decide (m ≤ n))) :=
  R_cmp ho hx hy fun w => by simp [go_sem]
theorem R_gtr {t t' : TypeId} {x y : Operand} {k : IntKind} {m n : Int} (ho : o.op = .binOp .gtr t x y t') (hx : ev E x = some (.int k m)) (hy : ev E y = some (.int k n)) : Runs X o E H (.bool (decide (n < m))) :=
  R_cmp ho hx hy fun w => by simp [go_sem]
theorem R_geq {t t' : TypeId} {x y : Operand} {k : IntKind} {m n : Int} (ho : o.op = .binOp .geq t x y t') (hx : ev E x = some (.int k m)) (hy : ev E y = some (.int k n)) : Runs X o E H (.bool (decide (n ≤ m))) :=
  R_cmp ho hx hy fun w => by simp [go_sem]
theorem R_eql {t t' : TypeId} {x y : Operand} {k : IntKind} {m n : Int} (ho : o.op = .binOp .eql t x y t') (hx : ev E x = some (.int k m)) (hy : ev E y = some (.int k n)) : Runs X o E H (.bool (decide (m = n))) :=
  R_cmp ho hx hy fun w => by
    have e : (m == n) = decide (m = n) := by rw [Bool.eq_iff_iff]; simp
    simp [go_sem, e]
theorem R_neq {t t' : TypeId} {x y : Operand} {k : IntKind} {m n : Int} (ho : o.op = .binOp .neq t x y t') (hx : ev E x = some (.int k m)) (hy : ev E y = some (.int k n)) : Runs X o E H (.bool (decide (m ≠ n))) :=
  R_cmp ho hx hy fun w => by
    have e : (m != n) = decide (m ≠ n) := by rw [Bool.eq_iff_iff]; simp
    simp [go_sem, e]
/-! other comparisons -/
theorem R_bin {op : BinOp} {t t' : TypeId} {x y : Operand} {u v r : Value} (ho : o.op = .binOp op t x y t') (hx : ev E x = some u) (hy : ev E y = some v)
    (hg : ∀ w, (eqGuard op t x y u v).run X.P w = .ok () w) (hr : ∀ w, (binOp op t u v).run X.P w = .ok r w) : Runs X o E H r :=
  ⟨(by rw [ho]; intro c e; cases e), fun a w ha _ => by
    simp only [execOp, ho, ha.eval hx, ha.eval hy]
    simp [hg, hr]⟩
theorem eqi_slice {P : Program} (w : World) (d : Nat) (t u : TypeId) (a : Option Addr) (n c : Nat) (h : P.underlying t = some (.slice u)) : (Op.equalIn (d + 1) t (.slice a n c) (.slice none 0 0)).run P w = .ok a.isNone w := by
  cases a <;> simp [Op.equalIn, run_underlying h]
theorem eqi_func {P : Program} (w : World) (d : Nat) (t : TypeId) (u1 u2 : Array TypeId) (u3 : Bool) (f : Fn) (fi ca : Array Value) (h : P.underlying t = some (.func u1 u2 u3)) :
    (Op.equalIn (d + 1) t (.func f fi ca) .nilFunc).run P w = .ok false w := by
  simp [Op.equalIn, run_underlying h]
theorem R_ptrEqNil {t t' : TypeId} {x : Operand} {ad : Option Addr} {u : TypeId} (ho : o.op = .binOp .eql t x (.const (.pointer none)) t') (hu : X.P.underlying t = some (.pointer u))
    (hx : ev E x = some (.pointer ad)) : Runs X o E H (.bool ad.isNone) :=
  R_bin ho hx rfl (fun w => by simp [go_sem]) fun w => by
    have h1 : X.P.pointee t = u := by simp [Program.pointee, hu]
    rw [run_eql_pointer_nil w t ad (by rw [h1]; exact hu)]
theorem R_ptrNeNil {t t' : TypeId} {x : Operand} {ad : Option Addr} {u : TypeId} (ho : o.op = .binOp .neq t x (.const (.pointer none)) t') (hu : X.P.underlying t = some (.pointer u))
    (hx : ev E x = some (.pointer ad)) : Runs X o E H (.bool (!ad.isNone)) :=
  R_bin ho hx rfl (fun w => by simp [go_sem]) fun w => by
    have h1 : X.P.pointee t = u := by simp [Program.pointee, hu]
    rw [run_neq_pointer_nil w t ad (by rw [h1]; exact hu)]
theorem R_sliceEqNil {t t' : TypeId} {x : Operand} {ad : Option Addr} {n c : Nat} {u : TypeId} (ho : o.op = .binOp .eql t x (.const (.slice none 0 0)) t') (hu : X.P.underlying t = some (.slice u))
    (hx : ev E x = some (.slice ad n c)) : Runs X o E H (.bool ad.isNone) :=
  R_bin ho hx rfl (fun w => by simp [go_sem]) fun w => by
    have h := eqi_slice (P := X.P) w 9999 t u ad n c hu
    simp only [binOp, Op.equal, Op.maxDepth, Sem.run_bind, h, Result.andThen_ok, Sem.run_pure]
theorem R_sliceNeNil {t t' : TypeId} {x : Operand} {ad : Option Addr} {n c : Nat} {u : TypeId} (ho : o.op = .binOp .neq t x (.const (.slice none 0 0)) t') (hu : X.P.underlying t = some (.slice u))
    (hx : ev E x = some (.slice ad n c)) : Runs X o E H (.bool (!ad.isNone)) :=
  R_bin ho hx rfl (fun w => by simp [go_sem]) fun w => by
    have h := eqi_slice (P := X.P) w 9999 t u ad n c hu
    simp only [binOp, Op.equal, Op.maxDepth, Sem.run_bind, h, Result.andThen_ok, Sem.run_pure]
theorem R_funcEqNil {t t' : TypeId} {x : Operand} {f : Fn} {fi ca : Array Value} {u1 u2 : Array TypeId} {u3 : Bool} (ho : o.op = .binOp .eql t x (.const .nilFunc) t') (hu : X.P.underlying t = some (.func u1 u2 u3))
    (hx : ev E x = some (.func f fi ca)) : Runs X o E H (.bool false) :=
  R_bin ho hx rfl (fun w => by simp [go_sem]) fun w => by
    have h := eqi_func (P := X.P) w 9999 t u1 u2 u3 f fi ca hu
    simp only [binOp, Op.equal, Op.maxDepth, Sem.run_bind, h, Result.andThen_ok, Sem.run_pure]
theorem R_boolEq {t t' : TypeId} {x y : Operand} {b c : Bool} (ho : o.op = .binOp .eql t x y t') (hu : X.P.underlying t = some .bool) (hx : ev E x = some (.bool b)) (hy : ev E y = some (.bool c)) :
    Runs X o E H (.bool (b == c)) := R_bin ho hx hy (fun w => by simp [go_sem]) fun w => run_eql_bool w t b c hu
theorem R_boolNe {t t' : TypeId} {x y : Operand} {b c : Bool} (ho : o.op = .binOp .neq t x y t') (hu : X.P.underlying t = some .bool) (hx : ev E x = some (.bool b)) (hy : ev E y = some (.bool c)) :
    Runs X o E H (.bool (!(b == c))) := R_bin ho hx hy (fun w => by simp [go_sem]) fun w => run_neq_bool w t b c hu

/-! ### What the tables of types say -/
def FldAt (P : Program) (s : TypeId) (f off : Nat) : Prop := ∀ a w, (Instr.fieldAt s (.pointer (some a)) f).run P w = .ok (.pointer (some (a.add off))) w
theorem FldAt.mk {P : Program} {s : TypeId} {fs : Array Field} {f off n : Nat} {fl : Field} (hu : P.underlying s = some (.struct fs)) (hf : fs[f]? = some fl) (ho : fl.offset = off)
    (hz : ∀ w, (sizeOf fl.type).run P w = .ok n w) (hn : n ≠ 0) : FldAt P s f off := fun a w => by
  simp [Instr.fieldAt, run_underlying hu, hf, Instr.sureAddr, fieldPlace, hz, hn, ho]
def Sc (P : Program) (t : TypeId) : Prop := ∀ w, (isAgg t).run P w = .ok false w ∧ (sizeOf t).run P w = .ok 1 w
def Ag (P : Program) (t : TypeId) (n : Nat) : Prop := ∀ w, (isAgg t).run P w = .ok true w ∧ (sizeOf t).run P w = .ok n w
def Zv (P : Program) (t : TypeId) (zs : List Value) : Prop := ∃ z, z.cells = zs.toArray ∧ ∀ w, (zeroValue t).run P w = .ok z w

theorem add_at (b k n : Nat) : (Addr.add ⟨b, k, none⟩ n) = ⟨b, k + n, none⟩ := by
  unfold Addr.add; split <;> simp_all

theorem R_fieldAddr {s : TypeId} {x : Operand} {f b k off : Nat} (ho : o.op = .fieldAddr s x f) (hf : FldAt X.P s f off) (hx : ev E x = some (.pointer (some ⟨b, k, none⟩))) :
    Runs X o E H (.pointer (some ⟨b, k + off, none⟩)) :=
  ⟨(by rw [ho]; intro c e; cases e), fun a w ha _ => by simp [execOp, ho, ha.eval hx, hf ⟨b, k, none⟩ w, add_at]⟩

/-! ### Reading -/
theorem cell_of {H0 : Heap} {w0 w : World} {b : Nat} {cs : List Value} {e : TypeId} (hw : HW H0 w0 H w) (hm : (⟨some b, cl cs e⟩ : Ent) ∈ H) (j : Nat) : w.cell? ⟨b, j, none⟩ = cs[j]? := by
  have := hw.hok.ok _ hm
  simp only [Ent.ok, cl] at this
  simp [World.cell?, this]
theorem R_load {t : TypeId} {x : Operand} {b k : Nat} {cs : List Value} {e : TypeId} {v : Value} (ho : o.op = .load t x) (ht : Sc X.P t) (hx : ev E x = some (.pointer (some ⟨b, k, none⟩)))
    (hm : (⟨some b, cl cs e⟩ : Ent) ∈ H) (hv : cs[k]? = some v) : Runs X o E H v :=
  ⟨(by rw [ho]; intro c e; cases e), fun a w ha hw => by
    have hc := cell_of hw hm k
    rw [hv] at hc
    simp [execOp, ho, ha.eval hx, Instr.loadAt, Instr.sureAddr, loadVar, (ht w).1, hc]⟩
/-- 'vs' lie in 'cs' from place k on. -/
def At (cs : List Value) (k : Nat) (vs : List Value) : Prop := ∀ j v, vs[j]? = some v → cs[k + j]? = some v
theorem At.nil {cs : List Value} {k : Nat} : At cs k [] := fun j v h => by simp at h
theorem At.cons {c : Value} {cs vs : List Value} (h : At cs 0 vs) : At (c :: cs) 0 (c :: vs) := fun j v hj => by
  cases j with
  | zero => simpa using hj
  | succ j => have := h j v (by simpa using hj); simpa using this
theorem At.succ {c : Value} {cs vs : List Value} {k : Nat} (h : At cs k vs) : At (c :: cs) (k + 1) vs := fun j v hj => by
  have := h j v hj
  rw [show k + 1 + j = (k + j) + 1 from by omega]
  simpa using this
theorem At.all {cs : List Value} : At cs 0 cs := fun j v h => by simpa using h
theorem R_loadA {t : TypeId} {x : Operand} {b k n : Nat} {cs : List Value} {e : TypeId} {vs : List Value} (ho : o.op = .load t x) (ht : Ag X.P t n) (hx : ev E x = some (.pointer (some ⟨b, k, none⟩)))
    (hm : (⟨some b, cl cs e⟩ : Ent) ∈ H) (hn : vs.length = n) (hv : At cs k vs) : Runs X o E H (.agg vs.toArray) :=
  ⟨(by rw [ho]; intro c e; cases e), fun a w ha hw => by
    have hl := run_loadCells_list (P := X.P) w ⟨b, k, none⟩ vs (fun j v hj => by rw [add_at, cell_of hw hm]; exact hv j v hj)
    simp [execOp, ho, ha.eval hx, Instr.loadAt, Instr.sureAddr, loadVar, (ht w).1, (ht w).2, ← hn, hl]⟩
end

/-! ### Heaps that turn -/
section
variable {X : Ctx}
theorem HW.cons_lt {H : Heap} {w : World} (hw : HOK H w) {k : Nat} (hk : w.heap.size ≤ k) : k ∉ keys H := fun h => by have := hw.lt h; omega
/-- A new block. -/
theorem HW.alloc {H0 H : Heap} {w0 w : World} (hw : HW H0 w0 H w) (ob : Obj) : HW H0 w0 (⟨some w.heap.size, ob⟩ :: H) (w.alloc ob) := by
  refine ⟨⟨?_, ?_⟩, hw.os, hw.tape, hw.output, by have := hw.size; simp; omega, ?_, ?_, hw.dr⟩
  · simp only [keys, List.filterMap_cons, List.nodup_cons]
    exact ⟨HW.cons_lt hw.hok (Nat.le_refl _), hw.hok.nodup⟩
  · intro x hx
    rcases List.mem_cons.1 hx with rfl | hx
    · exact World.alloc_heap_new w ob
    · have := hw.hok.ok x hx
      cases hb : x.b with
      | none => simp only [Ent.ok, hb] at this ⊢; exact this
      | some b =>
        simp only [Ent.ok, hb] at this ⊢
        have hlt := hw.hok.lt (mem_keys.2 ⟨x, hx, hb⟩)
        rw [← this]
        exact RowKit.Below.heap_alloc _ _ _ hlt
  · intro k hk hn
    rw [RowKit.Below.heap_alloc _ _ _ (Nat.lt_of_lt_of_le hk hw.size)]
    exact hw.kept k hk hn
  · intro k hk
    simp only [keys, List.filterMap_cons, List.mem_cons] at hk
    rcases hk with rfl | hk
    · right; exact hw.size
    · exact hw.own k hk
/-- A block of the heap becomes another object. -/
theorem HW.turn {H0 H F : Heap} {w0 w w' : World} {b : Nat} {ob ob' : Obj} (hw : HW H0 w0 H w) (hp : Pull ⟨some b, ob⟩ H F) (h1 : w'.heap.size = w.heap.size) (h2 : w'.heap[b]? = some ob')
    (h3 : ∀ k, k ≠ b → w'.heap[k]? = w.heap[k]?) (h4 : w'.os = w.os) (h5 : w'.tape = w.tape) (h6 : w'.output = w.output) (h7 : w'.drawn = w.drawn := by rfl) : HW H0 w0 (⟨some b, ob'⟩ :: F) w' := by
  have hw1 := hw.perm hp.perm
  have hnd := hw1.hok.nodup
  simp only [keys, List.filterMap_cons, List.nodup_cons] at hnd
  have hbk : b ∈ keys (⟨some b, ob⟩ :: F) := by simp [keys]
  refine ⟨⟨?_, ?_⟩, h4.trans hw.os, h5.trans hw.tape, h6.trans hw.output, by have := hw.size; omega, ?_, ?_, h7 ▸ hw.dr⟩
  · simp only [keys, List.filterMap_cons, List.nodup_cons]; exact hnd
  · intro x hx
    rcases List.mem_cons.1 hx with rfl | hx2
    · simpa [Ent.ok] using h2
    · have := hw1.hok.ok x (List.mem_cons_of_mem _ hx2)
      cases hb : x.b with
      | none => simp only [Ent.ok, hb] at this ⊢; exact this
      | some c =>
        simp only [Ent.ok, hb] at this ⊢
        have hne : c ≠ b := fun e => hnd.1 (by subst e; exact List.mem_filterMap.2 ⟨x, hx2, hb⟩)
        rw [h3 c hne]; exact this
  · intro k hk hn
    have hkb : k ≠ b := by
      intro e; subst e
      rcases hw1.own k hbk with h | h
      · exact hn h
      · omega
    rw [h3 k hkb]; exact hw.kept k hk hn
  · intro k hk
    have : k ∈ keys (⟨some b, ob⟩ :: F) := by simpa [keys] using hk
    exact hw1.own k this
end


/-- vs are put into cs from place k on. -/
def putAt : List Value → Nat → List Value → List Value
  | [], _, _ => []
  | c :: cs, 0, [] => c :: cs
  | _ :: cs, 0, v :: vs => v :: putAt cs 0 vs
  | c :: cs, k + 1, vs => c :: putAt cs k vs
theorem putAt_length : ∀ (cs : List Value) (k : Nat) (vs : List Value), (putAt cs k vs).length = cs.length
  | [], _, _ => by simp [putAt]
  | c :: cs, 0, [] => by simp [putAt]
  | _ :: cs, 0, v :: vs => by simp [putAt, putAt_length cs 0 vs]
  | c :: cs, k + 1, vs => by simp [putAt, putAt_length cs k vs]
theorem putAt_nil : ∀ (cs : List Value) (k : Nat), putAt cs k [] = cs
  | [], _ => by simp [putAt]
  | c :: cs, 0 => by simp [putAt]
  | c :: cs, k + 1 => by simp [putAt, putAt_nil cs k]
theorem putAt_cons : ∀ (cs : List Value) (k : Nat) (v : Value) (vs : List Value), putAt cs k (v :: vs) = putAt (cs.set k v) (k + 1) vs
  | [], _, _, _ => by simp [putAt]
  | c :: cs, 0, v, vs => by simp [putAt]
  | c :: cs, k + 1, v, vs => by simp [putAt, putAt_cons cs k v vs]
theorem putAt_eq : ∀ (cs : List Value) (k : Nat) (vs : List Value), k + vs.length ≤ cs.length → putAt cs k vs = cs.take k ++ vs ++ cs.drop (k + vs.length)
  | [], k, vs, h => by
    have : vs = [] := by simp at h; exact h.2
    subst this; simp [putAt]
  | c :: cs, 0, [], _ => by simp [putAt]
  | c :: cs, 0, v :: vs, h => by
    have := putAt_eq cs 0 vs (by simp at h; omega)
    simp [putAt, this]
  | c :: cs, k + 1, vs, h => by
    have := putAt_eq cs k vs (by simp at h; omega)
    simp only [putAt, this, List.take_succ_cons, List.cons_append]
    rw [show k + 1 + vs.length = (k + vs.length) + 1 from by omega, List.drop_succ_cons]

theorem run_store_at {P : Program} {w : World} {b : Nat} {cs : List Value} {e : TypeId} {k : Nat} {v : Value} (hb : w.heap[b]? = some (cl cs e)) (hk : k < cs.length) (hv : v.oneCell' = true) :
    (store ⟨b, k, none⟩ v).run P w = .ok () (w.setCell ⟨b, k, none⟩ v) ∧ (w.setCell ⟨b, k, none⟩ v).heap[b]? = some (cl (cs.set k v) e) := by
  have hc : w.cell? ⟨b, k, none⟩ = some cs[k] := by simp [World.cell?, hb, cl, hk]
  have hf : w.frozen? ⟨b, k, none⟩ = false := by simp [World.frozen?, hb, cl]
  refine ⟨by rw [run_store _ _ _ _ _ hv]; simp [hc, hf], ?_⟩
  have := heap_setCell_same w b k cs.toArray e v hb
  rw [this]; simp [cl]
/-- A store of several cells. -/
theorem run_storeCells_at {P : Program} {b : Nat} {e : TypeId} (k0 : Nat) : ∀ (vs : List Value) (i : Nat) (cs : List Value) (w : World), w.heap[b]? = some (cl cs e) → k0 + i + vs.length ≤ cs.length → (∀ v ∈ vs, v.oneCell' = true) →
    ∃ w', (storeCells ⟨b, k0, none⟩ vs i).run P w = .ok () w' ∧ w'.heap.size = w.heap.size ∧ w'.heap[b]? = some (cl (putAt cs (k0 + i) vs) e) ∧ (∀ k, k ≠ b → w'.heap[k]? = w.heap[k]?) ∧
      w'.os = w.os ∧ w'.tape = w.tape ∧ w'.output = w.output ∧ w'.drawn = w.drawn
  | [], i, cs, w, hb, _, _ => ⟨w, by simp [storeCells], rfl, by rw [putAt_nil]; exact hb, fun _ _ => rfl, rfl, rfl, rfl, rfl⟩
  | v :: vs, i, cs, w, hb, hl, hv => by
    simp only [List.length_cons] at hl
    obtain ⟨h1, h2⟩ := run_store_at (P := P) hb (k := k0 + i) (by omega) (hv v (by simp))
    obtain ⟨w', g1, g2, g3, g4, g5, g6, g7, g8⟩ := run_storeCells_at (P := P) k0 vs (i + 1) (cs.set (k0 + i) v) _ h2 (by simp; omega) (fun u hu => hv u (List.mem_cons_of_mem _ hu))
    refine ⟨w', ?_, by rw [g2]; simp, ?_, fun k hk => by rw [g4 k hk]; exact RowKit.Below.heap_setCell _ _ _ _ hk, g5, g6, g7, g8⟩
    · simp only [storeCells, Sem.run_bind, add_at, h1, Result.andThen_ok, g1]
    · rw [g3, putAt_cons, Nat.add_assoc]

section
variable {X : Ctx} {E : Env} {H : Heap} {o : Oper}
theorem semAt_of {ro : Option Nat} {ρ : Operand → Value} (h : ∀ c, o.op ≠ .defer c) : o.semAt ro ρ = execOp ρ o := Oper.semAt_eq ro ρ o h

theorem D_alloc {t : TypeId} {zs : List Value} (ho : o.op = .alloc t) (hz : Zv X.P t zs) :
    Does X o E H (fun v H' => ∃ b, v = .pointer (some ⟨b, 0, none⟩) ∧ H' = ⟨some b, cl zs t⟩ :: H) := by
  intro a w ha hw next Q k
  obtain ⟨z, h1, h2⟩ := hz
  refine ⟨about_true, ?_⟩
  rw [semAt_of (by rw [ho]; intro c e; cases e)]
  have hrun : (execOp a.eval o).run X.P w = .ok (.value (.pointer (some ⟨w.heap.size, 0, none⟩))) (w.alloc (cl zs t)) := by
    simp [execOp, ho, Instr.alloc, h2 w, newVar, newRow, h1, cl]
  rw [hrun]
  exact k _ _ _ ⟨_, rfl, rfl⟩ (hw.alloc _)
theorem D_box {t : TypeId} {x : Operand} {v : Value} {cs : List Value} (ho : o.op = .box t x) (hx : ev E x = some v) (hc : v.cells.toList = cs) :
    Does X o E H (fun v H' => ∃ b, v = .pointer (some ⟨b, 0, none⟩) ∧ H' = ⟨some b, cl cs t⟩ :: H) := by
  intro a w ha hw next Q k
  refine ⟨about_true, ?_⟩
  rw [semAt_of (by rw [ho]; intro c e; cases e)]
  have hrun : (execOp a.eval o).run X.P w = .ok (.value (.pointer (some ⟨w.heap.size, 0, none⟩))) (w.alloc (cl cs t)) := by
    simp [execOp, ho, Instr.box, newVar, newRow, ha.eval hx, cl, ← hc]
  rw [hrun]
  exact k _ _ _ ⟨_, rfl, rfl⟩ (hw.alloc _)
theorem D_store {t : TypeId} {x y : Operand} {b k n : Nat} {v : Value} {cs vs : List Value} {e : TypeId} {F : Heap} (ho : o.op = .store t x y) (hs : ∀ w, (sizeOf t).run X.P w = .ok n w)
    (hx : ev E x = some (.pointer (some ⟨b, k, none⟩))) (hy : ev E y = some v) (hv : v.cells.toList = vs) (hn : vs.length = n) (h1 : vs.all Value.oneCell' = true)
    (hp : Pull ⟨some b, cl cs e⟩ H F) (hk : k + n ≤ cs.length) : Does X o E H (fun _ H' => H' = ⟨some b, cl (putAt cs k vs) e⟩ :: F) := by
  intro a w ha hw next Q kk
  refine ⟨about_true, ?_⟩
  rw [semAt_of (by rw [ho]; intro c e; cases e)]
  have hb : w.heap[b]? = some (cl cs e) := by
    have := (hw.perm hp.perm).hok.ok _ (List.mem_cons_self ..)
    simpa [Ent.ok] using this
  obtain ⟨w', g1, g2, g3, g4, g5, g6, g7, g8⟩ := run_storeCells_at (P := X.P) (b := b) (e := e) k vs 0 cs w hb (by omega) (List.all_eq_true.1 h1)
  have hsz : v.cells.size = n := by rw [← Array.length_toList, hv, hn]
  have hrun : (execOp a.eval o).run X.P w = .ok .skip w' := by
    simp [execOp, ho, Instr.storeAt, Instr.sureAddr, storeVar, ha.eval hx, ha.eval hy, hs, hsz, hv, g1]
  rw [hrun]
  exact kk undef _ _ rfl (hw.turn hp g2 g3 g4 g5 g6 g7 g8)
end

/-! ### Contracts and calls -/
def Enters (P : Program) (f : FuncId) : Prop := ∀ args w, (callFunc f args).run P w = .ok (.enter f args) w
theorem Enters.mk {P : Program} {f : FuncId} {fn : Func} {c : Code} (hf : P.funcs[f]? = some fn) (hname : (fn.name == "runtime.NumGoroutine") = false) (hb : fn.body = some c) : Enters P f := by
  intro args w
  have h1 : fn.name ≠ "runtime.NumGoroutine" := by simpa using hname
  simp [callFunc, hf, h1, hb, mark]
/-- **A CONTRACT**: in every memory that holds H, the function returns; what it returns, and what then lies at H's blocks and in new ones, 'post' tells; nothing else has turned. -/
structure Spec (P : Program) (f : FuncId) (args : List Value) (H : Heap) (post : Value → Heap → Prop) : Prop where
  enters : Enters P f
  calls : ∀ w, HOK H w → CallsIn Fence.wide 0 P f args.toArray w (fun e w' => ∃ v H', e = .returned v ∧ post v H' ∧ HW H w H' w')
theorem Spec.mono {P : Program} {f : FuncId} {args : List Value} {H : Heap} {post post' : Value → Heap → Prop} (h : Spec P f args H post) (hp : ∀ v H', post v H' → post' v H') : Spec P f args H post' :=
  ⟨h.enters, fun w hw => (h.calls w hw).mono fun _ _ ⟨v, H', e, p, r⟩ => ⟨v, H', e, hp v H' p, r⟩⟩

def callee (E : Env) (x : Operand) : Option (FuncId × List Value × List Value) :=
  match ev E x with
  | some (.func (.func f) fi ca) => some (f, fi.toList, ca.toList)
  | _ => none
theorem callee_spec {E : Env} {x : Operand} {f : FuncId} {fi ca : List Value} (h : callee E x = some (f, fi, ca)) : ev E x = some (.func (.func f) fi.toArray ca.toArray) := by
  unfold callee at h
  split at h
  · rename_i f' fi' ca' he
    cases h
    simpa using he
  · cases h

section
variable {X : Ctx} {E : Env} {H : Heap} {o : Oper}
theorem D_call {f : FuncId} {x : Operand} {args : List Operand} {tys : Array TypeId} {as vs fi ca : List Value} {Hp F : Heap} {post : Value → Heap → Prop} (hs : Spec X.P f as Hp post)
    (ho : o.op = .call { callee := .value x, args := args.toArray, argTypes := tys }) (hx : callee E x = some (f, fi, ca)) (ha : evs E args = some vs) (he : fi ++ vs ++ ca = as) (hp : Pulls Hp H F) :
    Does X o E H (fun v H' => ∃ H1, post v H1 ∧ H' = H1 ++ F) := by
  intro a w hA hw next Q k
  have hfe := callee_spec hx
  subst he
  refine ⟨about_true, ?_⟩
  rw [semAt_of (by rw [ho]; intro c e; cases e)]
  have hrun : (execOp a.eval o).run X.P w = .ok (.enter f (fi ++ vs ++ ca).toArray) w := by
    have hen := hs.enters (fi ++ vs ++ ca).toArray w
    simp only [List.append_assoc] at hen
    simp [execOp, ho, resolve, hA.evals ha, hA.eval hfe, Deferred.ofValue, invoke, hen]
  rw [hrun]
  refine ⟨fun h => by simp [fen, Fence.wide] at h, ?_⟩
  have hc := hs.calls w (hw.perm hp.perm).left.hok
  have hc2 : CallsIn (fen X.ro) (0 - 1) X.P f (fi ++ vs ++ ca).toArray w (fun e w' => ∃ v H', e = .returned v ∧ post v H' ∧ HW Hp w H' w') := by
    cases hr : X.ro with
    | none => exact hc
    | some l => exact CallsIn.inRound l hc
  refine hc2.mono ?_
  rintro e w' ⟨v, H1, rfl, hpost, hw1⟩
  exact k v _ w' ⟨H1, hpost, rfl⟩ (hw.frame hp.perm hw1)
end
theorem atZ {cs vs : List Value} {k : Nat} (h : At cs k vs := by repeat (first | exact At.nil | refine At.cons ?_ | refine At.succ ?_)) : At cs k vs := h

end Go.Proofs.Ytiokpmgbabpikaa
