/-
  A function's contract out of its body; results; tuples, structs, slices.
-/
import Derived.Test.YtiokpmgbabpikaaSLOps
namespace Go.Proofs.Ytiokpmgbabpikaa

def argEnv : Nat → List Value → Env
  | _, [] => []
  | i, v :: vs => (i, v) :: argEnv (i + 1) vs
theorem get_argEnv : ∀ (vs : List Value) (i s : Nat) (v : Value), gtE (argEnv i vs) s = some v → i ≤ s ∧ vs[s - i]? = some v
  | [], _, _, _, h => by simp [argEnv, gtE] at h
  | u :: vs, i, s, v, h => by
    simp only [argEnv, get_cons] at h
    split at h
    · rename_i e; subst e; cases h; simp
    · rename_i e
      obtain ⟨h1, h2⟩ := get_argEnv vs (i + 1) s v h
      refine ⟨by omega, ?_⟩
      rw [show s - i = (s - (i + 1)) + 1 from by omega]
      simpa using h2

/-- What is asked at a function's end. -/
def RetK (P : Program) (fn : Func) (H : Heap) (w : World) (post : Value → Heap → Prop) (a : Act) (w' : World) : Prop :=
  a.defers = [] ∧ ∃ v H', (results fn a.tmps).run P w' = .ok v w' ∧ post v H' ∧ HW H w H' w'
abbrev fnPost (P : Program) (fn : Func) (H : Heap) (w : World) (post : Value → Heap → Prop) : Post :=
  { nrm := RetK P fn H w post, ret := RetK P fn H w post, ex := fun _ _ _ => False }

theorem Spec.of {P : Program} {f : FuncId} {fn : Func} {c : Code} {N : Nat} {as : List Value} {E : Env} {H : Heap} {post : Value → Heap → Prop}
    (hf : P.funcs[f]? = some fn) (hb : fn.body = some c) (hname : (fn.name == "runtime.NumGoroutine") = false) (hN : fn.ntmps = N) (hl : Nat.ble as.length N = true) (hE : argEnv 0 as = E)
    (h : ∀ w, WC ⟨P, none, N, [], H, w⟩ c (fnPost P fn H w post) E H) : Spec P f as H post := by
  refine ⟨Enters.mk hf hname hb, fun w hw => callsIn_of_wp hf hb trivial ?_⟩
  have hl' : as.length ≤ N := by simpa [Nat.ble_eq] using hl
  subst hE
  refine wpIn_mono (h w _ w ⟨?_, rfl, ?_⟩ (HW.start hw)) ?_
  · simp [hN]; omega
  · intro s v hs
    obtain ⟨-, h2⟩ := get_argEnv as 0 s v hs
    have h3 : as[s]? = some v := by simpa using h2
    have hlt : s < as.length := (List.getElem?_eq_some_iff.1 h3).1
    rw [Array.getElem?_append_left (by simpa using hlt)]
    simpa using h3
  · intro e a w' hq
    cases e with
    | normal => obtain ⟨h1, v, H', h2, h3, h4⟩ := hq; exact ⟨h1, v, h2, v, H', rfl, h3, h4⟩
    | ret => obtain ⟨h1, v, H', h2, h3, h4⟩ := hq; exact ⟨h1, v, h2, v, H', rfl, h3, h4⟩
    | exit id => exact hq
    | goto l => exact hq
    | panic ch => exact hq.elim
    | outgrown => exact hq.elim

section
variable {X : Ctx} {E : Env} {H : Heap} {o : Oper}
inductive RV (X : Ctx) (E : Env) (H : Heap) : ResultVar → Value → Prop
  | tmp {t : Tmp} {v : Value} : gtE E t = some v → RV X E H (.tmp t) v
  | cell {t : Tmp} {ty : TypeId} {b k n : Nat} {cs : List Value} {e : TypeId} {vs : List Value} : gtE E t = some (.pointer (some ⟨b, k, none⟩)) → Ag X.P ty n → (⟨some b, cl cs e⟩ : Ent) ∈ H →
      vs.length = n → At cs k vs → RV X E H (.cell t ty) (.agg vs.toArray)
  | cell1 {t : Tmp} {ty : TypeId} {b k : Nat} {cs : List Value} {e : TypeId} {v : Value} : gtE E t = some (.pointer (some ⟨b, k, none⟩)) → Sc X.P ty → (⟨some b, cl cs e⟩ : Ent) ∈ H →
      cs[k]? = some v → RV X E H (.cell t ty) v
inductive RVs (X : Ctx) (E : Env) (H : Heap) : List ResultVar → List Value → Prop
  | nil : RVs X E H [] []
  | cons {r : ResultVar} {v : Value} {rs : List ResultVar} {vs : List Value} : RV X E H r v → RVs X E H rs vs → RVs X E H (r :: rs) (v :: vs)
def resV : List Value → Value
  | [v] => v
  | vs => .tuple vs.toArray
def resOne (tmps : Array Value) : ResultVar → Sem Value
  | .tmp t => pure (tmps.getD t undef)
  | .cell p t => do loadVar t (← asAddr (tmps.getD p undef))
theorem results_eq (fn : Func) (tmps : Array Value) : results fn tmps = (do
    let vs ← fn.results.mapM (resOne tmps)
    pure (if h : vs.size = 1 then vs[0] else .tuple vs)) := by
  unfold results
  congr 1
theorem RV.run {r : ResultVar} {v : Value} (h : RV X E H r v) {a : Act} {w : World} (ha : AE X E a) (hw : HW X.H0 X.w0 H w) :
    (resOne a.tmps r).run X.P w = .ok v w := by
  cases h with
  | tmp h => simp [resOne, Array.getD_eq_getD_getElem?, ha.env _ _ h]
  | cell h1 h2 h3 h4 h5 =>
    rename_i t ty b k n cs e vs
    have hl := run_loadCells_list (P := X.P) w ⟨b, k, none⟩ vs (fun j v hj => by rw [add_at, cell_of hw h3]; exact h5 j v hj)
    simp [resOne, Array.getD_eq_getD_getElem?, ha.env _ _ h1, asAddr, loadVar, (h2 w).1, (h2 w).2, ← h4, hl]
  | cell1 h1 h2 h3 h4 =>
    rename_i t ty b k cs e
    have hc := cell_of hw h3 k
    rw [h4] at hc
    simp [resOne, Array.getD_eq_getD_getElem?, ha.env _ _ h1, asAddr, loadVar, (h2 w).1, hc]
theorem RVs.run {rs : List ResultVar} {vs : List Value} (h : RVs X E H rs vs) {a : Act} {w : World} (ha : AE X E a) (hw : HW X.H0 X.w0 H w) :
    (rs.mapM (resOne a.tmps)).run X.P w = .ok vs w := by
  induction h with
  | nil => simp
  | cons h _ ih =>
    have h1 := h.run ha hw
    simp only [List.mapM_cons, Sem.run_bind, h1, Result.andThen_ok, ih, Sem.run_pure]
theorem run_results {fn : Func} {rs : List ResultVar} {vs : List Value} (hr : fn.results = rs.toArray) (h : RVs X E H rs vs) {a : Act} {w : World} (ha : AE X E a) (hw : HW X.H0 X.w0 H w) :
    (results fn a.tmps).run X.P w = .ok (resV vs) w := by
  have h1 := h.run ha hw
  rw [results_eq, hr, List.mapM_toArray]
  simp only [Sem.run_bind, Sem.run_map, h1, Result.andThen_ok]
  match vs with
  | [] => rfl
  | [v] => rfl
  | v :: u :: vs => simp [resV]
theorem WQ_ret {fn : Func} {rs : List ResultVar} {vs : List Value} {v : Value} {H' F : Heap} {post : Value → Heap → Prop} (hD : X.D = []) (hr : fn.results = rs.toArray) (h : RVs X E H rs vs)
    (hv : resV vs = v) (hp : post v H') (hq : Pulls H' H F) : WQ X (RetK X.P fn X.H0 X.w0 post) E H := by
  intro a w ha hw
  refine ⟨by rw [ha.defers, hD], v, H', ?_, hp, (hw.perm hq.perm).left⟩
  rw [run_results hr h ha hw, hv]

/-! tuples, structs -/
theorem R_extract {x : Operand} {i : Nat} {vs : List Value} {v : Value} (ho : o.op = .extract x i) (hx : ev E x = some (.tuple vs.toArray)) (hv : vs[i]? = some v) : Runs X o E H v :=
  ⟨(by rw [ho]; intro c e; cases e), fun a w ha _ => by simp [execOp, ho, ha.eval hx, Instr.extract, hv]⟩
/-- The cells of a struct, by what is given and zeroes. -/
def fillL : List Value → List (Nat × Nat) → List (Nat × Value) → Option (List Value)
  | cs, _, [] => some cs
  | cs, ps, (i, v) :: rest => match ps[i]? with
    | none => none
    | some (off, n) => bif Nat.beq v.cells.toList.length n && Nat.ble (off + v.cells.toList.length) cs.length then fillL (putAt cs off v.cells.toList) ps rest else none
theorem foldl_put (off : Nat) : ∀ (vs : List Value) (j : Nat) (cs : List Value), off + j + vs.length ≤ cs.length →
    (vs.zipIdx j).foldl (fun (a : Array Value) (x : Value × Nat) => a.setIfInBounds (off + x.2) x.1) cs.toArray = (putAt cs (off + j) vs).toArray
  | [], j, cs, _ => by simp [putAt_nil]
  | v :: vs, j, cs, h => by
    simp only [List.length_cons] at h
    simp only [List.zipIdx_cons, List.foldl_cons]
    rw [show cs.toArray.setIfInBounds (off + j) v = (cs.set (off + j) v).toArray from by simp]
    rw [foldl_put off vs (j + 1) (cs.set (off + j) v) (by simp; omega), putAt_cons]
    rfl
theorem fill_eq : ∀ (parts : List (Nat × Value)) (cs : List Value) (ps : List (Nat × Nat)) (r : List Value), fillL cs ps parts = some r → Instr.fill (ps.toArray[·]?) cs.toArray parts = some r.toArray
  | [], cs, ps, r, h => by simp [fillL] at h; simp [Instr.fill, h]
  | (i, v) :: rest, cs, ps, r, h => by
    simp only [fillL] at h
    split at h
    · cases h
    · rename_i off n hp
      cases hc : (Nat.beq v.cells.toList.length n && Nat.ble (off + v.cells.toList.length) cs.length) with
      | false => rw [hc] at h; cases h
      | true =>
        rw [hc] at h
        simp only [Bool.and_eq_true, Nat.beq_eq, Nat.ble_eq] at hc
        obtain ⟨h1, h2⟩ := hc
        have hf := foldl_put off v.cells.toList 0 cs (by omega)
        have ih := fill_eq rest _ ps r h
        simp only [Array.length_toList] at h1 h2
        have hz : v.cells.zipIdx.foldl (fun (a : Array Value) (x : Value × Nat) => a.setIfInBounds (off + x.2) x.1) cs.toArray = (putAt cs off v.cells.toList).toArray := by
          rw [← Array.foldl_toList, Array.toList_zipIdx]; exact hf
        have hpa : ps.toArray[i]? = some (off, n) := by simpa using hp
        simp only [Instr.fill, hpa]
        rw [if_neg (by simp; omega)]
        exact (congrArg (fun c => Instr.fill (ps.toArray[·]?) c rest) hz).trans ih
/-- The places of a struct's fields. -/
def Places (P : Program) (t : TypeId) (ps : List (Nat × Nat)) : Prop := ∃ fs, P.underlying t = some (.struct fs) ∧ ∀ w, (fs.mapM (fun f => do pure (f.offset, ← sizeOf f.type)) : Sem (Array (Nat × Nat))).run P w = .ok ps.toArray w
def evParts (E : Env) : List (Nat × Operand) → Option (List (Nat × Value))
  | [] => some []
  | (i, x) :: r => match ev E x, evParts E r with
    | some v, some vs => some ((i, v) :: vs)
    | _, _ => none
theorem AE.parts {a : Act} (h : AE X E a) : ∀ {xs : List (Nat × Operand)} {vs : List (Nat × Value)}, evParts E xs = some vs → xs.map (fun (i, x) => (i, a.eval x)) = vs
  | [], vs, hx => by simp [evParts] at hx; simp [hx]
  | (i, x) :: xs, vs, hx => by
    simp only [evParts] at hx
    split at hx
    · rename_i v vs' h1 h2
      cases hx
      simp [h.eval h1, h.parts h2]
    · cases hx
theorem R_build {t : TypeId} {parts : List (Nat × Operand)} {vs : List (Nat × Value)} {zs cs : List Value} {ps : List (Nat × Nat)} (ho : o.op = .build t parts.toArray) (hz : Zv X.P t zs) (hps : Places X.P t ps)
    (hv : evParts E parts = some vs) (hf : fillL zs ps vs = some cs) : Runs X o E H (.agg cs.toArray) :=
  ⟨(by rw [ho]; intro c e; cases e), fun a w ha _ => by
    obtain ⟨z, h1, h2⟩ := hz
    obtain ⟨fs, h3, h4⟩ := hps
    have hp := ha.parts hv
    have hfl := fill_eq vs zs ps cs hf
    have hpa : (parts.toArray.map fun (i, x) => (i, a.eval x)) = vs.toArray := by rw [← hp]; simp
    simp only [execOp, ho, hpa, Instr.build]
    simp only [Sem.run_bind, h2 w, Result.andThen_ok, run_underlying h3, h4 w, h1, hfl, Sem.run_pure]⟩
theorem R_field {t : TypeId} {x : Operand} {f off : Nat} {fs : Array Field} {fl : Field} {cs : List Value} {v : Value} (ho : o.op = .field t x f) (hu : X.P.underlying t = some (.struct fs)) (hf : fs[f]? = some fl)
    (hoff : fl.offset = off) (hs : Sc X.P fl.type) (hx : ev E x = some (.agg cs.toArray)) (hv : cs[off]? = some v) : Runs X o E H v :=
  ⟨(by rw [ho]; intro c e; cases e), fun a w ha _ => by
    simp [execOp, ho, ha.eval hx, Instr.field, run_underlying hu, hf, asAgg, part, (hs w).1, hoff, hv]⟩
theorem R_fieldA {t : TypeId} {x : Operand} {f off n : Nat} {fs : Array Field} {fl : Field} {cs vs : List Value} (ho : o.op = .field t x f) (hu : X.P.underlying t = some (.struct fs)) (hf : fs[f]? = some fl)
    (hoff : fl.offset = off) (hs : Ag X.P fl.type n) (hx : ev E x = some (.agg cs.toArray)) (hn : vs.length = n) (hv : At cs off vs) : Runs X o E H (.agg vs.toArray) :=
  ⟨(by rw [ho]; intro c e; cases e), fun a w ha _ => by
    have hsub : List.take n (List.drop off cs) = vs := by
      apply List.ext_getElem?
      intro j
      by_cases hj : j < n
      · rw [List.getElem?_take_of_lt hj, List.getElem?_drop]
        have hlt : j < vs.length := by omega
        rw [hv j vs[j] (by simp [hlt])]
        simp [hlt]
      · rw [List.getElem?_eq_none (by simp; omega), List.getElem?_eq_none (by omega)]
    simp [execOp, ho, ha.eval hx, Instr.field, run_underlying hu, hf, asAgg, part, (hs w).1, (hs w).2, hoff, hsub]⟩
/-! slices -/
theorem R_len {x : Operand} {t : TypeId} {u : TypeId} {ad : Option Addr} {n c : Nat} (ho : o.op = .call { callee := .builtin .len, args := #[x], argTypes := #[t] }) (hu : X.P.underlying t = some (.slice u))
    (hx : ev E x = some (.slice ad n c)) : Runs X o E H (.int .i64 n) :=
  ⟨(by rw [ho]; intro c e; cases e), fun a w ha _ => by
    have hl : (Builtin.len_ #[t] o.type #[.slice ad n c]).run X.P w = .ok (goInt n) w := by simp [Builtin.len_, run_underlying hu]
    simp [execOp, ho, resolve, ha.eval hx, invoke, builtin, hl, goInt]⟩
theorem R_cap {x : Operand} {t : TypeId} {u : TypeId} {ad : Option Addr} {n c : Nat} (ho : o.op = .call { callee := .builtin .cap, args := #[x], argTypes := #[t] }) (hu : X.P.underlying t = some (.slice u))
    (hx : ev E x = some (.slice ad n c)) : Runs X o E H (.int .i64 c) :=
  ⟨(by rw [ho]; intro c e; cases e), fun a w ha _ => by
    have hl : (Builtin.cap_ #[t] o.type #[.slice ad n c]).run X.P w = .ok (goInt c) w := by
      have h1 : X.P.elem t = u := by simp [Program.elem, hu]
      exact run_cap_slice (P := X.P) w t o.type ad n c (by rw [h1]; exact hu)
    simp [execOp, ho, resolve, ha.eval hx, invoke, builtin, hl, goInt]⟩
theorem R_indexAddr {t u : TypeId} {x y : Operand} {b k n c sz : Nat} {kk : IntKind} {i : Int} (ho : o.op = .indexAddr t x y) (hu : X.P.underlying t = some (.slice u)) (hs : ∀ w, (sizeOf u).run X.P w = .ok sz w)
    (hx : ev E x = some (.slice (some ⟨b, k, none⟩) n c)) (hy : ev E y = some (.int kk i)) (hi : 0 ≤ i ∧ i < n) : Runs X o E H (.pointer (some ⟨b, k + i.toNat * sz, none⟩)) :=
  ⟨(by rw [ho]; intro c e; cases e), fun a w ha _ => by
    simp [execOp, ho, ha.eval hx, ha.eval hy, Instr.indexAt, asIntOf, run_underlying hu, hi.1, hi.2, hs w, add_at]⟩
theorem R_indexAddrN {t u : TypeId} {x y : Operand} {b k n c sz : Nat} {kk : IntKind} {i : Nat} (ho : o.op = .indexAddr t x y) (hu : X.P.underlying t = some (.slice u)) (hs : ∀ w, (sizeOf u).run X.P w = .ok sz w)
    (hx : ev E x = some (.slice (some ⟨b, k, none⟩) n c)) (hy : ev E y = some (.int kk (i : Int))) (hi : i < n) : Runs X o E H (.pointer (some ⟨b, k + i * sz, none⟩)) :=
  R_indexAddr ho hu hs hx hy ⟨by omega, by omega⟩
theorem R_makeFunc {f : FuncId} {fs cs : List Operand} {va vb : List Value} (ho : o.op = .makeFunc (.func f) fs.toArray cs.toArray) (h1 : evs E fs = some va) (h2 : evs E cs = some vb) :
    Runs X o E H (.func (.func f) va.toArray vb.toArray) :=
  ⟨(by rw [ho]; intro c e; cases e), fun a w ha _ => by
    simp [execOp, ho, Instr.makeFunc, ha.evals h1, ha.evals h2]⟩
end
end Go.Proofs.Ytiokpmgbabpikaa
