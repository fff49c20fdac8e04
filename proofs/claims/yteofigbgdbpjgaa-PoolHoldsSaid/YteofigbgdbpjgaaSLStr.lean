/-
  Strings: their length, a byte of one, equality; the insert of a map literal; nil functions.
-/
import Derived.Test.YteofigbgdbpjgaaZB
import Derived.Laws.Strings
set_option linter.unusedVariables false
namespace Go.Proofs.Yteofigbgdbpjgaa
section
variable {X : Ctx} {E : Env} {H : Heap} {o : Oper} {t t' : TypeId} {x y : Operand}
/-- The bytes of a string. -/
abbrev byt (s : ByteArray) : List UInt8 := s.data.toList
theorem byt_len (s : ByteArray) : (byt s).length = s.size := by cases s; rfl
theorem byt_inj {a b : ByteArray} (h : byt a = byt b) : a = b := by
  cases a; cases b
  rename_i a b
  have : a = b := by
    cases a; cases b
    exact congrArg Array.mk h
  rw [this]
theorem byt_get {s : ByteArray} {i : Nat} {b : UInt8} (h : (byt s)[i]? = some b) : ∃ hi : i < s.size, s[i] = b := by
  obtain ⟨h1, h2⟩ := List.getElem?_eq_some_iff.1 h
  refine ⟨by rw [← byt_len]; exact h1, ?_⟩
  rw [← h2]; cases s; rfl
theorem R_lenStr (ho : o.op = .call { callee := .builtin .len, args := #[x], argTypes := #[t] }) (hu : X.P.underlying t = some .string) {s : ByteArray} (hx : Go.Proofs.Yteofigbgdbpjgaa.ev E x = some (.string s)) : Runs X o E H (.int .i64 (s.size : Int)) :=
  ⟨(by rw [ho]; intro c e; cases e), fun a w ha _ => by
    have hl := run_len_string (P := X.P) w t o.type s hu
    simp [execOp, ho, resolve, ha.eval hx, invoke, builtin, hl, goInt]⟩
theorem R_indexStr {k : IntKind} {i : Nat} {b : UInt8} {s : ByteArray} (ho : o.op = .index t x y) (hu : X.P.underlying t = some .string) (hx : Go.Proofs.Yteofigbgdbpjgaa.ev E x = some (.string s)) (hy : Go.Proofs.Yteofigbgdbpjgaa.ev E y = some (.int k (i : Int))) (hb : (byt s)[i]? = some b) : Runs X o E H (.int .u8 (b.toNat : Int)) :=
  ⟨(by rw [ho]; intro c e; cases e), fun a w ha _ => by
    obtain ⟨hi, rfl⟩ := byt_get hb
    have h : (Instr.index t (.string s) (.int k (i : Int))).run X.P w = .ok (.int .u8 (s[i].toNat : Int)) w := by
      rw [run_index_string (P := X.P) w t s k _ hu, dif_pos ⟨by omega, by omega⟩]
      simp
    simp [execOp, ho, ha.eval hx, ha.eval hy, h]⟩
theorem R_strEq {a b : ByteArray} (ho : o.op = .binOp .eql t x y t') (hu : X.P.underlying t = some .string) (hx : Go.Proofs.Yteofigbgdbpjgaa.ev E x = some (.string a)) (hy : Go.Proofs.Yteofigbgdbpjgaa.ev E y = some (.string b)) : Runs X o E H (.bool (decide (byt a = byt b))) :=
  R_bin ho hx hy (fun w => by simp [eqGuard]) fun w => by
    rw [binOp_string_eql, ByteArray.toList_eq, ByteArray.toList_eq, Sem.run_pure]
    congr 2
    rw [Bool.eq_iff_iff]; simp
theorem R_strNe {a b : ByteArray} (ho : o.op = .binOp .neq t x y t') (hu : X.P.underlying t = some .string) (hx : Go.Proofs.Yteofigbgdbpjgaa.ev E x = some (.string a)) (hy : Go.Proofs.Yteofigbgdbpjgaa.ev E y = some (.string b)) : Runs X o E H (.bool (decide (byt a ≠ byt b))) :=
  R_bin ho hx hy (fun w => by simp [eqGuard]) fun w => by
    rw [binOp_string_neq, ByteArray.toList_eq, ByteArray.toList_eq, Sem.run_pure]
    congr 2
    rw [Bool.eq_iff_iff]; simp
theorem eqi_nilf {P : Program} (w : World) (d : Nat) (t : TypeId) (u1 u2 : Array TypeId) (u3 : Bool) (h : P.underlying t = some (.func u1 u2 u3)) :
    (Op.equalIn (d + 1) t .nilFunc .nilFunc).run P w = .ok true w := by
  simp [Op.equalIn, run_underlying h]
/-- A function that is nil. -/
theorem R_nilFuncEq {u1 u2 : Array TypeId} {u3 : Bool} (ho : o.op = .binOp .eql t x (.const .nilFunc) t') (hu : X.P.underlying t = some (.func u1 u2 u3)) (hx : Go.Proofs.Yteofigbgdbpjgaa.ev E x = some .nilFunc) : Runs X o E H (.bool true) :=
  R_bin ho hx rfl (fun w => by simp [eqGuard]) fun w => by
    have h := eqi_nilf (P := X.P) w 9999 t u1 u2 u3 hu
    simp only [binOp, Op.equal, Op.maxDepth, Sem.run_bind, h, Result.andThen_ok, Sem.run_pure]
end
section
variable {X : Ctx} {E : Env} {H F : Heap} {o : Oper} {mt kt et : TypeId} {x y z : Operand} {b c : Nat} {es : Array MapEntry} {d : TypeDesc}
variable {κ α : Type} {ek : κ → Value} {ev : α → Value} {L : List (κ × α)}
theorem D_mapIns {k : κ} {v : α} (ho : o.op = .insert mt x y z) (hu : X.P.underlying mt = some (.map kt et)) (hk : X.P.underlying kt = some d) (hx : Go.Proofs.Yteofigbgdbpjgaa.ev E x = some (.map (some b))) (hy : Go.Proofs.Yteofigbgdbpjgaa.ev E y = some (ek k)) (hz : Go.Proofs.Yteofigbgdbpjgaa.ev E z = some (ev v)) (hp : Pull ⟨some b, .map es c⟩ H F) (hM : Mp d ek ev es L) (hin : k ∉ L.map (·.1)) :
    Does X o E H (fun _ H' => ∃ es' c', Mp d ek ev es' ((k, v) :: L) ∧ H' = ⟨some b, .map es' c'⟩ :: F) := by
  intro A w ha hw next Q kk
  refine ⟨about_true, ?_⟩
  rw [semAt_of (by rw [ho]; intro c e; cases e)]
  have hb := hw.mapAt (pull_mem hp)
  have h1 := (hM.none hin).1
  have hrun : (execOp A.eval o).run X.P w = .ok .skip { w with heap := w.heap.setIfInBounds b (.map (es.push { key := ek k, val := ev v, born := c }) (c + 1)) } := by
    simp [execOp, ho, ha.eval hx, ha.eval hy, ha.eval hz, Instr.mapUpdate, run_underlying hu, MapKept.run_getObj_map hb, MapKept.run_checkKey hk (hM.key k), MapKept.run_findKey hk h1, MapKept.run_setObj_map _ hb, Result.andThen]
  rw [hrun]
  exact kk undef _ _ ⟨_, _, hM.add v c hin, rfl⟩ (hw.turnMap hp)
end
end Go.Proofs.Yteofigbgdbpjgaa
