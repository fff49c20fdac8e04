/-
  Chapter 46 (pool), part PoolM: contracts of functions that the laws call, each for the heap it names.
-/
import Derived.Test.YteofigbgdbpjgaaRows
import Derived.Test.YteofigbgdbpjgaaZB
import Derived.Test.YteofigbgdbpjgaaSLMapJ
import Derived.Test.YteofigbgdbpjgaaSLScope
import Derived.Test.YteofigbgdbpjgaaTab
import Derived.Test.YteofigbgdbpjgaaPoolL
import Derived.Test.YteofigbgdbpjgaaFifo
import Derived.Test.YteofigbgdbpjgaaCmp
set_option linter.unusedVariables false
set_option maxRecDepth 20000
namespace Go.Proofs.Yteofigbgdbpjgaa


theorem int_key : KeyOk Try.prog 3 ekW := by
  refine ⟨fun em k w => MapKept.run_checkKey Try.underlying3 (show MapKept.IsKey (.int .i64) (.int .i64 k) from rfl) em 9999, fun k l w h => ?_, fun a b h => by simp only [ekW, Value.int.injEq, true_and] at h; exact h⟩
  rcases MapKept.findNow_spec (d := .int .i64) (k := ekW k) rfl l 0 (fun x hx => by obtain ⟨k', hk⟩ := h x hx; rw [hk]; rfl) with h1 | ⟨j, e, h1, h2, h3⟩
  · exact ⟨none, by simp [Instr.findKey, run_underlying Try.underlying3, h1.1, Result.andThen], .inl ⟨rfl, h1.2⟩⟩
  · exact ⟨some (j, e.val), by simp [Instr.findKey, run_underlying Try.underlying3, h1, Result.andThen], .inr ⟨j, e, rfl, h2, h3⟩⟩
abbrev pcH (s : PS) : List Value := [.int .i64 (s.op : Int), .int .i64 (s.most : Int), .int .u64 (s.keep : Int), .int .u64 (s.now : Int)]
abbrev pcT (m : PM) (n : Nat) : List Value := [ptrQ m.q, .map (some m.wm), sVal m.eb m.ek n m.ec]
abbrev pC (m : PM) (s : PS) : List Value := pcH s ++ (s.C.flatMap encC ++ pcT m s.E.length)
abbrev poP (m : PM) (s : PS) : Ent := ⟨some m.p, cl (pC m s) 71⟩
abbrev poW (m : PM) : Ent := ⟨some m.wm, .map m.wes m.wmc⟩
abbrev poV (m : PM) (s : PS) : Ent := ⟨m.eb, cl (m.epre ++ (s.E.flatMap encV ++ m.etl)) 44⟩
abbrev poH (m : PM) (s : PS) : Heap := poP m s :: (qH m.q m.qm (fq s.Q) s.n m.qes m.qmc ++ [poW m, poV m s])
abbrev ptrP (p : Nat) : Value := .pointer (some ⟨p, 0, none⟩)
structure PIs (m : PM) (s : PS) : Prop where
  cl : s.C.length = 64
  qk : Qk (fq s.Q) s.n
  qM : Mp (.int .u64) ekQ evQ m.qes (nds 0 0 (fq s.Q))
  wM : Mk ekW evW m.wes m.wmc (wq s.Q)
  eO : OwnS m.eb m.ek s.E.length m.ec 3 m.epre (s.E.flatMap encV) m.etl
  who : ∀ x ∈ s.Q, 0 ≤ x.who ∧ x.who ≤ 1000
  op : 1 ≤ s.op ∧ s.op ≤ 64
  most : s.most ≤ 64
  since : ∀ x ∈ s.C, x.since ≤ s.now
  now : s.now ≤ 18446744073709551614
  keep : 1 ≤ s.keep ∧ s.keep ≤ 18446744073709551615
  st : ∀ x ∈ s.C, 0 ≤ x.st ∧ x.st ≤ 3
theorem pc_len {C : List Cn} (h : C.length = 64) : (C.flatMap encC).length = 192 := by rw [fm_length encC3, h]
theorem pc_t {C : List Cn} (h : C.length = 64) {A T : List Value} (hA : A.length = 4) (j : Nat) : (A ++ (C.flatMap encC ++ T))[196 + j]? = T[j]? := by
  rw [List.getElem?_append_right (by omega), List.getElem?_append_right (by rw [pc_len h]; omega), pc_len h]
  congr 1; omega
theorem pc_at {C : List Cn} (h : C.length = 64) {A T : List Value} (hA : A.length = 4) : At (A ++ (C.flatMap encC ++ T)) 4 (C.flatMap encC) := fun j v hj => by
  have hl := (List.getElem?_eq_some_iff.1 hj).1
  rw [List.getElem?_append_right (by omega), show 4 + j - A.length = j from by omega, List.getElem?_append_left hl]; exact hj
theorem pc_put {C : List Cn} {A T vs : List Value} (hA : A.length = 4) {i : Nat} {x y : Cn} (hx : C[i]? = some x) (hv : vs = encC y) : putAt (A ++ (C.flatMap encC ++ T)) (0 + 4 + i * 3) vs = A ++ ((C.set i y).flatMap encC ++ T) := by
  subst hv
  rw [Nat.zero_add, ← hA, putAt_append]
  have := fm_put encC3 (y := y) hx (j := 0) (vs := encC y) (by simp) rfl T
  rw [Nat.add_zero] at this
  rw [this]
theorem pc_room {C : List Cn} (h : C.length = 64) {A T : List Value} (hA : A.length = 4) {i : Nat} (hi : i < 64) : 0 + 4 + i * 3 + 3 ≤ (A ++ (C.flatMap encC ++ T)).length := by
  rw [List.length_append, List.length_append, pc_len h]; omega
theorem pc_get {C : List Cn} {A T : List Value} (hA : A.length = 4) {i : Nat} {x : Cn} (hx : C[i]? = some x) {j : Nat} (hj : j < 3) : (A ++ (C.flatMap encC ++ T))[0 + 4 + i * 3 + j]? = (encC x)[j]? := by
  rw [List.getElem?_append_right (by omega), show 0 + 4 + i * 3 + j - A.length = i * 3 + j from by omega]
  exact fm_get encC3 hx hj T
theorem pc_atC {C : List Cn} {A T : List Value} (hA : A.length = 4) {i : Nat} {x : Cn} (hx : C[i]? = some x) : At (A ++ (C.flatMap encC ++ T)) (4 + i * 3) (encC x) := fun j v hj => by
  have hl := (List.getElem?_eq_some_iff.1 hj).1
  rw [List.getElem?_append_right (by omega), show 4 + i * 3 + j - A.length = i * 3 + j from by omega, fm_get encC3 hx hl T]; exact hj
theorem pc_putT {C : List Cn} (h : C.length = 64) {A T : List Value} (hA : A.length = 4) (j : Nat) (v : Value) : putAt (A ++ (C.flatMap encC ++ T)) (196 + j) [v] = A ++ (C.flatMap encC ++ putAt T j [v]) := by
  rw [show 196 + j = A.length + ((C.flatMap encC).length + j) from by rw [pc_len h]; omega, putAt_append, putAt_append]
theorem pc_roomT {C : List Cn} (h : C.length = 64) {A T : List Value} (hA : A.length = 4) {j : Nat} (hj : j < T.length) : 196 + j + 1 ≤ (A ++ (C.flatMap encC ++ T)).length := by
  rw [List.length_append, List.length_append, pc_len h]; omega
theorem PIs.nd {m : PM} {s : PS} (h : PIs m s) : (s.Q.map (·.who)).Nodup := by
  have := h.wM.nodup
  rwa [List.map_map] at this
theorem pigeonP {α : Type} [DecidableEq α] : ∀ (ks m : List α), ks.Nodup → (∀ k ∈ ks, k ∈ m) → ks.length ≤ m.length
  | [], m, _, _ => Nat.zero_le _
  | k :: ks, m, hn, h => by
    rw [List.nodup_cons] at hn
    have := pigeonP ks (m.erase k) hn.2 (fun x hx => (List.mem_erase_of_ne (fun e => hn.1 (by rw [← e]; exact hx))).2 (h x (List.mem_cons_of_mem _ hx)))
    rw [List.length_erase_of_mem (h k (List.mem_cons_self ..))] at this
    have h2 := List.length_pos_of_mem (h k (List.mem_cons_self ..))
    rw [List.length_cons]; omega
theorem who_len (Q : List Qp) (hn : (Q.map (·.who)).Nodup) (h : ∀ x ∈ Q, 0 ≤ x.who ∧ x.who ≤ 1000) : Q.length ≤ 1001 := by
  have := pigeonP (Q.map (·.who)) ((List.range 1001).map (fun i : Nat => (i : Int))) hn (fun k hk => by
    obtain ⟨x, hx, rfl⟩ := List.mem_map.1 hk
    have := h x hx
    exact List.mem_map.2 ⟨x.who.toNat, List.mem_range.2 (by omega), by omega⟩)
  simpa using this
theorem PIs.ql {m : PM} {s : PS} (h : PIs m s) : s.Q.length ≤ 1001 := who_len s.Q h.nd h.who

end Go.Proofs.Yteofigbgdbpjgaa
