/-
  A cut between two pieces of code that keeps what the first piece does not write, and the blocks that it does not turn.
-/
import Derived.Test.YtelmlkdibcdebaaGreatY06
import Derived.Test.YtelmlkdibcdebaaGreatRows
set_option linter.unusedVariables false
set_option maxRecDepth 20000
set_option maxHeartbeats 8000000
namespace Go.Proofs.YtelmlkdibcdebaaGreat
section
open Go.ChangeShapes Go.WideShapes Go.ChangeAt Go.RowKit Go.Joins Go.Deep
theorem decI {H : Type} {enc : TypeId × Value → H} {W : World} {sp : Nat → Bool} {held : Bool} (m : Nat) (cs : List Value) (y : DataW H × List MemPlace) (h : DataW.trod enc Tryz.prog W 0 sp held m 3 cs = some y) : ∃ x : Int, cs = encI x ∧ True := by
 obtain ⟨n, rfl, _, w⟩ := DataW.trod_int Tryz.underlying3 h
 exact ⟨n, rfl, trivial⟩
theorem decS {H : Type} {enc : TypeId × Value → H} {W : World} {sp : Nat → Bool} {held : Bool} (m : Nat) (cs : List Value) (y : DataW H × List MemPlace) (h : DataW.trod enc Tryz.prog W 0 sp held m 30 cs = some y) :
  ∃ (x0 : Int) (oa1 : Option Addr) (en1 : Ent) (l1 : List Int) (c1 : Nat) (x2 : Int) (x3 : Int) (x4 : Int) (x5 : Int) (x6 : Int) (x7 : Int) (x8 : Int) (x9 : Int) (x10 : Int) (x11 : Int) (x12 : Int) (x13 : Int), cs = [.int .i64 x0, .slice oa1 l1.length c1, .int .i64 x2, .int .u64 x3, .int .i64 x4, .int .i64 x5, .int .u64 x6, .int .u64 x7, .int .u64 x8, .int .i64 x9, .int .i64 x10, .int .i64 x11, .int .i64 x12, .int .u32 x13] ∧ (Lit.int .i64 x0).wf = true ∧ (Lit.int .i64 x2).wf = true ∧ (Lit.int .u64 x3).wf = true ∧ (Lit.int .i64 x4).wf = true ∧ (Lit.int .i64 x5).wf = true ∧ (Lit.int .u64 x6).wf = true ∧ (Lit.int .u64 x7).wf = true ∧ (Lit.int .u64 x8).wf = true ∧ (Lit.int .i64 x9).wf = true ∧ (Lit.int .i64 x10).wf = true ∧ (Lit.int .i64 x11).wf = true ∧ (Lit.int .i64 x12).wf = true ∧ (Lit.int .u32 x13).wf = true ∧ Arg oa1 en1 1 encI l1 ∧ en1.ok W ∧ l1.length ≤ maxLen ∧ (∀ y ∈ l1, (fun _ => True) y) ∧ True := by
 have hl : cs.length = 14 := (trod_len Tryz.underlying30 h).trans (by kernel_rfl)
 have s3 : Tryz.prog.cellsOf 3 = 1 := by kernel_rfl
 have s22 : Tryz.prog.cellsOf 22 = 1 := by kernel_rfl
 have s23 : Tryz.prog.cellsOf 23 = 1 := by kernel_rfl
 have s25 : Tryz.prog.cellsOf 25 = 1 := by kernel_rfl
 have s26 : Tryz.prog.cellsOf 26 = 1 := by kernel_rfl
 have s28 : Tryz.prog.cellsOf 28 = 7 := by kernel_rfl
 obtain ⟨ng0, yg0, g0⟩ := trod_fld Tryz.underlying30 h (i := 0) rfl
 obtain ⟨x0, e0, _, w0⟩ := DataW.trod_int Tryz.underlying22 g0
 have e0 : (cs.drop 0).take (Tryz.prog.cellsOf 22) = [.int .i64 x0] := e0
 simp only [s22] at e0
 have k0 : cs.drop 0 = .int .i64 x0 :: cs.drop 1 := drop_cons e0
 obtain ⟨ng1, yg1, g1⟩ := trod_fld Tryz.underlying30 h (i := 1) rfl
 obtain ⟨oa1, en1, l1, c1, e1, ha1, ho1, hb1, hg1⟩ := open_argT (enc' := encI) (G := fun _ => True) (sz := 1) Tryz.underlying23 (by kernel_rfl) (by omega) (fun m cs y h => decI m cs y h) g1
 have e1 : (cs.drop 1).take (Tryz.prog.cellsOf 23) = [.slice oa1 l1.length c1] := e1
 simp only [s23] at e1
 have k1 : cs.drop 1 = .slice oa1 l1.length c1 :: cs.drop 2 := drop_cons e1
 obtain ⟨ng2, yg2, g2⟩ := trod_fld Tryz.underlying30 h (i := 2) rfl
 obtain ⟨x2, e2, _, w2⟩ := DataW.trod_int Tryz.underlying3 g2
 have e2 : (cs.drop 2).take (Tryz.prog.cellsOf 3) = [.int .i64 x2] := e2
 simp only [s3] at e2
 have k2 : cs.drop 2 = .int .i64 x2 :: cs.drop 3 := drop_cons e2
 obtain ⟨ng3, yg3, g3⟩ := trod_fld Tryz.underlying30 h (i := 3) rfl
 obtain ⟨x3, e3, _, w3⟩ := DataW.trod_int Tryz.underlying25 g3
 have e3 : (cs.drop 3).take (Tryz.prog.cellsOf 25) = [.int .u64 x3] := e3
 simp only [s25] at e3
 have k3 : cs.drop 3 = .int .u64 x3 :: cs.drop 4 := drop_cons e3
 obtain ⟨ng4, yg4, g4⟩ := trod_fld Tryz.underlying30 h (i := 4) rfl
 obtain ⟨x4, e4, _, w4⟩ := DataW.trod_int Tryz.underlying3 g4
 have e4 : (cs.drop 4).take (Tryz.prog.cellsOf 3) = [.int .i64 x4] := e4
 simp only [s3] at e4
 have k4 : cs.drop 4 = .int .i64 x4 :: cs.drop 5 := drop_cons e4
 obtain ⟨ng5, yg5, g5⟩ := trod_fld Tryz.underlying30 h (i := 5) rfl
 obtain ⟨x5, e5, _, w5⟩ := DataW.trod_int Tryz.underlying3 g5
 have e5 : (cs.drop 5).take (Tryz.prog.cellsOf 3) = [.int .i64 x5] := e5
 simp only [s3] at e5
 have k5 : cs.drop 5 = .int .i64 x5 :: cs.drop 6 := drop_cons e5
 obtain ⟨ng6, yg6, g6⟩ := trod_fld Tryz.underlying30 h (i := 6) rfl
 obtain ⟨x6, e6, _, w6⟩ := DataW.trod_int Tryz.underlying25 g6
 have e6 : (cs.drop 6).take (Tryz.prog.cellsOf 25) = [.int .u64 x6] := e6
 simp only [s25] at e6
 have k6 : cs.drop 6 = .int .u64 x6 :: cs.drop 7 := drop_cons e6
 obtain ⟨ng7, yg7, g7⟩ := trod_fld Tryz.underlying30 h (i := 7) rfl
 obtain ⟨ng7_0, yg7_0, g7_0⟩ := trod_fld Tryz.underlying28 g7 (i := 0) rfl
 obtain ⟨x7, e7, _, w7⟩ := DataW.trod_int Tryz.underlying25 g7_0
 have e7 : (((cs.drop 7).take (Tryz.prog.cellsOf 28)).drop 0).take (Tryz.prog.cellsOf 25) = [.int .u64 x7] := e7
 simp only [s25, s28] at e7
 rw [sub_at cs 7 7 0 1 (by decide)] at e7
 have k7 : cs.drop 7 = .int .u64 x7 :: cs.drop 8 := drop_cons e7
 obtain ⟨ng7_1, yg7_1, g7_1⟩ := trod_fld Tryz.underlying28 g7 (i := 1) rfl
 obtain ⟨x8, e8, _, w8⟩ := DataW.trod_int Tryz.underlying25 g7_1
 have e8 : (((cs.drop 7).take (Tryz.prog.cellsOf 28)).drop 1).take (Tryz.prog.cellsOf 25) = [.int .u64 x8] := e8
 simp only [s25, s28] at e8
 rw [sub_at cs 7 7 1 1 (by decide)] at e8
 have k8 : cs.drop 8 = .int .u64 x8 :: cs.drop 9 := drop_cons e8
 obtain ⟨ng7_2, yg7_2, g7_2⟩ := trod_fld Tryz.underlying28 g7 (i := 2) rfl
 obtain ⟨x9, e9, _, w9⟩ := DataW.trod_int Tryz.underlying3 g7_2
 have e9 : (((cs.drop 7).take (Tryz.prog.cellsOf 28)).drop 2).take (Tryz.prog.cellsOf 3) = [.int .i64 x9] := e9
 simp only [s3, s28] at e9
 rw [sub_at cs 7 7 2 1 (by decide)] at e9
 have k9 : cs.drop 9 = .int .i64 x9 :: cs.drop 10 := drop_cons e9
 obtain ⟨ng7_3, yg7_3, g7_3⟩ := trod_fld Tryz.underlying28 g7 (i := 3) rfl
 obtain ⟨x10, e10, _, w10⟩ := DataW.trod_int Tryz.underlying3 g7_3
 have e10 : (((cs.drop 7).take (Tryz.prog.cellsOf 28)).drop 3).take (Tryz.prog.cellsOf 3) = [.int .i64 x10] := e10
 simp only [s3, s28] at e10
 rw [sub_at cs 7 7 3 1 (by decide)] at e10
 have k10 : cs.drop 10 = .int .i64 x10 :: cs.drop 11 := drop_cons e10
 obtain ⟨ng7_4, yg7_4, g7_4⟩ := trod_fld Tryz.underlying28 g7 (i := 4) rfl
 obtain ⟨x11, e11, _, w11⟩ := DataW.trod_int Tryz.underlying3 g7_4
 have e11 : (((cs.drop 7).take (Tryz.prog.cellsOf 28)).drop 4).take (Tryz.prog.cellsOf 3) = [.int .i64 x11] := e11
 simp only [s3, s28] at e11
 rw [sub_at cs 7 7 4 1 (by decide)] at e11
 have k11 : cs.drop 11 = .int .i64 x11 :: cs.drop 12 := drop_cons e11
 obtain ⟨ng7_5, yg7_5, g7_5⟩ := trod_fld Tryz.underlying28 g7 (i := 5) rfl
 obtain ⟨x12, e12, _, w12⟩ := DataW.trod_int Tryz.underlying3 g7_5
 have e12 : (((cs.drop 7).take (Tryz.prog.cellsOf 28)).drop 5).take (Tryz.prog.cellsOf 3) = [.int .i64 x12] := e12
 simp only [s3, s28] at e12
 rw [sub_at cs 7 7 5 1 (by decide)] at e12
 have k12 : cs.drop 12 = .int .i64 x12 :: cs.drop 13 := drop_cons e12
 obtain ⟨ng7_6, yg7_6, g7_6⟩ := trod_fld Tryz.underlying28 g7 (i := 6) rfl
 obtain ⟨x13, e13, _, w13⟩ := DataW.trod_int Tryz.underlying26 g7_6
 have e13 : (((cs.drop 7).take (Tryz.prog.cellsOf 28)).drop 6).take (Tryz.prog.cellsOf 26) = [.int .u32 x13] := e13
 simp only [s26, s28] at e13
 rw [sub_at cs 7 7 6 1 (by decide)] at e13
 have k13 : cs.drop 13 = .int .u32 x13 :: cs.drop 14 := drop_cons e13
 exact ⟨x0, oa1, en1, l1, c1, x2, x3, x4, x5, x6, x7, x8, x9, x10, x11, x12, x13, (List.drop_zero (l := cs)).symm.trans (k0.trans (congrArg (List.cons _) (k1.trans (congrArg (List.cons _) (k2.trans (congrArg (List.cons _) (k3.trans (congrArg (List.cons _) (k4.trans (congrArg (List.cons _) (k5.trans (congrArg (List.cons _) (k6.trans (congrArg (List.cons _) (k7.trans (congrArg (List.cons _) (k8.trans (congrArg (List.cons _) (k9.trans (congrArg (List.cons _) (k10.trans (congrArg (List.cons _) (k11.trans (congrArg (List.cons _) (k12.trans (congrArg (List.cons _) (k13.trans (congrArg (List.cons _) (List.drop_eq_nil_of_le (by omega)))))))))))))))))))))))))))))), w0, w2, w3, w4, w5, w6, w7, w8, w9, w10, w11, w12, w13, ha1, ho1, hb1, hg1, trivial⟩
end
section
open Go.ChangeShapes Go.WideShapes Go.ChangeAt Go.RowKit Go.Joins Go.Deep
theorem two_or {W : World} {e1 e2 : Ent} (h1 : e1.ok W) (h2 : e2.ok W) : HOK [e1, e2] W ∨ e1 = e2 := by
 have hall : ∀ x ∈ [e1, e2], x.ok W := fun x hx => by
  simp only [List.mem_cons, List.not_mem_nil, or_false] at hx
  rcases hx with rfl | rfl
  ·exact h1
  ·exact h2
 obtain ⟨b1, o1⟩ := e1
 obtain ⟨b2, o2⟩ := e2
 cases b1 with
 | none => exact .inl ⟨by cases b2 <;> simp [keys], hall⟩
 | some b1 =>
  cases b2 with
  | none => exact .inl ⟨by simp [keys], hall⟩
  | some b2 =>
   by_cases e : b1 = b2
   ·subst e
    have h3 : W.heap[b1]? = some o1 := h1
    have h4 : W.heap[b1]? = some o2 := h2
    rw [h3] at h4
    obtain rfl := Option.some.inj h4
    exact .inr rfl
   ·exact .inl ⟨by simp [keys, e], hall⟩
theorem decA9 {H : Type} {enc : TypeId × Value → H} {W : World} {sp : Nat → Bool} {held : Bool} (m : Nat) (cs : List Value) (y : DataW H × List MemPlace) (h : DataW.trod enc Tryz.prog W 0 sp held m 43 cs = some y) : ∃ x : A9, cs = encA9 x ∧ x.now ≤ 18446744073709551615 := by
 obtain ⟨wt, n, now9, dl9, key, good, rfl, _, _, wc, wd, _⟩ := decA m cs y h
 obtain ⟨now, rfl, hnow⟩ := wf_u64 wc
 obtain ⟨dl, rfl, hdl⟩ := wf_u64 wd
 exact ⟨⟨wt, n, now, dl, key, good⟩, rfl, hnow⟩
end
def acS (i : Nat) (S : List Ss) : List Ss := S.filter fun y => decide (y.st = 4 ∧ y.be = (i : Int))
def diS (i : Nat) (S : List Ss) : List Ss := S.filter fun y => decide (y.st = 3 ∧ y.be = (i : Int))
def usr (i : Nat) (S : List Ss) (E : List Pv) : List Int := (acS i S).map (·.cn) ++ (E.filter fun e => decide (e.k = 1)).map (·.c)
def dlr (i : Nat) (S : List Ss) (E : List Pv) : List (Int × Int) := (diS i S).map (fun y => (y.cn, y.num)) ++ (E.filter fun e => decide (e.k = 2)).map fun e => (e.c, e.who)
def IsU (C : List Cn) (c : Int) : Prop := ∃ (k : Nat) (x : Cn), c = (k : Int) ∧ C[k]? = some x ∧ x.st = 2
def IsD (C : List Cn) (c w : Int) : Prop := ∃ (k : Nat) (x : Cn), c = (k : Int) ∧ C[k]? = some x ∧ x.st = 1 ∧ x.who = w
structure SP (D : Nat) (S : List Ss) (i : Nat) (s : PS) : Prop where
 us : (usr i S s.E).Nodup
 u2 : ∀ c ∈ usr i S s.E, IsU s.C c
 d1 : ∀ p ∈ dlr i S s.E, IsD s.C p.1 p.2
 wq : ∀ y ∈ S, y.st = 2 → y.be = (i : Int) → y.num ∈ s.pend
 qd : ∀ q ∈ s.Q, q.dl ≤ D
def Unref (i : Nat) (S : List Ss) (s : PS) (k : Nat) : Prop := (k : Int) ∉ usr i S s.E ∧ ∀ p ∈ dlr i S s.E, p.1 ≠ (k : Int)
theorem SP.unref {D : Nat} {S : List Ss} {i : Nat} {s : PS} (h : SP D S i s) {k : Nat} {x : Cn} (hx : s.C[k]? = some x) (h1 : x.st ≠ 1) (h2 : x.st ≠ 2) : Unref i S s k :=
 ⟨fun hc => by
  obtain ⟨k2, x2, e, hx2, hs⟩ := h.u2 _ hc
  obtain rfl : k = k2 := by omega
  rw [hx] at hx2; cases hx2; exact h2 hs, fun p hp e => by
  obtain ⟨k2, x2, e2, hx2, hs, _⟩ := h.d1 p hp
  obtain rfl : k = k2 := by omega
  rw [hx] at hx2; cases hx2; exact h1 hs⟩
theorem IsU.set {C : List Cn} {c : Int} (h : IsU C c) {k : Nat} (hk : c ≠ (k : Int)) (v : Cn) : IsU (C.set k v) c := by
 obtain ⟨k2, x, e, hx, hs⟩ := h
 exact ⟨k2, x, e, by rw [List.getElem?_set_ne (by rintro rfl; exact hk e)]; exact hx, hs⟩
theorem IsD.set {C : List Cn} {c w : Int} (h : IsD C c w) {k : Nat} (hk : c ≠ (k : Int)) (v : Cn) : IsD (C.set k v) c w := by
 obtain ⟨k2, x, e, hx, hs⟩ := h
 exact ⟨k2, x, e, by rw [List.getElem?_set_ne (by rintro rfl; exact hk e)]; exact hx, hs⟩
theorem SP.set {D : Nat} {S : List Ss} {i : Nat} {s : PS} (h : SP D S i s) {k : Nat} (hu : Unref i S s k) (v : Cn) : SP D S i (s.set k v) :=
 ⟨h.us, fun c hc => (h.u2 c hc).set (fun e => hu.1 (e ▸ hc)) v, fun p hp => (h.d1 p hp).set (hu.2 p hp) v, h.wq, h.qd⟩
theorem SP.at_ {D : Nat} {S : List Ss} {i : Nat} {s : PS} (h : SP D S i s) (now : Nat) : SP D S i (s.at_ now) := ⟨h.us, h.u2, h.d1, h.wq, h.qd⟩
theorem usr_app (i : Nat) (S : List Ss) (E : List Pv) (e : Pv) : usr i S (E ++ [e]) = usr i S E ++ (if e.k = 1 then [e.c] else []) := by
 unfold usr
 rw [List.filter_append, List.map_append, ← List.append_assoc]
 by_cases h : e.k = 1
 ·rw [if_pos h, List.filter_cons_of_pos (by simpa using h)]; rfl
 ·rw [if_neg h, List.filter_cons_of_neg (by simpa using h)]; rfl
theorem dlr_app (i : Nat) (S : List Ss) (E : List Pv) (e : Pv) : dlr i S (E ++ [e]) = dlr i S E ++ (if e.k = 2 then [(e.c, e.who)] else []) := by
 unfold dlr
 rw [List.filter_append, List.map_append, ← List.append_assoc]
 by_cases h : e.k = 2
 ·rw [if_pos h, List.filter_cons_of_pos (by simpa using h)]; rfl
 ·rw [if_neg h, List.filter_cons_of_neg (by simpa using h)]; rfl
theorem nodup_snoc {α : Type} {l : List α} {a : α} (h : l.Nodup) (ha : a ∉ l) : (l ++ [a]).Nodup := by
 rw [List.nodup_append]
 exact ⟨h, by simp, fun x hx y hy e => ha (by rw [List.mem_singleton.1 hy] at e; rw [← e]; exact hx)⟩
theorem SP.ev {D : Nat} {S : List Ss} {i : Nat} {s s' : PS} (h : SP D S i s) {e : Pv} (hC : s'.C = s.C) (hE : s'.E = s.E ++ [e]) (hp : ∀ w ∈ s.pend, w ∈ s'.pend) (hq : ∀ q ∈ s'.Q, q ∈ s.Q) (h1 : e.k = 1 → e.c ∉ usr i S s.E ∧ IsU s.C e.c) (h2 : e.k = 2 → IsD s.C e.c e.who) : SP D S i s' := by
 refine ⟨?_, ?_, ?_, fun y hy a b => hp _ (h.wq y hy a b), fun q hq9 => h.qd q (hq q hq9)⟩
 ·rw [hE, usr_app]
  split
  ·rename_i hk; exact nodup_snoc h.us (h1 hk).1
  ·rw [List.append_nil]; exact h.us
 ·rw [hE, usr_app, hC]
  intro c hc
  rcases List.mem_append.1 hc with hc | hc
  ·exact h.u2 c hc
  ·split at hc
   ·rename_i hk; rw [List.mem_singleton.1 hc]; exact (h1 hk).2
   ·cases hc
 ·rw [hE, dlr_app, hC]
  intro p hp9
  rcases List.mem_append.1 hp9 with hp9 | hp9
  ·exact h.d1 p hp9
  ·split at hp9
   ·rename_i hk; rw [List.mem_singleton.1 hp9]; exact h2 hk
   ·cases hp9
theorem SP.next {D : Nat} {S : List Ss} {i : Nat} {s : PS} (h : SP D S i s) (hl : s.C.length = 64) (ho : s.op ≤ 64) : SP D S i s.next := by
 cases hQ : s.Q with
 | nil => rw [PS.next_nil hQ]; exact h
 | cons a r =>
  cases hr : s.room with
  | false => rw [PS.next_full hr]; exact h
  | true =>
   obtain ⟨_, hf, x, hx, hst⟩ := PS.free_of (PS.room_ne hr hl ho)
   have hu := h.unref hx (by rw [hst]; decide) (by rw [hst]; decide)
   have h1 := h.set hu ⟨1, a.who, 0⟩
   have hn := PS.next_ok hQ hr
   have hp := (opd_next s).pend
   refine h1.ev (e := ⟨2, a.who, (s.free : Int)⟩) (by rw [hn]; rfl) (by rw [hn]; rfl) (fun w hw => hp.mem_iff.2 hw) (fun q hq => by rw [hn] at hq; exact List.mem_of_mem_drop (show q ∈ s.Q.drop 1 from hq)) (fun hk => absurd hk (show ¬ (2 : Int) = 1 by decide)) fun _ => ⟨s.free, ⟨1, a.who, 0⟩, rfl, ?_, rfl, rfl⟩
   show (s.C.set s.free _)[s.free]? = _
   exact List.getElem?_set_self hf
theorem SP.lose {D : Nat} {S : List Ss} {i : Nat} {s : PS} (h : SP D S i s) (hl : s.C.length = 64) (ho : s.op ≤ 64) {k : Nat} (hu : Unref i S s k) : SP D S i (s.lose k) :=
 (h.set hu ⟨0, 0, 0⟩).next (by show (s.C.set _ _).length = 64; rw [List.length_set]; exact hl) ho
theorem SP.tell5 {D : Nat} {S : List Ss} {i : Nat} {s : PS} (h : SP D S i s) (c : Int) : SP D S i (s.tell 5 (-1) c) :=
 h.ev (e := ⟨5, -1, c⟩) rfl rfl (fun w hw => (opd_tell5 s c).pend.mem_iff.2 hw) (fun q hq => hq) (fun e => absurd e (show ¬ (5 : Int) = 1 by decide)) (fun e => absurd e (show ¬ (5 : Int) = 2 by decide))
theorem Unref.tell5 {i : Nat} {S : List Ss} {s : PS} {k : Nat} (h : Unref i S s k) (c : Int) : Unref i S (s.tell 5 (-1) c) k := by
 have e1 : usr i S (s.tell 5 (-1) c).E = usr i S s.E := by show usr i S (s.E ++ [_]) = _; rw [usr_app, if_neg (show ¬ (5 : Int) = 1 by decide), List.append_nil]
 have e2 : dlr i S (s.tell 5 (-1) c).E = dlr i S s.E := by show dlr i S (s.E ++ [_]) = _; rw [dlr_app, if_neg (show ¬ (5 : Int) = 2 by decide), List.append_nil]
 unfold Unref
 rw [e1, e2]; exact h
theorem next_C {s : PS} (hl : s.C.length = 64) (ho : s.op ≤ 64) {k : Nat} {x : Cn} (hx : s.C[k]? = some x) (h0 : x.st ≠ 0) : s.next.C[k]? = some x := by
 cases hQ : s.Q with
 | nil => rw [PS.next_nil hQ]; exact hx
 | cons a r =>
  cases hr : s.room with
  | false => rw [PS.next_full hr]; exact hx
  | true =>
   obtain ⟨_, hf, y, hy, hst⟩ := PS.free_of (PS.room_ne hr hl ho)
   rw [PS.next_ok hQ hr]
   show (s.C.set s.free _)[k]? = _
   rw [List.getElem?_set_ne (by rintro rfl; rw [hy] at hx; cases hx; exact h0 hst)]; exact hx
theorem next_L (s : PS) : s.next.C.length = s.C.length ∧ s.next.op = s.op := by
 unfold PS.next
 split
 ·exact ⟨rfl, rfl⟩
 ·split
  ·exact ⟨by show (s.C.set _ _).length = _; rw [List.length_set], rfl⟩
  ·exact ⟨rfl, rfl⟩
theorem SP.shuts {D : Nat} {S : List Ss} {i : Nat} : ∀ (l : List Int) {s : PS}, SP D S i s → s.C.length = 64 → s.op ≤ 64 → l.Nodup → (∀ c ∈ l, ∃ (k : Nat) (x : Cn), c = (k : Int) ∧ s.C[k]? = some x ∧ x.st = 3) → SP D S i (l.foldl PS.shut s)
 | [], s, h, _, _, _, _ => h
 | c :: r, s, h, hl, ho, hn, hi => by
  obtain ⟨k, x, rfl, hx, hst⟩ := hi c (List.mem_cons_self ..)
  have hu := (h.unref hx (by rw [hst]; decide) (by rw [hst]; decide)).tell5 (k : Int)
  have hE : s.shut (k : Int) = (s.tell 5 (-1) (k : Int)).lose k := pshut_eq s k
  have h1 : SP D S i (s.shut (k : Int)) := by rw [hE]; exact (h.tell5 _).lose hl ho hu
  have hL : (s.shut (k : Int)).C.length = 64 ∧ (s.shut (k : Int)).op ≤ 64 := by
   rw [hE]
   have := next_L ((s.tell 5 (-1) (k : Int)).set k ⟨0, 0, 0⟩)
   exact ⟨this.1.trans (by show (s.C.set _ _).length = 64; rw [List.length_set]; exact hl), by show PS.op _ ≤ 64; unfold PS.lose; rw [this.2]; exact ho⟩
  refine SP.shuts r h1 hL.1 hL.2 (List.nodup_cons.1 hn).2 fun c hc => ?_
  obtain ⟨k2, x2, rfl, hx2, hst2⟩ := hi c (List.mem_cons_of_mem _ hc)
  have hne : k ≠ k2 := fun e => (List.nodup_cons.1 hn).1 (by rw [e]; exact hc)
  refine ⟨k2, x2, rfl, ?_, hst2⟩
  rw [hE]
  exact next_C (s := (s.tell 5 (-1) (k : Int)).set k ⟨0, 0, 0⟩) (by show (s.C.set _ _).length = 64; rw [List.length_set]; exact hl) ho (by show (s.C.set k _)[k2]? = _; rw [List.getElem?_set_ne hne]; exact hx2) (by rw [hst2]; decide)
theorem SP.tmos {D : Nat} {S : List Ss} {i : Nat} : ∀ (l : List Qp) {s : PS}, SP D S i s → (l.map (·.who)).Nodup → (∀ x ∈ l, x ∈ s.Q) → (s.Q.map (·.who)).Nodup → SP D S i (l.foldl PS.tmo s)
 | [], s, h, _, _, _ => h
 | x :: r, s, h, h1, h2, h3 => by
  rw [List.map_cons, List.nodup_cons] at h1
  have hx := h2 x (List.mem_cons_self ..)
  refine SP.tmos r (s := s.tmo x) (h.ev (e := ⟨4, x.who, -1⟩) rfl rfl (fun w hw => (opd_tmo s hx h3).pend.mem_iff.2 hw) (fun q hq => (List.mem_filter.1 hq).1) (fun e => absurd e (show ¬ (4 : Int) = 1 by decide)) (fun e => absurd e (show ¬ (4 : Int) = 2 by decide))) h1.2 (fun y hy => ?_) ?_
  ·show y ∈ s.Q.filter _
   exact List.mem_filter.2 ⟨h2 y (List.mem_cons_of_mem _ hy), decide_eq_true fun e => h1.1 (by rw [← e]; exact List.mem_map_of_mem hy)⟩
  ·show ((s.Q.filter _).map _).Nodup
   exact h3.sublist ((List.filter_sublist ..).map _)
theorem tmo_op : ∀ (l : List Qp) (s : PS), (l.foldl PS.tmo s).op = s.op
 | [], s => rfl
 | a :: r, s => tmo_op r (s.tmo a)
theorem old_nodup9 (s : PS) (now : Nat) : (s.old now).Nodup := by
 refine (List.mergeSort_perm _ _).nodup_iff.2 (List.Nodup.sublist (List.filter_sublist ..) ?_)
 exact ((allF_srt 3 s.C 0).1).imp fun h e => by omega
theorem SP.adv {D : Nat} {S : List Ss} {i : Nat} {s : PS} (h : SP D S i s) (hp : PH s) (hn : (s.Q.map (·.who)).Nodup) (now : Nat) : SP D S i (s.advance now) := by
 by_cases hm : s.may true now = 0
 ·rw [adv_ok hm]
  have h1 : SP D S i (s.adv1 now) := SP.tmos (s.late now) (h.at_ now) (late_nodup hn now) (fun x hx => (late_mem hx).1) hn
  obtain ⟨c1, _, _, _⟩ := tmo_rest (s.late now) (s.at_ now)
  have hC : (s.adv1 now).C = s.C := c1
  have hO : (s.adv1 now).op = s.op := tmo_op (s.late now) (s.at_ now)
  refine SP.shuts _ h1 (by rw [hC]; exact hp.len) (by rw [hO]; exact hp.op) (old_nodup9 _ _) fun c hc => ?_
  obtain ⟨k, x, e, hx, hst⟩ := allI_mem (old_mem hc).1
  exact ⟨k, x, e, hx, hst⟩
 ·rw [adv_no hm]; exact h
theorem usr_mid (i : Nat) (A B : List Ss) (s : Ss) (E : List Pv) : (usr i (A ++ s :: B) E).Perm ((if s.st = 4 ∧ s.be = (i : Int) then [s.cn] else []) ++ usr i (A ++ B) E) := by
 unfold usr acS
 by_cases h : s.st = 4 ∧ s.be = (i : Int)
 ·rw [if_pos h, List.filter_append, List.filter_cons_of_pos (by simpa using h), List.filter_append]
  simp only [List.map_append, List.map_cons, List.append_assoc]
  exact List.perm_middle
 ·rw [if_neg h, List.filter_append, List.filter_cons_of_neg (by simpa using h), List.filter_append]
  exact List.Perm.refl _
theorem dlr_mid (i : Nat) (A B : List Ss) (s : Ss) (E : List Pv) : (dlr i (A ++ s :: B) E).Perm ((if s.st = 3 ∧ s.be = (i : Int) then [(s.cn, s.num)] else []) ++ dlr i (A ++ B) E) := by
 unfold dlr diS
 by_cases h : s.st = 3 ∧ s.be = (i : Int)
 ·rw [if_pos h, List.filter_append, List.filter_cons_of_pos (by simpa using h), List.filter_append]
  simp only [List.map_append, List.map_cons, List.append_assoc]
  exact List.perm_middle
 ·rw [if_neg h, List.filter_append, List.filter_cons_of_neg (by simpa using h), List.filter_append]
  exact List.Perm.refl _
theorem SP.away {D : Nat} {A B : List Ss} {s : Ss} {i : Nat} {p : PS} (h : SP D (A ++ s :: B) i p) : SP D (A ++ B) i p :=
 ⟨(List.nodup_append.1 ((usr_mid i A B s p.E).nodup_iff.1 h.us)).2.1, fun c hc => h.u2 c ((usr_mid i A B s p.E).mem_iff.2 (List.mem_append_right _ hc)), fun q hq => h.d1 q ((dlr_mid i A B s p.E).mem_iff.2 (List.mem_append_right _ hq)),
  fun y hy => h.wq y (by rcases List.mem_append.1 hy with h1 | h1; exact List.mem_append_left _ h1; exact List.mem_append_right _ (List.mem_cons_of_mem _ h1)), h.qd⟩
theorem SP.got4 {D : Nat} {A B : List Ss} {s : Ss} {i : Nat} {p : PS} (h : SP D (A ++ s :: B) i p) (h4 : s.st = 4) (hb : s.be = (i : Int)) : s.cn ∉ usr i (A ++ B) p.E ∧ IsU p.C s.cn := by
 have h1 := (usr_mid i A B s p.E).nodup_iff.1 h.us
 rw [if_pos ⟨h4, hb⟩, List.singleton_append, List.nodup_cons] at h1
 exact ⟨h1.1, h.u2 _ ((usr_mid i A B s p.E).mem_iff.2 (by rw [if_pos ⟨h4, hb⟩]; exact List.mem_cons_self ..))⟩
theorem SP.got3 {D : Nat} {A B : List Ss} {s : Ss} {i : Nat} {p : PS} (h : SP D (A ++ s :: B) i p) (h3 : s.st = 3) (hb : s.be = (i : Int)) : IsD p.C s.cn s.num :=
 h.d1 (s.cn, s.num) ((dlr_mid i A B s p.E).mem_iff.2 (by rw [if_pos ⟨h3, hb⟩]; exact List.mem_cons_self ..))
theorem SP.ins {D : Nat} {A B : List Ss} {s : Ss} {i : Nat} {p : PS} (h : SP D (A ++ B) i p) (h4 : s.st = 4 → s.be = (i : Int) → s.cn ∉ usr i (A ++ B) p.E ∧ IsU p.C s.cn) (h3 : s.st = 3 → s.be = (i : Int) → IsD p.C s.cn s.num) (h2 : s.st = 2 → s.be = (i : Int) → s.num ∈ p.pend) : SP D (A ++ s :: B) i p := by
 refine ⟨(usr_mid i A B s p.E).nodup_iff.2 ?_, fun c hc => ?_, fun q hq => ?_, fun y hy a b => ?_, h.qd⟩
 ·split
  ·rename_i e; exact List.nodup_cons.2 ⟨(h4 e.1 e.2).1, h.us⟩
  ·exact h.us
 ·rcases List.mem_append.1 ((usr_mid i A B s p.E).mem_iff.1 hc) with hc | hc
  ·split at hc
   ·rename_i e; rw [List.mem_singleton.1 hc]; exact (h4 e.1 e.2).2
   ·cases hc
  ·exact h.u2 c hc
 ·rcases List.mem_append.1 ((dlr_mid i A B s p.E).mem_iff.1 hq) with hq | hq
  ·split at hq
   ·rename_i e; rw [List.mem_singleton.1 hq]; exact h3 e.1 e.2
   ·cases hq
  ·exact h.d1 q hq
 ·rcases List.mem_append.1 hy with hy | hy
  ·exact h.wq y (List.mem_append_left _ hy) a b
  ·rcases List.mem_cons.1 hy with rfl | hy
   ·exact h2 a b
   ·exact h.wq y (List.mem_append_right _ hy) a b
theorem SP.ins0 {D : Nat} {A B : List Ss} {s : Ss} {i : Nat} {p : PS} (h : SP D (A ++ B) i p) (h0 : (s.st = 2 ∨ s.st = 3 ∨ s.st = 4) → s.be ≠ (i : Int)) : SP D (A ++ s :: B) i p :=
 h.ins (fun e b => absurd b (h0 (.inr (.inr e)))) (fun e b => absurd b (h0 (.inr (.inl e)))) (fun e b => absurd b (h0 (.inl e)))
theorem pv_nx {s : PS} {e : Pv} {r : List Pv} (hE : s.E = e :: r) : s.nx.E = r := by unfold PS.nx; rw [hE]; rfl
theorem usr_hd (i : Nat) (S : List Ss) (e : Pv) (r : List Pv) : (usr i S (e :: r)).Perm ((if e.k = 1 then [e.c] else []) ++ usr i S r) := by
 unfold usr
 by_cases h : e.k = 1
 ·rw [if_pos h, List.filter_cons_of_pos (by simpa using h)]; exact List.perm_middle
 ·rw [if_neg h, List.filter_cons_of_neg (by simpa using h)]; exact List.Perm.refl _
theorem dlr_hd (i : Nat) (S : List Ss) (e : Pv) (r : List Pv) : (dlr i S (e :: r)).Perm ((if e.k = 2 then [(e.c, e.who)] else []) ++ dlr i S r) := by
 unfold dlr
 by_cases h : e.k = 2
 ·rw [if_pos h, List.filter_cons_of_pos (by simpa using h)]; exact List.perm_middle
 ·rw [if_neg h, List.filter_cons_of_neg (by simpa using h)]; exact List.Perm.refl _
theorem SP.pop {D : Nat} {S : List Ss} {i : Nat} {p : PS} {e : Pv} {r : List Pv} (h : SP D S i p) (hE : p.E = e :: r) (hw : e.k = 5 ∨ ∀ y ∈ S, y.st = 2 → y.num ≠ e.who) : SP D S i p.nx := by
 have hx := pv_nx hE
 have hu := h.us; have hu2 := h.u2; have hd := h.d1
 rw [hE] at hu hu2 hd
 refine ⟨by rw [hx]; exact (List.nodup_append.1 ((usr_hd i S e r).nodup_iff.1 hu)).2.1, fun c hc => hu2 c ((usr_hd i S e r).mem_iff.2 (List.mem_append_right _ (by rw [hx] at hc; exact hc))), fun q hq => hd q ((dlr_hd i S e r).mem_iff.2 (List.mem_append_right _ (by rw [hx] at hq; exact hq))), fun y hy a b => ?_, h.qd⟩
 have h1 := h.wq y hy a b
 by_cases h5 : e.k = 5
 ·rw [pend_nx5 hE h5]; exact h1
 ·rw [pend_nx hE h5] at h1
  rcases List.mem_cons.1 h1 with h1 | h1
  ·rcases hw with hw | hw
   ·exact absurd hw h5
   ·exact absurd h1 (hw y hy a)
  ·exact h1
theorem SP.pop1 {D : Nat} {S : List Ss} {i : Nat} {p : PS} {e : Pv} {r : List Pv} (h : SP D S i p) (hE : p.E = e :: r) (hk : e.k = 1) : e.c ∉ usr i S p.nx.E ∧ IsU p.C e.c := by
 have hu := h.us; have hu2 := h.u2
 rw [hE] at hu hu2
 have h1 := (usr_hd i S e r).nodup_iff.1 hu
 rw [if_pos hk, List.singleton_append, List.nodup_cons] at h1
 rw [pv_nx hE]
 exact ⟨h1.1, hu2 _ ((usr_hd i S e r).mem_iff.2 (by rw [if_pos hk]; exact List.mem_cons_self ..))⟩
theorem SP.pop2 {D : Nat} {S : List Ss} {i : Nat} {p : PS} {e : Pv} {r : List Pv} (h : SP D S i p) (hE : p.E = e :: r) (hk : e.k = 2) : IsD p.C e.c e.who := by
 have hd := h.d1
 rw [hE] at hd
 exact hd (e.c, e.who) ((dlr_hd i S e r).mem_iff.2 (by rw [if_pos hk]; exact List.mem_cons_self ..))
def told (S : List Ss) (n : Int) : Int := match S.find? (fun s => decide (s.num = n)) with
 | none => 0
 | some s => if s.st = 4 then 2 else 1
def updT (T : Int → Int) (n v : Int) : Int → Int := fun k => if k = n then v else T k
def tl1 (T : Int → Int) (v : Xv) : Option (Int → Int) :=
 if v.k = 4 then some T else if (0 ≤ v.s ∧ v.s ≤ 100) ∧ T v.s = 1 then some (if v.k = 1 then updT T v.s 2 else if v.k = 3 then updT T v.s 0 else T) else none
def tlF (T : Int → Int) : List Xv → Option (Int → Int)
 | [] => some T
 | v :: r => match tl1 T v with
  | none => none
  | some T' => tlF T' r
theorem tlF_app : ∀ {E : List Xv} {T T' : Int → Int} {v : Xv} {T2 : Int → Int}, tlF T E = some T' → tl1 T' v = some T2 → tlF T (E ++ [v]) = some T2
 | [], T, T', v, T2, h, h2 => by
  have h : some T = some T' := h
  cases h
  show (match tl1 T v with | none => none | some T' => tlF T' []) = _
  rw [h2]; rfl
 | a :: r, T, T', v, T2, h, h2 => by
  show (match tl1 T a with | none => none | some T' => tlF T' (r ++ [v])) = _
  have h : (match tl1 T a with | none => none | some T' => tlF T' r) = some T' := h
  cases ha : tl1 T a with
  | none => rw [ha] at h; cases h
  | some T9 => rw [ha] at h; exact tlF_app (E := r) h h2
theorem told_out {S : List Ss} {n : Int} (h : n ∉ S.map (·.num)) : told S n = 0 := by unfold told; rw [find_out h]
theorem told_in {S : List Ss} (hn : (S.map (·.num)).Nodup) {s : Ss} (hs : s ∈ S) : told S s.num = if s.st = 4 then 2 else 1 := by unfold told; rw [find_num hn hs]
theorem mid_out {A B : List Ss} {s : Ss} (hn : ((A ++ s :: B).map (·.num)).Nodup) : s.num ∉ (A ++ B).map (·.num) := fun h => by
 obtain ⟨y, hy, e⟩ := List.mem_map.1 h
 exact num_split rfl hn y hy e
theorem told_mid {A B : List Ss} {s : Ss} (hn : ((A ++ s :: B).map (·.num)).Nodup) : told (A ++ s :: B) = updT (told (A ++ B)) s.num (if s.st = 4 then 2 else 1) := by
 funext k
 unfold updT
 by_cases e : k = s.num
 ·rw [if_pos e, e]
  exact told_in hn (List.mem_append_right _ (List.mem_cons_self ..))
 ·rw [if_neg e]
  unfold told
  rw [List.find?_append, List.find?_cons_of_neg (by simpa using fun q => e q.symm), ← List.find?_append]
theorem updT_updT (T : Int → Int) (n a b : Int) : updT (updT T n a) n b = updT T n b := by
 funext k; unfold updT; split <;> rfl
theorem updT_self {T : Int → Int} {n v : Int} (h : T n = v) : updT T n v = T := by
 funext k; unfold updT; split
 ·rename_i e; rw [e, h]
 ·rfl
theorem told_at {A B : List Ss} {s : Ss} (hn : ((A ++ s :: B).map (·.num)).Nodup) (h4 : s.st ≠ 4) : told (A ++ s :: B) s.num = 1 := by
 rw [told_in hn (List.mem_append_right _ (List.mem_cons_self ..)), if_neg h4]
theorem told_chg {A B : List Ss} {s s' : Ss} (hn : ((A ++ s :: B).map (·.num)).Nodup) (e : s'.num = s.num) : told (A ++ s' :: B) = updT (told (A ++ s :: B)) s.num (if s'.st = 4 then 2 else 1) := by
 have hn2 : ((A ++ s' :: B).map (·.num)).Nodup := by rw [nums_swap e]; exact hn
 rw [told_mid hn2, told_mid hn, e, updT_updT]
theorem told_quiet {A B : List Ss} {s s' : Ss} (hn : ((A ++ s :: B).map (·.num)).Nodup) (e : s'.num = s.num) (h : s.st ≠ 4) (h' : s'.st ≠ 4) : told (A ++ s' :: B) = told (A ++ s :: B) := by
 rw [told_chg hn e, if_neg h']
 exact updT_self (told_at hn h)
theorem told_drop {A B : List Ss} {s : Ss} (hn : ((A ++ s :: B).map (·.num)).Nodup) : told (A ++ B) = updT (told (A ++ s :: B)) s.num 0 := by
 rw [told_mid hn, updT_updT]
 exact (updT_self (told_out (mid_out hn))).symm
theorem tl_ready {A B : List Ss} {s s' : Ss} (hn : ((A ++ s :: B).map (·.num)).Nodup) (hr : 0 ≤ s.num ∧ s.num ≤ 100) (h : s.st ≠ 4) (e : s'.num = s.num) (h' : s'.st = 4) (b c d : Int) : tl1 (told (A ++ s :: B)) ⟨1, s.num, b, c, d⟩ = some (told (A ++ s' :: B)) := by
 unfold tl1
 rw [if_neg (show ¬ (1 : Int) = 4 by decide), if_pos ⟨hr, told_at hn h⟩, if_pos rfl, told_chg hn e, if_pos h']
theorem tl_dial {A B : List Ss} {s s' : Ss} (hn : ((A ++ s :: B).map (·.num)).Nodup) (hr : 0 ≤ s.num ∧ s.num ≤ 100) (h : s.st ≠ 4) (e : s'.num = s.num) (h' : s'.st ≠ 4) (b c d : Int) : tl1 (told (A ++ s :: B)) ⟨2, s.num, b, c, d⟩ = some (told (A ++ s' :: B)) := by
 unfold tl1
 rw [if_neg (show ¬ (2 : Int) = 4 by decide), if_pos ⟨hr, told_at hn h⟩, if_neg (show ¬ (2 : Int) = 1 by decide), if_neg (show ¬ (2 : Int) = 3 by decide), told_quiet hn e h h']
theorem tl_fail {A B : List Ss} {s : Ss} (hn : ((A ++ s :: B).map (·.num)).Nodup) (hr : 0 ≤ s.num ∧ s.num ≤ 100) (h : s.st ≠ 4) (b c d : Int) : tl1 (told (A ++ s :: B)) ⟨3, s.num, b, c, d⟩ = some (told (A ++ B)) := by
 unfold tl1
 rw [if_neg (show ¬ (3 : Int) = 4 by decide), if_pos ⟨hr, told_at hn h⟩, if_neg (show ¬ (3 : Int) = 1 by decide), if_pos rfl, told_drop hn]
theorem tl_close (T : Int → Int) (s b c d : Int) : tl1 T ⟨4, s, b, c, d⟩ = some T := by unfold tl1; rw [if_pos rfl]
def SsOk (D : Nat) (y : Ss) : Prop := (1 ≤ y.st ∧ y.st ≤ 4) ∧ y.dl ≤ D ∧ (y.st = 1 → y.til ≤ D)
abbrev exF (ex : Int) (S : List Ss) : List Ss := S.filter fun y => decide (y.num ≠ ex)
structure RX (T : Int → Int) (D : Nat) (ex : Int) (x : PX) : Prop where
 g : PXG x
 sp : ∀ (i : Nat) (si : PS), x.P[i]? = some si → SP D (exF ex x.S) i si
 ss : ∀ y ∈ x.S, y.num ≠ ex → SsOk D y
 nm : ∀ y ∈ x.S, 0 ≤ y.num ∧ y.num ≤ 100
 tl : tlF T x.E = some (told x.S)
 vl : x.b.V.length = x.P.length
theorem exF_in {ex : Int} {A B : List Ss} {s : Ss} (h : s.num ≠ ex) : exF ex (A ++ s :: B) = exF ex A ++ s :: exF ex B := by
 unfold exF; rw [List.filter_append, List.filter_cons_of_pos (by simpa using h)]
theorem exF_out {ex : Int} {A B : List Ss} : exF ex (A ++ B) = exF ex A ++ exF ex B := List.filter_append ..
theorem exF_mid {A B : List Ss} {s : Ss} (hn : ((A ++ s :: B).map (·.num)).Nodup) : exF s.num (A ++ s :: B) = A ++ B := by
 unfold exF
 exact filt_num rfl hn
theorem exF_all {S : List Ss} (h : ∀ y ∈ S, 0 ≤ y.num ∧ y.num ≤ 100) : exF (-1) S = S := List.filter_eq_self.2 fun y hy => decide_eq_true (by have := h y hy; omega)
theorem RX.drE {T : Int → Int} {D : Nat} {ex : Int} {x : PX} {i : Nat} {si : PS} {e : Pv} {r : List Pv} (h : RX T D ex x) (he : ∀ y ∈ x.S, y.num = ex → y.st = 3) (hi : x.P[i]? = some si) (hE : si.E = e :: r) :
  RX T D ex ((x.nxP i si).drE i e) ∧ ∀ y ∈ ((x.nxP i si).drE i e).S, y.num = ex → y.st = 3 := by
 obtain ⟨hk, g2⟩ := drE_ok h.g hi hE
 have hsi := h.sp i si hi
 by_cases h5 : e.k = 5
 ·rw [drE_5 h5] at g2 ⊢
  exact ⟨⟨g2, po_set hi (hsi.pop hE (.inl h5)) fun j sj _ hj => h.sp j sj hj, h.ss, h.nm, tlF_app h.tl (tl_close _ _ _ _ _), by show x.b.V.length = (x.P.set i si.nx).length; rw [List.length_set]; exact h.vl⟩, he⟩
 ·rcases hk with hk | ⟨hk3, A, s, B, hS, hw, hst, hbe⟩
  ·exact absurd hk h5
  have hs : s ∈ x.S := by rw [hS]; exact List.mem_append_right _ (List.mem_cons_self ..)
  have hne : s.num ≠ ex := fun q => by have := he s hs q; omega
  have hn := h.g.nd
  have hnm := h.nm; have hss := h.ss; have htl := h.tl; have hspA := h.sp
  rw [hS] at hn hnm hss htl he
  simp only [hS, exF_in hne] at hspA
  rw [hS, exF_in hne] at hsi
  have hr := hnm s (List.mem_append_right _ (List.mem_cons_self ..))
  have hg := hss s (List.mem_append_right _ (List.mem_cons_self ..)) hne
  have h4 : s.st ≠ 4 := by omega
  have hpop : SP D (exF ex A ++ exF ex B) i si.nx := hsi.away.pop hE (.inr fun y hy _ => by
   have hy2 : y ∈ A ++ B := by
    rcases List.mem_append.1 hy with q | q
    ·exact List.mem_append_left _ (List.mem_filter.1 q).1
    ·exact List.mem_append_right _ (List.mem_filter.1 q).1
   rw [← hw]; exact num_split rfl hn y hy2)
  have hoth : ∀ s' : Ss, s'.be = (i : Int) → ∀ (j : Nat) (sj : PS), j ≠ i → x.P[j]? = some sj → SP D (exF ex A ++ s' :: exF ex B) j sj := fun s' hb j sj hj hpj => (hspA j sj hpj).away.ins0 fun _ q => hj (by omega)
  rcases hk3 with q | q | q
  ·have hd := drE_1 (x := x.nxP i si) (i := i) h.g.nd hS hw.symm q
   rw [hd] at g2 ⊢
   have hp1 := hsi.away.pop1 hE q
   refine ⟨⟨g2, ?_, ?_, ?_, ?_, by show x.b.V.length = (x.P.set i si.nx).length; rw [List.length_set]; exact h.vl⟩, ?_⟩
   ·show ∀ (j : Nat) (sj : PS), (x.P.set i si.nx)[j]? = some sj → SP D (exF ex (A ++ { s with st := 4, cn := e.c } :: B)) j sj
    rw [exF_in (s := { s with st := 4, cn := e.c }) hne]
    exact po_set hi (hpop.ins (fun _ _ => hp1) (fun q2 _ => absurd q2 (show ¬ (4 : Int) = 3 by decide)) fun q2 _ => absurd q2 (show ¬ (4 : Int) = 2 by decide)) (hoth _ hbe)
   ·exact mem_swap (p := fun y => y.num ≠ ex → SsOk D y) hss _ fun _ => ⟨⟨by show (1 : Int) ≤ 4; decide, by show (4 : Int) ≤ 4; decide⟩, hg.2.1, fun q2 => absurd q2 (show ¬ (4 : Int) = 1 by decide)⟩
   ·exact mem_swap (p := fun y => 0 ≤ y.num ∧ y.num ≤ 100) hnm _ hr
   ·exact tlF_app htl (tl_ready (s' := { s with st := 4, cn := e.c }) hn hr h4 rfl rfl _ _ _)
   ·exact mem_swap (p := fun y => y.num = ex → y.st = 3) he _ fun q2 => absurd q2 hne
  ·have hd := drE_2 (x := x.nxP i si) (i := i) h.g.nd hS hw.symm q
   rw [hd] at g2 ⊢
   have hp2 := hsi.away.pop2 hE q
   refine ⟨⟨g2, ?_, ?_, ?_, ?_, by show x.b.V.length = (x.P.set i si.nx).length; rw [List.length_set]; exact h.vl⟩, ?_⟩
   ·show ∀ (j : Nat) (sj : PS), (x.P.set i si.nx)[j]? = some sj → SP D (exF ex (A ++ { s with st := 3, cn := e.c } :: B)) j sj
    rw [exF_in (s := { s with st := 3, cn := e.c }) hne]
    exact po_set hi (hpop.ins (fun q2 _ => absurd q2 (show ¬ (3 : Int) = 4 by decide)) (fun _ _ => by show IsD si.C e.c s.num; rw [hw]; exact hp2) fun q2 _ => absurd q2 (show ¬ (3 : Int) = 2 by decide)) (hoth _ hbe)
   ·exact mem_swap (p := fun y => y.num ≠ ex → SsOk D y) hss _ fun _ => ⟨⟨by show (1 : Int) ≤ 3; decide, by show (3 : Int) ≤ 4; decide⟩, hg.2.1, fun q2 => absurd q2 (show ¬ (3 : Int) = 1 by decide)⟩
   ·exact mem_swap (p := fun y => 0 ≤ y.num ∧ y.num ≤ 100) hnm _ hr
   ·exact tlF_app htl (tl_dial (s' := { s with st := 3, cn := e.c }) hn hr h4 rfl (show (3 : Int) ≠ 4 by decide) _ _ _)
   ·exact mem_swap (p := fun y => y.num = ex → y.st = 3) he _ fun q2 => absurd q2 hne
  ·have hd := drE_4 (x := x.nxP i si) (i := i) h.g.nd hS hw.symm q
   rw [hd] at g2 ⊢
   refine ⟨⟨g2, ?_, mem_drop (p := fun y => y.num ≠ ex → SsOk D y) hss, mem_drop (p := fun y => 0 ≤ y.num ∧ y.num ≤ 100) hnm, tlF_app htl (tl_fail hn hr h4 _ _ _), by show (x.b.doneX _ _ _).V.length = (x.P.set i si.nx).length; rw [doneX_len, List.length_set]; exact h.vl⟩, mem_drop (p := fun y => y.num = ex → y.st = 3) he⟩
   show ∀ (j : Nat) (sj : PS), (x.P.set i si.nx)[j]? = some sj → SP D (exF ex (A ++ B)) j sj
   rw [exF_out]
   exact po_set hi hpop fun j sj hj hpj => (hspA j sj hpj).away
theorem RX.drainL {T : Int → Int} {D : Nat} {ex : Int} (i : Nat) : ∀ (n : Nat) (x : PX), RX T D ex x → (∀ y ∈ x.S, y.num = ex → y.st = 3) → RX T D ex (PX.drainL i n x) ∧ ∀ y ∈ (PX.drainL i n x).S, y.num = ex → y.st = 3
 | 0, x, h, he => ⟨h, he⟩
 | n + 1, x, h, he => by
  unfold PX.drainL
  split
  ·exact ⟨h, he⟩
  ·rename_i si hi
   split
   ·exact ⟨h, he⟩
   ·rename_i e r hE
    obtain ⟨a, b⟩ := h.drE he hi hE
    exact RX.drainL i n _ a b
theorem RX.drain {T : Int → Int} {D : Nat} {ex : Int} {x : PX} (h : RX T D ex x) (he : ∀ y ∈ x.S, y.num = ex → y.st = 3) (i : Nat) : RX T D ex (x.drain i) := by
 obtain ⟨n, e⟩ := drain_eqL x i
 rw [e]; exact (RX.drainL i n x h he).1
theorem no_m1 {S : List Ss} (h : ∀ y ∈ S, 0 ≤ y.num ∧ y.num ≤ 100) : ∀ y ∈ S, y.num = -1 → y.st = 3 := fun y hy e => by have := h y hy; omega
theorem RX.fld {T : Int → Int} {D : Nat} {x : PX} {A B : List Ss} {s : Ss} (g : PXG x) (g2 : PXG (x.fldF s)) (hS : x.S = A ++ s :: B) (h4 : s.st ≠ 4) (hsp : ∀ (i : Nat) (si : PS), x.P[i]? = some si → SP D (A ++ B) i si) (hss : ∀ y ∈ A ++ B, SsOk D y) (hdl : s.dl ≤ D) (nm : ∀ y ∈ x.S, 0 ≤ y.num ∧ y.num ≤ 100)
  (tl : tlF T x.E = some (told x.S)) (vl : x.b.V.length = x.P.length) : RX T D (-1) (x.fldF s) := by
 have hn := g.nd
 rw [fldF_eq hS g.nd] at g2 ⊢
 rw [hS] at hn nm tl
 have hr := nm s (List.mem_append_right _ (List.mem_cons_self ..))
 split at g2
 ·rename_i hf
  rw [if_pos hf]
  have hfut : ¬ s.dl ≤ x.fut s := fun q => by
   unfold PX.failE at hf
   rw [if_pos q] at hf
   split at hf <;> exact absurd hf (by decide)
  have nm2 := mem_swap (p := fun y => 0 ≤ y.num ∧ y.num ≤ 100) nm (x.later s) hr
  have hss2 : ∀ y ∈ A ++ x.later s :: B, SsOk D y := fun y hy => by
   rcases List.mem_append.1 hy with q | q
   ·exact hss y (List.mem_append_left _ q)
   ·rcases List.mem_cons.1 q with rfl | q
    ·exact ⟨⟨by show (1 : Int) ≤ 1; decide, by show (1 : Int) ≤ 4; decide⟩, hdl, fun _ => by show x.fut s ≤ D; omega⟩
    ·exact hss y (List.mem_append_right _ q)
  refine ⟨g2, ?_, fun y hy _ => hss2 y hy, nm2, ?_, vl⟩
  ·show ∀ (i : Nat) (si : PS), x.P[i]? = some si → SP D (exF (-1) (A ++ x.later s :: B)) i si
   rw [exF_all nm2]
   exact fun i si hi => (hsp i si hi).ins0 fun q => by
    have e1 : (x.later s).st = 1 := rfl
    omega
  ·show tlF T x.E = some (told (A ++ x.later s :: B))
   rw [tl, told_quiet hn (s' := x.later s) rfl h4 (by show (1 : Int) ≠ 4; decide)]
 ·rename_i hf
  rw [if_neg hf]
  have nm2 := mem_drop (p := fun y => 0 ≤ y.num ∧ y.num ≤ 100) nm
  refine ⟨g2, ?_, fun y hy _ => hss y hy, nm2, tlF_app tl (tl_fail hn hr h4 _ _ _), vl⟩
  show ∀ (i : Nat) (si : PS), x.P[i]? = some si → SP D (exF (-1) (A ++ B)) i si
  rw [exF_all nm2]
  exact hsp
theorem SP.get {D : Nat} {S : List Ss} {i : Nat} {si : PS} (h : SP D S i si) (hp : PH si) {who : Int} {now dl : Nat} (he : getE_ si who now dl = 0) (hd : dl ≤ D) :
  SP D S i (si.getS who now dl) ∧ ((si.getV who now dl).k = 1 → (si.getV who now dl).c ∉ usr i S (si.getS who now dl).E ∧ IsU (si.getS who now dl).C (si.getV who now dl).c) ∧
   ((si.getV who now dl).k = 2 → IsD (si.getS who now dl).C (si.getV who now dl).c who) ∧ ((si.getV who now dl).k ≠ 1 → (si.getV who now dl).k ≠ 2 → who ∈ (si.getS who now dl).pend) := by
 have ha := h.at_ now
 by_cases hi : allI 3 si.C = []
 ·cases hr : si.room with
  | true =>
   obtain ⟨e1, e2⟩ := get_dial he hi hr
   obtain ⟨_, hf, x, hx, hst⟩ := PS.free_of (PS.room_ne hr hp.len hp.op)
   have hu := ha.unref (k := si.free) (x := x) hx (by rw [hst]; decide) (by rw [hst]; decide)
   rw [e1, e2]
   refine ⟨ha.set hu _, fun q => absurd q (show ¬ (2 : Int) = 1 by decide), fun _ => ⟨si.free, ⟨1, who, 0⟩, rfl, ?_, rfl, rfl⟩, fun _ q => absurd rfl q⟩
   show (si.C.set si.free _)[si.free]? = _
   exact List.getElem?_set_self hf
  | false =>
   obtain ⟨e1, e2⟩ := get_wait he hi hr
   rw [e1, e2]
   have hm : ∀ w ∈ si.pend, w ∈ (si.E.filter (fun e => decide (e.k ≠ 5))).map (·.who) ++ (si.Q ++ [(⟨si.n + 1, who, dl⟩ : Qp)]).map (·.who) := fun w hw => by
    rcases List.mem_append.1 hw with q | q
    ·exact List.mem_append_left _ q
    ·exact List.mem_append_right _ (by rw [List.map_append]; exact List.mem_append_left _ q)
   refine ⟨⟨h.us, h.u2, h.d1, fun y hy a b => hm _ (h.wq y hy a b), fun q hq => ?_⟩, fun q => absurd q (show ¬ (3 : Int) = 1 by decide), fun q => absurd q (show ¬ (3 : Int) = 2 by decide), fun _ _ => ?_⟩
   ·rcases List.mem_append.1 hq with q9 | q9
    ·exact h.qd q q9
    ·rw [List.mem_singleton.1 q9]; exact hd
   ·show who ∈ (si.E.filter (fun e => decide (e.k ≠ 5))).map (·.who) ++ (si.Q ++ [(⟨si.n + 1, who, dl⟩ : Qp)]).map (·.who)
    exact List.mem_append_right _ (by rw [List.map_append]; exact List.mem_append_right _ (List.mem_singleton.2 rfl))
 ·obtain ⟨e1, e2⟩ := get_use he hi
  obtain ⟨k, x, hk, hx, hkl, hst⟩ := last_mem hi
  rw [hk, Int.toNat_natCast] at hx
  have hu := ha.unref (k := k) (x := x) hx (by rw [hst]; decide) (by rw [hst]; decide)
  rw [e1, e2, hk, Int.toNat_natCast]
  refine ⟨ha.set hu _, fun _ => ⟨hu.1, k, ⟨2, 0, 0⟩, rfl, ?_, rfl⟩, fun q => absurd q (show ¬ (1 : Int) = 2 by decide), fun q => absurd rfl q⟩
  show (si.C.set k _)[k]? = _
  exact List.getElem?_set_self hkl
theorem inE_is {s : PS} (hl : s.C.length = 64) {k : Nat} {x : Cn} (hx : s.C[k]? = some x) {st : Int} (hs : x.st = st) {now : Nat} (hn : s.now ≤ now) (hnw : now ≠ 18446744073709551615) : s.inE (k : Int) st now = 0 := by
 have hk := (List.getElem?_eq_some_iff.1 hx).1
 unfold PS.inE
 rw [if_neg (by rw [may_fine (decide_eq_true (by omega)) (by omega)]; decide), if_neg]
 rw [Int.toNat_natCast, hx]
 rintro (q | q)
 ·omega
 ·exact q (by rw [← hs]; rfl)
theorem SP.dials {D : Nat} {S : List Ss} {i : Nat} {s : PS} (h : SP D S i s) {k : Nat} {x : Cn} (hx : s.C[k]? = some x) (h1 : x.st = 1) (hE : s.E = []) (hw : ∀ y ∈ S, y.num ≠ x.who) : Unref i S s k :=
 ⟨fun hc => by
  obtain ⟨k2, x2, e, hx2, hs⟩ := h.u2 _ hc
  obtain rfl : k = k2 := by omega
  rw [hx] at hx2; cases hx2; omega, fun p hp e => by
  obtain ⟨k2, x2, e2, hx2, _, hs⟩ := h.d1 p hp
  obtain rfl : k = k2 := by omega
  rw [hx] at hx2; cases hx2
  unfold dlr at hp
  rw [hE] at hp
  rcases List.mem_append.1 hp with q | q
  ·obtain ⟨y, hy, e3⟩ := List.mem_map.1 q
   have := hw y (List.mem_filter.1 hy).1
   exact this (by rw [hs, ← e3])
  ·cases q⟩
theorem SP.made {D : Nat} {S : List Ss} {i : Nat} {s : PS} (h : SP D S i s) (hp : PH s) {c w : Int} (hc : IsD s.C c w) (hE : s.E = []) (hw : ∀ y ∈ S, y.num ≠ w) {now : Nat} (hn : s.now ≤ now) (hnw : now ≠ 18446744073709551615) :
  SP D S i (s.dialed c true now) ∧ c ∉ usr i S (s.dialed c true now).E ∧ IsU (s.dialed c true now).C c := by
 obtain ⟨k, x, rfl, hx, hs, hwx⟩ := hc
 have hu := h.dials hx hs hE (by rw [hwx]; exact hw)
 rw [dialed_made (inE_is hp.len hx hs hn hnw)]
 refine ⟨(h.at_ now).set hu _, hu.1, k, ⟨2, 0, 0⟩, rfl, ?_, rfl⟩
 show (s.C.set k _)[k]? = _
 exact List.getElem?_set_self (List.getElem?_eq_some_iff.1 hx).1
theorem SP.lost {D : Nat} {S : List Ss} {i : Nat} {s : PS} (h : SP D S i s) (hp : PH s) {c w : Int} (hc : IsD s.C c w) (hE : s.E = []) (hw : ∀ y ∈ S, y.num ≠ w) {now : Nat} (hn : s.now ≤ now) (hnw : now ≠ 18446744073709551615) : SP D S i (s.dialed c false now) := by
 obtain ⟨k, x, rfl, hx, hs, hwx⟩ := hc
 have hu := h.dials hx hs hE (by rw [hwx]; exact hw)
 rw [dialed_lost (inE_is hp.len hx hs hn hnw)]
 exact (h.at_ now).lose hp.len hp.op hu
theorem SP.put {D : Nat} {S : List Ss} {i : Nat} {s : PS} (h : SP D S i s) (hp : PH s) {c : Int} (hc : IsU s.C c) (hn9 : c ∉ usr i S s.E) (good : Bool) {now : Nat} (hn : s.now ≤ now) (hnw : now ≠ 18446744073709551615) : SP D S i (s.put c good now) := by
 have hc0 := hc
 obtain ⟨k, x, rfl, hx, hs⟩ := hc
 have hu : Unref i S s k := ⟨hn9, fun p hp9 e => by
  obtain ⟨k2, x2, e2, hx2, hs2, _⟩ := h.d1 p hp9
  obtain rfl : k = k2 := by omega
  rw [hx] at hx2; cases hx2; omega⟩
 have he := inE_is hp.len hx hs hn hnw
 have ho : SP D S i (((s.at_ now).tell 5 (-1) (k : Int)).lose k) := ((h.at_ now).tell5 _).lose hp.len hp.op (Unref.tell5 (s := s.at_ now) hu _)
 cases good with
 | false => rw [put_bad he]; exact ho
 | true =>
  cases hQ : s.Q with
  | cons a r =>
   rw [put_use he hQ]
   exact (h.at_ now).ev (e := ⟨1, a.who, (k : Int)⟩) rfl rfl (fun w hw => (opd_popT (s.at_ now) hQ (k : Int)).pend.mem_iff.2 hw) (fun q hq => List.mem_of_mem_drop (show q ∈ s.Q.drop 1 from hq)) (fun _ => ⟨hn9, hc0⟩) (fun q => absurd q (show ¬ (1 : Int) = 2 by decide))
  | nil =>
   by_cases hl : (allI 3 s.C).length < s.most
   ·rw [put_idle he hQ hl]; exact (h.at_ now).set hu _
   ·rw [put_over he hQ hl]; exact ho
theorem pick_len (b : BS) (key : ByteArray) (now : Nat) : (b.pick key now).V.length = b.V.length := by
 show ((pickS _ _ _ _ _).map vw).length = _
 rw [List.length_map, pickS_len, un_len]
theorem pk_at9 {x : PX} (vl : x.b.V.length = x.P.length) (s : Ss) (hne : x.b.cand x.now ≠ []) : ∃ si, x.P[x.pk s]? = some si := by
 obtain ⟨i, z, h1, h2, _⟩ := cand_mem (pickI_mem x.b.k (un x.b.V) x.b.nx s.key hne)
 have h1 : x.b.pickI s.key x.now = (i : Int) := h1
 have hl := (List.getElem?_eq_some_iff.1 h2).1
 rw [un_len] at hl
 have e : x.pk s = i := by unfold PX.pk; rw [h1]; rfl
 rw [e]
 exact getE (T := x.P) (i := i) (by rw [← vl]; exact hl)
theorem RX.att {T : Int → Int} {D : Nat} {x : PX} {A B : List Ss} {s : Ss} (g : PXG x) (g2 : PXG (x.attF s)) (hS : x.S = A ++ s :: B) (hst : s.st = 0 ∨ s.st = 1) (hsp : ∀ (i : Nat) (si : PS), x.P[i]? = some si → SP D (A ++ B) i si) (hss : ∀ y ∈ A ++ B, SsOk D y) (hdl : s.dl ≤ D) (hd : ¬ s.dl ≤ x.now)
  (hnw : x.now ≠ 18446744073709551615) (nm : ∀ y ∈ x.S, 0 ≤ y.num ∧ y.num ≤ 100) (tl : tlF T x.E = some (told x.S)) (vl : x.b.V.length = x.P.length) : RX T D (-1) (x.attF s) := by
 have hs : s ∈ x.S := by rw [hS]; exact List.mem_append_right _ (List.mem_cons_self ..)
 by_cases hc : x.b.cand x.now = []
 ·have e : x.attF s = x.fldF s := by unfold PX.attF; rw [if_pos hc]
  rw [e] at g2 ⊢
  exact RX.fld g g2 hS (by omega) hsp hss hdl nm tl vl
 ·obtain ⟨si, hsi⟩ := pk_at9 vl s hc
  have e : x.attF s = { x.attX s si with S := A ++ x.attS s si :: B } := by
   rw [← attF_eq hS g.nd]; unfold PX.att; rw [if_neg hc, hsi]
  have hp := g.po _ si hsi
  have hnp := g.noPend hs (by omega) hsi
  have hnd := g.noDial hs (by omega) (by omega)
  have hrn := nm s hs
  have he : getE_ si s.num x.now s.dl = 0 := by
   refine getE_ok (may_fine (decide_eq_true (by omega)) (by have := hp.nw; omega)) hd ?_ ?_
   ·refine List.any_eq_false.2 fun q hq => ?_
    simp only [decide_eq_true_eq]
    exact fun e9 => hnp (List.mem_append_right _ (by rw [← e9]; exact List.mem_map_of_mem hq))
   ·refine List.any_eq_false.2 fun q hq => ?_
    simp only [decide_eq_true_eq]
    exact fun e9 => hnd _ si hsi q hq e9.1 e9.2
  obtain ⟨s0, s1, s2, s3⟩ := (hsp _ si hsi).get hp.ph he hdl
  obtain ⟨f1, f2, f3, f4, f5⟩ := attS_fields x s si
  obtain ⟨p1, p2, p3, p4, _⟩ := attX_fields x s si
  have hn := g.nd
  rw [e] at g2 ⊢
  rw [hS] at hn nm tl
  have nm2 := mem_swap (p := fun y => 0 ≤ y.num ∧ y.num ≤ 100) nm (x.attS s si) (by rw [f1]; exact hrn)
  have hst2 : (x.pv s si).k = 1 ∧ (x.attS s si).st = 4 ∧ (x.attS s si).cn = (x.pv s si).c ∨ (x.pv s si).k ≠ 1 ∧ (x.pv s si).k = 2 ∧ (x.attS s si).st = 3 ∧ (x.attS s si).cn = (x.pv s si).c ∨ (x.pv s si).k ≠ 1 ∧ (x.pv s si).k ≠ 2 ∧ (x.attS s si).st = 2 := by
   by_cases k1 : (x.pv s si).k = 1
   ·rw [(attX_1 k1).2]; exact .inl ⟨k1, rfl, rfl⟩
   ·by_cases k2 : (x.pv s si).k = 2
    ·rw [(attX_2 k1 k2).2]; exact .inr (.inl ⟨k1, k2, rfl, rfl⟩)
    ·rw [(attX_3 k1 k2).2]; exact .inr (.inr ⟨k1, k2, rfl⟩)
  have hss2 : ∀ y ∈ A ++ x.attS s si :: B, SsOk D y := fun y hy => by
   rcases List.mem_append.1 hy with q | q
   ·exact hss y (List.mem_append_left _ q)
   ·rcases List.mem_cons.1 q with rfl | q
    ·exact ⟨by omega, by rw [f5]; exact hdl, fun q2 => by omega⟩
    ·exact hss y (List.mem_append_right _ q)
  refine ⟨g2, ?_, fun y hy _ => hss2 y hy, nm2, ?_, ?_⟩
  ·show ∀ (i : Nat) (sj : PS), (x.attX s si).P[i]? = some sj → SP D (exF (-1) (A ++ x.attS s si :: B)) i sj
   rw [exF_all nm2, p1]
   refine po_set hsi (s0.ins (fun q _ => ?_) (fun q _ => ?_) fun q _ => ?_) fun j sj hj hpj => (hsp j sj hpj).ins0 fun _ q => hj (by rw [f4] at q; omega)
   ·rcases hst2 with ⟨k1, a, b⟩ | ⟨_, _, a, _⟩ | ⟨_, _, a⟩
    ·rw [b]; exact s1 k1
    ·omega
    ·omega
   ·rcases hst2 with ⟨_, a, _⟩ | ⟨_, k2, a, b⟩ | ⟨_, _, a⟩
    ·omega
    ·rw [b, f1]; exact s2 k2
    ·omega
   ·rcases hst2 with ⟨_, a, _⟩ | ⟨_, _, a, _⟩ | ⟨k1, k2, a⟩
    ·omega
    ·omega
    ·rw [f1]; exact s3 k1 k2
  ·show tlF T (x.attX s si).E = some (told (A ++ x.attS s si :: B))
   rcases hst2 with ⟨k1, a, b⟩ | ⟨k1, k2, a, b⟩ | ⟨k1, k2, a⟩
   ·rw [(attX_1 k1).1]
    exact tlF_app tl (tl_ready hn hrn (by omega) f1 a _ _ _)
   ·rw [(attX_2 k1 k2).1]
    exact tlF_app tl (tl_dial hn hrn (by omega) f1 (by omega) _ _ _)
   ·rw [(attX_3 k1 k2).1]
    show tlF T x.E = _
    rw [tl, told_quiet hn f1 (by omega) (by omega)]
  ·show (x.attX s si).b.V.length = (x.attX s si).P.length
   rw [p2, p1, pick_len, List.length_set]; exact vl
theorem SP.mono {D D2 : Nat} {S : List Ss} {i : Nat} {s : PS} (h : SP D S i s) (hD : D ≤ D2) : SP D2 S i s := ⟨h.us, h.u2, h.d1, h.wq, fun q hq => Nat.le_trans (h.qd q hq) hD⟩
theorem SsOk.mono {D D2 : Nat} {y : Ss} (h : SsOk D y) (hD : D ≤ D2) : SsOk D2 y := ⟨h.1, Nat.le_trans h.2.1 hD, fun e => Nat.le_trans (h.2.2 e) hD⟩
theorem RX.mono {T : Int → Int} {D D2 : Nat} {ex : Int} {x : PX} (h : RX T D ex x) (hD : D ≤ D2) : RX T D2 ex x := ⟨h.g, fun i si hi => (h.sp i si hi).mono hD, fun y hy e => (h.ss y hy e).mono hD, h.nm, h.tl, h.vl⟩
theorem RX.all {T : Int → Int} {D : Nat} {x : PX} (h : RX T D (-1) x) : (∀ (i : Nat) (si : PS), x.P[i]? = some si → SP D x.S i si) ∧ ∀ y ∈ x.S, SsOk D y := by
 have hs := h.sp
 rw [exF_all h.nm] at hs
 exact ⟨hs, fun y hy => h.ss y hy (by have := h.nm y hy; omega)⟩
theorem RX.toldE {T : Int → Int} {D : Nat} {ex : Int} {x : PX} (h : RX T D ex x) (hE : x.E = []) : T = told x.S := by
 have h1 := h.tl
 rw [hE] at h1
 exact Option.some.inj h1
theorem RX.begun {T : Int → Int} {D : Nat} {x : PX} (h : RX T D (-1) x) (hE : x.E = []) (htr : x.pl.tries ≤ 100) {n : Int} {now dl : Nat} {key : ByteArray} (p : Nat) (he : x.begE n now dl key = 0) {D2 : Nat} (hD : D ≤ D2) (hdl : dl ≤ D2) : RX (updT T n 1) D2 (-1) (x.begin n now dl key p) := by
 obtain ⟨hr, hk, hn1, hn2, hd, hno, hm⟩ := begE_zero he
 have g0 := h.g.beg0 (dl := dl) p hk hn1 hno
 have hS : (x.beg0 n now dl key p).S = x.S ++ newS n dl key p :: [] := rfl
 have g2 : PXG ((x.beg0 n now dl key p).attF (newS n dl key p)) := g0.attF hS (by show (0 : Int) ≠ 2; decide) (by show (0 : Int) ≠ 3; decide) htr
 obtain ⟨h1, h2⟩ := (h.mono hD).all
 have hn0 := g0.nd
 rw [hS] at hn0
 refine RX.att g0 g2 hS (.inl rfl) (by rw [List.append_nil]; exact h1) (by rw [List.append_nil]; exact h2) hdl (by show ¬ dl ≤ now; omega) hn2 (fun y hy => ?_) ?_ h.vl
 ·rw [hS] at hy
  rcases List.mem_append.1 hy with q | q
  ·exact h.nm y q
  ·rw [List.mem_singleton.1 q]; exact hr
 ·show tlF _ x.E = _
  rw [hE]
  show some _ = some _
  rw [hS, told_mid hn0, List.append_nil, h.toldE hE]
  rfl
theorem RX.dialed {T : Int → Int} {D w b e : Nat} {x : PX} (o : PXO w b e x) (h : RX T D (-1) x) {A B : List Ss} {s : Ss} (hS : x.S = A ++ s :: B) (hst : s.st = 3) (good : Bool) {now : Nat} (hn1 : x.now ≤ now) (hnw : now ≠ 18446744073709551615) : RX T D (-1) (x.dialN s good now) := by
 have g2 := (o.dialed hS hst good hn1 hnw).g
 have hs : s ∈ x.S := by rw [hS]; exact List.mem_append_right _ (List.mem_cons_self ..)
 obtain ⟨i, hbe, hil⟩ := o.g.bk s hs (.inr (.inl hst))
 obtain ⟨si, hi⟩ := getE (T := x.P) (i := i) hil
 have hp := o.g.po i si hi
 have hsE := (o.b si (List.mem_of_getElem? hi)).1
 have g1 := o.g.dial1 s good hi hn1
 obtain ⟨h1, h2⟩ := h.all
 have hn := o.g.nd
 have hnm := h.nm
 have htl := h.tl
 have hrn := hnm s hs
 rw [hS] at hn hnm htl h2
 simp only [hS] at h1
 have hne := num_split rfl hn
 have hsi := h1 i si hi
 have hD3 := hsi.got3 hst hbe
 have hsok := h2 s (List.mem_append_right _ (List.mem_cons_self ..))
 rw [dialN_eq hbe hi] at g2 ⊢
 cases good with
 | true =>
  rw [if_pos rfl, updS_at hS o.g.nd] at g2 ⊢
  obtain ⟨m0, m1, m2⟩ := hsi.away.made hp.ph hD3 hsE hne (Nat.le_trans hp.nw hn1) hnw
  have nm2 := mem_swap (p := fun y => 0 ≤ y.num ∧ y.num ≤ 100) hnm { s with st := 4 } (hnm s (List.mem_append_right _ (List.mem_cons_self ..)))
  refine ⟨g2, ?_, fun y hy _ => mem_swap (p := SsOk D) h2 { s with st := 4 } ⟨⟨by show (1 : Int) ≤ 4; decide, by show (4 : Int) ≤ 4; decide⟩, hsok.2.1, fun q2 => absurd q2 (show ¬ (4 : Int) = 1 by decide)⟩ y hy, nm2, ?_, ?_⟩
  ·show ∀ (j : Nat) (sj : PS), (x.P.set i (si.dialed s.cn true now))[j]? = some sj → SP D (exF (-1) (A ++ { s with st := 4 } :: B)) j sj
   rw [exF_all nm2]
   exact po_set hi (m0.ins (fun _ _ => ⟨m1, m2⟩) (fun q _ => absurd q (show ¬ (4 : Int) = 3 by decide)) fun q _ => absurd q (show ¬ (4 : Int) = 2 by decide)) fun j sj hj hpj => (h1 j sj hpj).away.ins0 fun _ q => hj (by have q : s.be = (j : Int) := q; omega)
  ·exact tlF_app htl (tl_ready (s' := { s with st := 4 }) hn hrn (by omega) rfl rfl _ _ _)
  ·show x.b.V.length = (x.P.set i _).length
   rw [List.length_set]; exact h.vl
 | false =>
  rw [if_neg (by decide)] at g2 ⊢
  have hX : RX T D s.num (x.dial1 s false now i si) := by
   refine ⟨g1, ?_, fun y hy hy9 => ?_, h.nm, h.tl, ?_⟩
   ·show ∀ (j : Nat) (sj : PS), (x.P.set i (si.dialed s.cn false now))[j]? = some sj → SP D (exF s.num x.S) j sj
    rw [hS, exF_mid hn]
    exact po_set hi (hsi.away.lost hp.ph hD3 hsE hne (Nat.le_trans hp.nw hn1) hnw) fun j sj _ hpj => (h1 j sj hpj).away
   ·exact h2 y (by rw [← hS]; exact hy)
   ·show x.b.V.length = (x.P.set i _).length
    rw [List.length_set]; exact h.vl
  have hs3 : ∀ y ∈ (x.dial1 s false now i si).S, y.num = s.num → y.st = 3 := fun y hy q => by
   rw [uniq_num o.g.nd hy hs q]; exact hst
  have hY := hX.drain hs3 i
  have hsY : s ∈ ((x.dial1 s false now i si).drain i).S := drain_keep g1 i hs (by omega)
  have hYn : ((x.dial1 s false now i si).drain i).now = now := drain_now _ i
  generalize (x.dial1 s false now i si).drain i = Y at *
  obtain ⟨A2, B2, hS2⟩ := List.append_of_mem hsY
  have hn2 := hY.g.nd
  rw [hS2] at hn2
  have hspY := hY.sp
  rw [hS2, exF_mid hn2] at hspY
  have gY : PXG { Y with b := Y.b.doneX now s.cal false } := ⟨by show (Y.b.doneX now s.cal false).last ≤ Y.now; rw [hYn]; exact doneX_last _ _ _ _ (by rw [← hYn]; exact hY.g.bl), hY.g.nd, hY.g.ks, hY.g.bk, hY.g.po⟩
  refine RX.fld (x := { Y with b := Y.b.doneX now s.cal false }) gY g2 hS2 (by omega) hspY (fun y hy => hY.ss y (by rw [hS2]; rcases List.mem_append.1 hy with q | q; exact List.mem_append_left _ q; exact List.mem_append_right _ (List.mem_cons_of_mem _ q)) (num_split rfl hn2 y hy)) hsok.2.1 hY.nm hY.tl ?_
  show (Y.b.doneX _ _ _).V.length = Y.P.length
  rw [doneX_len]; exact hY.vl
theorem RX.ended {T : Int → Int} {D w b e : Nat} {x : PX} (o : PXO w b e x) (h : RX T D (-1) x) (hE : x.E = []) {A B : List Ss} {s : Ss} (hS : x.S = A ++ s :: B) (hst : s.st = 4) (good : Bool) {now : Nat} (hn1 : x.now ≤ now) (hnw : now ≠ 18446744073709551615) : RX (updT T s.num 0) D (-1) (x.endN s good now) := by
 have hs : s ∈ x.S := by rw [hS]; exact List.mem_append_right _ (List.mem_cons_self ..)
 obtain ⟨i, hbe, hil⟩ := o.g.bk s hs (.inr (.inr hst))
 obtain ⟨si, hi⟩ := getE (T := x.P) (i := i) hil
 have hp := o.g.po i si hi
 have g1 := o.g.end1 hS hst good hi hn1
 have hX : x.endN s good now = PX.drain { x with now := now, P := x.P.set i (si.put s.cn good now), b := x.b.doneX now s.cal good, S := A ++ B } i := by
  rw [endN_eq hbe hi]; unfold PX.end1; rw [filt_num hS o.g.nd]
 obtain ⟨h1, h2⟩ := h.all
 have hn := o.g.nd
 have hnm := h.nm
 have hT := h.toldE hE
 rw [hS] at hn hnm h2 hT
 simp only [hS] at h1
 have hsi := h1 i si hi
 obtain ⟨u1, u2⟩ := hsi.got4 hst hbe
 rw [hX]
 have nm2 := mem_drop (p := fun y => 0 ≤ y.num ∧ y.num ≤ 100) hnm
 refine RX.drain ⟨g1, ?_, fun y hy _ => mem_drop (p := SsOk D) h2 y hy, nm2, ?_, ?_⟩ (no_m1 nm2) i
 ·show ∀ (j : Nat) (sj : PS), (x.P.set i (si.put s.cn good now))[j]? = some sj → SP D (exF (-1) (A ++ B)) j sj
  rw [exF_all nm2]
  exact po_set hi (hsi.away.put hp.ph u2 u1 good (Nat.le_trans hp.nw hn1) hnw) fun j sj _ hpj => (h1 j sj hpj).away
 ·show tlF _ x.E = some (told (A ++ B))
  rw [hE, told_drop hn, hT]; rfl
 ·show (x.b.doneX _ _ _).V.length = (x.P.set i _).length
  rw [doneX_len, List.length_set]; exact h.vl
theorem RX.advP {T : Int → Int} {D : Nat} {x : PX} (h : RX T D (-1) x) (i : Nat) : RX T D (-1) (x.advP x.now i) := by
 unfold PX.advP
 cases hi : x.P[i]? with
 | none => exact h
 | some si =>
  have hp := h.g.po i si hi
  obtain ⟨a, b⟩ := ph_adv hp.ph hp.nw
  have g1 := h.g.pool hi (hp.op (opd_adv (pend_who hp) x.now) a b)
  refine RX.drain ⟨g1, ?_, h.ss, h.nm, h.tl, ?_⟩ (no_m1 h.nm) i
  ·exact po_set hi ((h.sp i si hi).adv hp.ph (pend_who hp) x.now) fun j sj _ hpj => h.sp j sj hpj
  ·show x.b.V.length = (x.P.set i _).length
   rw [List.length_set]; exact h.vl
theorem RX.advK {T : Int → Int} {D : Nat} {x : PX} (h : RX T D (-1) x) {now : Nat} (hn : x.now ≤ now) : ∀ k, RX T D (-1) (x.advK now k)
 | 0 => ⟨h.g.at_ hn, h.sp, h.ss, h.nm, h.tl, h.vl⟩
 | k + 1 => by
  have ih := RX.advK h hn k
  have := ih.advP k
  rw [(advK_facts x now k).1] at this
  rw [advK_next]; exact this
theorem RX.due {T : Int → Int} {D : Nat} {x : PX} (h : RX T D (-1) x) {now : Nat} (hnow : x.now = now) (hnw : now ≠ 18446744073709551615) (htr : x.pl.tries ≤ 100) {s : Ss} (hs : s ∈ x.S) (hst : s.st = 1) : RX T D (-1) (x.dueF now s) := by
 obtain ⟨A, B, hS⟩ := List.append_of_mem hs
 have g2 := h.g.dueF now hS hst htr
 obtain ⟨h1, h2⟩ := h.all
 have hn := h.g.nd
 have hnm := h.nm
 have htl := h.tl
 have hr := hnm s hs
 unfold PX.dueF at g2 ⊢
 by_cases hd : s.dl ≤ now
 ·rw [if_pos hd, filt_num hS h.g.nd] at g2 ⊢
  rw [hS] at hn hnm htl h2
  simp only [hS] at h1
  have nm2 := mem_drop (p := fun y => 0 ≤ y.num ∧ y.num ≤ 100) hnm
  refine ⟨g2, ?_, fun y hy _ => mem_drop (p := SsOk D) h2 y hy, nm2, tlF_app htl (tl_fail hn hr (by omega) _ _ _), h.vl⟩
  show ∀ (j : Nat) (sj : PS), x.P[j]? = some sj → SP D (exF (-1) (A ++ B)) j sj
  rw [exF_all nm2]
  exact fun j sj hj => (h1 j sj hj).away
 ·rw [if_neg hd] at g2 ⊢
  have hdl := (h2 s hs).2.1
  simp only [hS] at h1
  refine RX.att h.g g2 hS (.inr hst) (fun j sj hj => (h1 j sj hj).away) (fun y hy => h2 y (by rw [hS]; rcases List.mem_append.1 hy with q | q; exact List.mem_append_left _ q; exact List.mem_append_right _ (List.mem_cons_of_mem _ q))) hdl (by omega) (by omega) hnm htl h.vl
theorem dueF_now (x : PX) (now : Nat) (s : Ss) : (x.dueF now s).now = x.now ∧ (x.dueF now s).pl = x.pl := by
 have hf : ∀ y : PX, (y.fldF s).now = y.now ∧ (y.fldF s).pl = y.pl := fun y => by unfold PX.fldF; split <;> exact ⟨rfl, rfl⟩
 unfold PX.dueF
 split
 ·exact ⟨rfl, rfl⟩
 ·unfold PX.attF
  split
  ·exact hf x
  ·split
   ·rename_i si _
    obtain ⟨_, _, p3, p4, _⟩ := attX_fields x s si
    exact ⟨p3, p4⟩
   ·exact ⟨rfl, rfl⟩
theorem RX.dues {T : Int → Int} {D now : Nat} (hnw : now ≠ 18446744073709551615) : ∀ (L : List Ss) {x : PX}, RX T D (-1) x → x.now = now → x.pl.tries ≤ 100 → (L.map (·.num)).Nodup → (∀ s ∈ L, s ∈ x.S ∧ s.st = 1) → RX T D (-1) (L.foldl (PX.dueF now) x)
 | [], x, h, _, _, _, _ => h
 | s :: r, x, h, hn, ht, hnd, hL => by
  obtain ⟨hs, hst⟩ := hL s (List.mem_cons_self ..)
  rw [List.map_cons, List.nodup_cons] at hnd
  obtain ⟨q1, q2⟩ := dueF_now x now s
  exact RX.dues hnw r (h.due hn hnw ht hs hst) (q1.trans hn) (by rw [q2]; exact ht) hnd.2 fun z hz => ⟨dueF_only x now s z (hL z (List.mem_cons_of_mem _ hz)).1 (fun e9 => hnd.1 (by rw [← e9]; exact List.mem_map_of_mem hz)), (hL z (List.mem_cons_of_mem _ hz)).2⟩
theorem RX.adv {T : Int → Int} {D : Nat} {x : PX} (h : RX T D (-1) x) (htr : x.pl.tries ≤ 100) {now : Nat} (hn : x.now ≤ now) (hnw : now ≠ 18446744073709551615) : RX T D (-1) (x.adv now) := by
 have h0 := h.advK hn x.P.length
 obtain ⟨f1, f2, _, _⟩ := advK_facts x now x.P.length
 exact RX.dues hnw _ h0 f1 (by rw [f2]; exact htr) (due_nodup h0.g.nd) fun s hs => ⟨(due_mem hs).1, (due_mem hs).2.1⟩
theorem RX.nx {T T2 : Int → Int} {D : Nat} {ex : Int} {x : PX} (h : RX T D ex x) {v : Xv} {r : List Xv} (hE : x.E = v :: r) (h1 : tl1 T v = some T2) : RX T2 D ex x.nx := by
 have ht := h.tl
 rw [hE] at ht
 have ht : (match tl1 T v with | none => none | some T' => tlF T' r) = some (told x.S) := ht
 rw [h1] at ht
 refine ⟨⟨h.g.bl, h.g.nd, h.g.ks, h.g.bk, h.g.po⟩, h.sp, h.ss, h.nm, ?_, h.vl⟩
 show tlF T2 (x.E.drop 1) = _
 rw [hE]; exact ht
theorem RX.ev {T : Int → Int} {D : Nat} {ex : Int} {x : PX} (h : RX T D ex x) {v : Xv} {r : List Xv} (hE : x.E = v :: r) : v.k = 4 ∨ (v.k ≠ 4 ∧ (0 ≤ v.s ∧ v.s ≤ 100) ∧ T v.s = 1) := by
 have ht := h.tl
 rw [hE] at ht
 have ht : (match tl1 T v with | none => none | some T' => tlF T' r) = some (told x.S) := ht
 by_cases h4 : v.k = 4
 ·exact .inl h4
 ·by_cases hc : (0 ≤ v.s ∧ v.s ≤ 100) ∧ T v.s = 1
  ·exact .inr ⟨h4, hc⟩
  ·have : tl1 T v = none := by unfold tl1; rw [if_neg h4, if_neg hc]
   rw [this] at ht; cases ht
theorem RX.apart {T : Int → Int} {D : Nat} {x : PX} (h : RX T D (-1) x) {y z : Ss} (hy : y ∈ x.S) (hz : z ∈ x.S) (h4 : y.st = 4) (h5 : z.st = 4) (hb : y.be = z.be) (hc : y.cn = z.cn) : y.num = z.num := by
 obtain ⟨h1, _⟩ := h.all
 obtain ⟨i, hbe, hil⟩ := h.g.bk y hy (.inr (.inr h4))
 obtain ⟨si, hi⟩ := getE (T := x.P) (i := i) hil
 obtain ⟨A, B, hS⟩ := List.append_of_mem hy
 have hsi := h1 i si hi
 rw [hS] at hsi hz
 have hg := (hsi.got4 h4 hbe).1
 rcases List.mem_append.1 hz with q | q
 ·exact absurd (List.mem_append_left _ (by rw [hc]; exact List.mem_map_of_mem (f := fun s : Ss => s.cn) (List.mem_filter.2 ⟨List.mem_append_left _ q, decide_eq_true ⟨h5, by rw [← hb]; exact hbe⟩⟩))) hg
 ·rcases List.mem_cons.1 q with rfl | q
  ·rfl
  ·exact absurd (List.mem_append_left _ (by rw [hc]; exact List.mem_map_of_mem (f := fun s : Ss => s.cn) (List.mem_filter.2 ⟨List.mem_append_right _ q, decide_eq_true ⟨h5, by rw [← hb]; exact hbe⟩⟩))) hg
theorem leaves_Q : ∀ (L : List Qp) (s : PS), (L.foldl PS.tmo s).Q = s.Q.filter (fun q => decide (q.who ∉ L.map (·.who)))
 | [], s => (List.filter_eq_self.2 fun q _ => by simp).symm
 | a :: r, s => by
  rw [List.foldl_cons, leaves_Q r (s.tmo a)]
  show (s.Q.filter _).filter _ = _
  rw [List.filter_filter]
  refine List.filter_congr fun q _ => ?_
  by_cases e : q.who = a.who <;> simp [e]
theorem shuts_Q : ∀ (L : List Int) (s : PS), s.Q = [] → (L.foldl PS.shut s).Q = []
 | [], s, h => h
 | c :: r, s, h => by
  refine shuts_Q r (s.shut c) ?_
  show ((((s.tell 5 (-1) c).set c.toNat ⟨0, 0, 0⟩).next).Q) = []
  rw [PS.next_nil (show ((s.tell 5 (-1) c).set c.toNat ⟨0, 0, 0⟩).Q = [] from h)]
  exact h
theorem adv_Q0 {s : PS} {now : Nat} (hm : s.may true now = 0) (h : ∀ q ∈ s.Q, q.dl ≤ now) : (s.advance now).Q = [] := by
 rw [adv_ok hm]
 refine shuts_Q _ _ ?_
 show ((s.late now).foldl PS.tmo (s.at_ now)).Q = []
 rw [leaves_Q]
 refine List.filter_eq_nil_iff.2 fun q hq => ?_
 have : q ∈ s.late now := (late_perm s now).mem_iff.2 (List.mem_filter.2 ⟨hq, decide_eq_true (h q hq)⟩)
 simp only [decide_eq_true_eq]
 exact fun e => e (List.mem_map_of_mem this)
theorem advK_pend {T : Int → Int} {D : Nat} {x : PX} (h : RX T D (-1) x) (hE : ∀ si ∈ x.P, si.E = []) {now : Nat} (hn : x.now ≤ now) (hnw : now ≠ 18446744073709551615) (hD : D ≤ now) : ∀ k, k ≤ x.P.length → ∀ (j : Nat) (sj : PS), j < k → (x.advK now k).P[j]? = some sj → sj.pend = []
 | 0, _, j, sj, hj, _ => by omega
 | k + 1, hk, j, sj, hj, hpj => by
  have hX := h.advK hn k
  obtain ⟨f1, f2, f3, f4⟩ := advK_facts x now k
  rw [advK_next] at hpj
  by_cases e : j = k
  ·subst e
   obtain ⟨si, hi⟩ := getE (T := x.P) (i := j) (by omega)
   have hi2 : (x.advK now j).P[j]? = some si := by rw [f4 j (Nat.le_refl _)]; exact hi
   have hp := hX.g.po j si hi2
   have hm : si.may true now = 0 := may_fine rfl (by have := hp.nw; omega)
   have hQ := adv_Q0 hm fun q hq => Nat.le_trans ((hX.sp j si hi2).qd q hq) hD
   have hil := (List.getElem?_eq_some_iff.1 hi2).1
   unfold PX.advP at hpj
   rw [hi2] at hpj
   have hi3 : ({ (x.advK now j) with P := (x.advK now j).P.set j (si.advance now) } : PX).P[j]? = some (si.advance now) := List.getElem?_set_self hil
   have hpj : (PX.drain { (x.advK now j) with P := (x.advK now j).P.set j (si.advance now) } j).P[j]? = some sj := hpj
   have hdr : PX.drain { (x.advK now j) with P := (x.advK now j).P.set j (si.advance now) } j = PX.drainL j (si.advance now).E.length { (x.advK now j) with P := (x.advK now j).P.set j (si.advance now) } := by
    unfold PX.drain; rw [hi3]
   rw [hdr] at hpj
   obtain ⟨s', q1, q2⟩ := drain_E0 hi3 _ _ _ hi3 (Nat.le_refl _)
   rw [q1] at hpj
   cases hpj
   rw [q2]
   show (List.filter _ []).map _ ++ (si.advance now).Q.map _ = []
   rw [hQ]; rfl
  ·rw [advP_other e] at hpj
   exact advK_pend h hE hn hnw hD k (by omega) j sj (by omega) hpj
theorem dues_S {now : Nat} : ∀ (L : List Ss) (x : PX), (∀ s ∈ L, s.dl ≤ now) → (L.foldl (PX.dueF now) x).S = x.S.filter fun y => decide (y.num ∉ L.map (·.num))
 | [], x, _ => (List.filter_eq_self.2 fun q _ => by simp).symm
 | s :: r, x, h => by
  rw [List.foldl_cons, dues_S r _ fun z hz => h z (List.mem_cons_of_mem _ hz)]
  unfold PX.dueF
  rw [if_pos (h s (List.mem_cons_self ..))]
  show (x.S.filter _).filter _ = _
  rw [List.filter_filter]
  refine List.filter_congr fun q _ => ?_
  by_cases e : q.num = s.num <;> simp [e]
theorem RX.late {T : Int → Int} {D : Nat} {x : PX} (h : RX T D (-1) x) (hE : ∀ si ∈ x.P, si.E = []) {now : Nat} (hn : x.now ≤ now) (hnw : now ≠ 18446744073709551615) (hD : D ≤ now) : ∀ y ∈ (x.adv now).S, y.st = 3 ∨ y.st = 4 := by
 have hX := h.advK hn x.P.length
 obtain ⟨f1, f2, f3, f4⟩ := advK_facts x now x.P.length
 have hpe := advK_pend h hE hn hnw hD x.P.length (Nat.le_refl _)
 obtain ⟨a1, a2⟩ := hX.all
 intro y hy
 have hyS : y ∈ ((x.advK now x.P.length).due.foldl (PX.dueF now) (x.advK now x.P.length)).S := hy
 rw [dues_S _ _ fun s hs => Nat.le_trans (a2 s (due_mem hs).1).2.1 hD] at hyS
 obtain ⟨hyX, hno⟩ := List.mem_filter.1 hyS
 have hno := of_decide_eq_true hno
 obtain ⟨hst, hdl, htil⟩ := a2 y hyX
 have h1 : y.st ≠ 1 := fun e => hno (List.mem_map_of_mem ((due_perm _).mem_iff.2 (List.mem_filter.2 ⟨hyX, decide_eq_true ⟨e, by rw [f1]; exact Nat.le_trans (htil e) hD⟩⟩)))
 have h2 : y.st ≠ 2 := fun e => by
  obtain ⟨j, hbe, hjl⟩ := hX.g.bk y hyX (.inl e)
  obtain ⟨sj, hj⟩ := getE (T := (x.advK now x.P.length).P) (i := j) hjl
  have := (a1 j sj hj).wq y hyX e hbe
  rw [hpe j sj (by omega) hj] at this
  cases this
 omega
theorem drainL_S (i : Nat) : ∀ (n : Nat) (x : PX), (∀ si, x.P[i]? = some si → si.pend = []) → (PX.drainL i n x).S = x.S
 | 0, x, _ => rfl
 | n + 1, x, h => by
  unfold PX.drainL
  split
  ·rfl
  ·rename_i si hi
   split
   ·rfl
   ·rename_i e r hE
    have hp := h si hi
    have h5 : e.k = 5 := Decidable.byContradiction fun e5 => by rw [pend_nx hE e5] at hp; cases hp
    rw [drE_5 h5, drainL_S i n _ fun sj hj => ?_]
    ·rfl
    ·have hj : (x.P.set i si.nx)[i]? = some sj := hj
     rw [List.getElem?_set_self (List.getElem?_eq_some_iff.1 hi).1] at hj
     rw [← Option.some.inj hj, pend_nx5 hE h5]; exact hp
theorem ended_S {w b e : Nat} {x : PX} (o : PXO w b e x) (hno : ∀ y ∈ x.S, y.st ≠ 2) {A B : List Ss} {s : Ss} (hS : x.S = A ++ s :: B) (hst : s.st = 4) (good : Bool) {now : Nat} (hn1 : x.now ≤ now) : (x.endN s good now).S = A ++ B := by
 have hs : s ∈ x.S := by rw [hS]; exact List.mem_append_right _ (List.mem_cons_self ..)
 obtain ⟨i, hbe, hil⟩ := o.g.bk s hs (.inr (.inr hst))
 obtain ⟨si, hi⟩ := getE (T := x.P) (i := i) hil
 have hp := o.g.po i si hi
 have hX : x.endN s good now = PX.drain { x with now := now, P := x.P.set i (si.put s.cn good now), b := x.b.doneX now s.cal good, S := A ++ B } i := by
  rw [endN_eq hbe hi]; unfold PX.end1; rw [filt_num hS o.g.nd]
 have hpe : si.pend = [] := by
  cases hq : si.pend with
  | nil => rfl
  | cons a r =>
   obtain ⟨y, hy, _, e1, _⟩ := hp.wt a (by rw [hq]; exact List.mem_cons_self ..)
   exact absurd e1 (hno y hy)
 have hpe2 : (si.put s.cn good now).pend = [] := by have := (opd_put si s.cn good now).pend; rw [hpe] at this; exact List.perm_nil.1 this
 rw [hX]
 obtain ⟨n, e⟩ := drain_eqL { x with now := now, P := x.P.set i (si.put s.cn good now), b := x.b.doneX now s.cal good, S := A ++ B } i
 rw [e]
 refine drainL_S i n _ fun sj hj => ?_
 have hj : (x.P.set i (si.put s.cn good now))[i]? = some sj := hj
 rw [List.getElem?_set_self hil] at hj
 rw [← Option.some.inj hj]; exact hpe2
theorem dialed_S {w b e : Nat} {x : PX} (o : PXO w b e x) {A B : List Ss} {s : Ss} (hS : x.S = A ++ s :: B) (hst : s.st = 3) (now : Nat) : (x.dialN s true now).S = A ++ { s with st := 4 } :: B := by
 have hs : s ∈ x.S := by rw [hS]; exact List.mem_append_right _ (List.mem_cons_self ..)
 obtain ⟨i, hbe, hil⟩ := o.g.bk s hs (.inr (.inl hst))
 obtain ⟨si, hi⟩ := getE (T := x.P) (i := i) hil
 rw [dialN_eq hbe hi, if_pos rfl]
 exact updS_at hS o.g.nd _
theorem inX_is {x : PX} {n st : Int} {now : Nat} (hr : 0 ≤ n ∧ n ≤ 100) (h1 : x.now ≤ now) (h2 : now ≠ 18446744073709551615) : x.inX n st now = (match x.S.find? (fun s => decide (s.num = n)) with | none => 9 | some s => if s.st = st then 0 else 9) := by
 have hm : x.may (decide (0 ≤ n ∧ n ≤ 100)) now = 0 := by unfold PX.may; rw [decide_eq_true hr, if_neg (by decide), if_neg (by omega)]
 unfold PX.inX
 rw [if_neg (by rw [hm]; decide)]
 rfl
theorem RX.dialX {T : Int → Int} {D w b e : Nat} {x : PX} (o : PXO w b e x) (h : RX T D (-1) x) (n : Int) (good : Bool) (now : Nat) : RX T D (-1) (x.dialX n good now) := by
 by_cases he : x.inX n 3 now = 0
 ·obtain ⟨A, s, B, hS, rfl, hst, hm, hr, hn1, hn2⟩ := inX_zero he
  have hs : s ∈ x.S := by rw [hS]; exact List.mem_append_right _ (List.mem_cons_self ..)
  have hX : x.dialX s.num good now = x.dialN s good now := by unfold PX.dialX; rw [if_neg (by rw [he]; decide), find_num o.g.nd hs]
  rw [hX]
  exact RX.dialed o h hS hst good hn1 hn2
 ·have hX : x.dialX n good now = x := by unfold PX.dialX; rw [if_pos he]
  rw [hX]; exact h
theorem RX.endX {T : Int → Int} {D w b e : Nat} {x : PX} (o : PXO w b e x) (h : RX T D (-1) x) (hE : x.E = []) (n : Int) (good : Bool) (now : Nat) (he : x.inX n 4 now = 0) : RX (updT T n 0) D (-1) (x.endX n good now) := by
 obtain ⟨A, s, B, hS, rfl, hst, hm, hr, hn1, hn2⟩ := inX_zero he
 have hs : s ∈ x.S := by rw [hS]; exact List.mem_append_right _ (List.mem_cons_self ..)
 have hX : x.endX s.num good now = x.endN s good now := by unfold PX.endX; rw [if_neg (by rw [he]; decide), find_num o.g.nd hs]
 rw [hX]
 exact RX.ended o h hE hS hst good hn1 hn2
theorem endX_no {x : PX} {n : Int} {good : Bool} {now : Nat} (he : x.inX n 4 now ≠ 0) : x.endX n good now = x := by unfold PX.endX; rw [if_pos he]
theorem end_told {x : PX} (hnd : (x.S.map (·.num)).Nodup) {n : Int} {now : Nat} (hr : 0 ≤ n ∧ n ≤ 100) (h1 : x.now ≤ now) (h2 : now ≠ 18446744073709551615) : (x.inX n 4 now = 0) ↔ told x.S n = 2 := by
 rw [inX_is hr h1 h2]
 unfold told
 cases x.S.find? (fun s => decide (s.num = n)) with
 | none => exact ⟨fun e => absurd e (show ¬ (9 : Int) = 0 by decide), fun e => absurd e (show ¬ (0 : Int) = 2 by decide)⟩
 | some s =>
  dsimp only
  by_cases h4 : s.st = 4
  ·rw [if_pos h4, if_pos h4]; exact ⟨fun _ => rfl, fun _ => rfl⟩
  ·rw [if_neg h4, if_neg h4]; exact ⟨fun e => absurd e (by decide), fun e => absurd e (by decide)⟩
theorem beg_told {x : PX} {n : Int} {now dl : Nat} {key : ByteArray} (hr : 0 ≤ n ∧ n ≤ 100) (hk : key.size ≤ 64) (h1 : x.now ≤ now) (h2 : now ≠ 18446744073709551615) (hd : now < dl) : (x.begE n now dl key = 0) ↔ told x.S n = 0 := by
 have hm : x.may (decide ((0 ≤ n ∧ n ≤ 100) ∧ key.size ≤ 64)) now = 0 := by unfold PX.may; rw [decide_eq_true ⟨hr, hk⟩, if_neg (by decide), if_neg (by omega)]
 unfold PX.begE
 rw [if_neg (by rw [hm]; decide), if_neg (by omega)]
 by_cases hin : n ∈ x.S.map (·.num)
 ·rw [if_pos hin]
  refine ⟨fun e => absurd e (by decide), fun e => ?_⟩
  unfold told at e
  cases hf : x.S.find? (fun s => decide (s.num = n)) with
  | none =>
   obtain ⟨y, hy, hyn⟩ := List.mem_map.1 hin
   have := List.find?_eq_none.1 hf y hy
   simp [hyn] at this
  | some s =>
   rw [hf] at e
   dsimp only at e
   split at e <;> exact absurd e (by decide)
 ·rw [if_neg hin]
  exact ⟨fun _ => told_out hin, fun _ => rfl⟩
theorem may_is {x : PX} {now : Nat} (h1 : x.now ≤ now) (h2 : now ≠ 18446744073709551615) : x.may true now = 0 := by unfold PX.may; rw [if_neg (by decide), if_neg (by omega)]
theorem st_told {x : PX} (n : Int) : (told x.S n = 0 → (x.stX n).1 = 0) ∧ ((x.stX n).1 = 4 → told x.S n = 2) ∧ (told x.S n = 2 → (x.stX n).1 = 4) := by
 unfold told PX.stX
 cases x.S.find? (fun s => decide (s.num = n)) with
 | none => exact ⟨fun _ => rfl, fun e => absurd e (show ¬ (0 : Int) = 4 by decide), fun e => absurd e (show ¬ (0 : Int) = 2 by decide)⟩
 | some s =>
  dsimp only
  refine ⟨fun e => ?_, fun e => by rw [if_pos e], fun e => Decidable.byContradiction fun h4 => by rw [if_neg h4] at e; exact absurd e (by decide)⟩
  split at e <;> exact absurd e (by decide)
theorem st_none {T : Int → Int} {D : Nat} {x : PX} (h : RX T D (-1) x) (n : Int) (e : (x.stX n).1 = 0) : told x.S n = 0 := by
 unfold PX.stX at e
 unfold told
 cases hf : x.S.find? (fun s => decide (s.num = n)) with
 | none => rfl
 | some s =>
  rw [hf] at e
  have := (h.all.2 s (List.mem_of_find?_eq_some hf)).1
  have e : s.st = 0 := e
  omega
theorem xl_next {N : Nat} {m : XM} {x : PX} (h : PXIs N m x) : Spec Tryz.prog 20 [ptrP m.p] (pxH m x) (fun r H' => ∃ m', r = .tuple #[xvV (hdX x.E), .bool (!x.E.isEmpty)] ∧ H' = pxH m' x.nx ∧ PXIs N m' x.nx ∧ m'.p = m.p) := by
 cases hE : x.E with
 | nil =>
  have hX : x.nx = x := by unfold PX.nx; rw [hE]; show { x with E := [] } = x; rw [← hE]
  rw [hX]
  refine (pre1 (R := [pxM m, pxV m x, pxQ m] ++ (ssH x.S ++ (balH m.bm ++ poolsH m.pm x.P))) (xnext_none m x hE)).mono ?_
  rintro r H' ⟨h1, h2⟩
  exact ⟨m, h1, h2, h, rfl⟩
 | cons v q =>
  refine Spec.re ((((xnext_some m x h.eO hE).fr ([pxM m, pxQ m] ++ (ssH x.S ++ (balH m.bm ++ poolsH m.pm x.P)))).perm (List.Perm.cons _ (List.Perm.swap _ _ _))).mono ?_)
  rintro r H' ⟨H1, ⟨ek, ec, epre, hr, rfl, hO⟩, rfl⟩
  exact ⟨pxH { m with ek := ek, ec := ec, epre := epre } x.nx, List.Perm.cons _ (List.Perm.swap _ _ _), _, hr, rfl, ⟨h.bal, h.len, h.po, h.oq, h.mp, hO, h.ok, h.seed, h.num, h.vl, h.now⟩, rfl⟩
theorem xl_state {N : Nat} {m : XM} {x : PX} (h : PXIs N m x) (n : Int) : Spec Tryz.prog 18 [ptrP m.p, .int .i64 n] (pxH m x) (fun r H' => r = .tuple #[.int .i64 (x.stX n).1, .int .i64 (x.stX n).2.1, .int .i64 (x.stX n).2.2] ∧ H' = pxH m x) := by
 by_cases hin : n ∈ x.S.map (·.num)
 ·obtain ⟨s, hs, rfl⟩ := List.mem_map.1 hin
  have hnd : (x.S.map (·.num)).Nodup := by rw [← sesM_keys]; exact h.mp.nodup
  have hX : x.stX s.num = (s.st, s.be, s.cn) := by unfold PX.stX; rw [find_num hnd hs]
  obtain ⟨A, B, hS⟩ := List.append_of_mem hs
  have hperm : (ssH x.S).Perm (seE s :: ssH (A ++ B)) := by rw [hS]; exact ssH_split A B s
  rw [hX]
  refine Spec.re ((((xstate_in m x h.mp s (List.mem_map_of_mem (f := fun s : Ss => (s.num, s.p)) hs)).fr _).perm (px_perm5 hperm)).mono ?_)
  rintro r H' ⟨H1, ⟨hr, rfl⟩, rfl⟩
  exact ⟨pxH m x, (px_perm5 hperm).symm, hr, rfl⟩
 ·have hX : x.stX n = (0, -1, -1) := by unfold PX.stX; rw [find_out hin]
  rw [hX]
  exact pre2 (R := [pxV m x, pxQ m] ++ (ssH x.S ++ (balH m.bm ++ poolsH m.pm x.P))) (xstate_out m x h.mp n (by rw [sesM_keys]; exact hin))
theorem lis_ok {N : Nat} {m : XM} {x : PX} (h : PXIs N m x) (n st be cn : Int) : Spec Tryz.prog 21 [ptrP m.p, .int .i64 n, .int .i64 st, .int .i64 be, .int .i64 cn] (pxH m x) (fun r H' => r = .bool (decide (x.stX n = (st, be, cn))) ∧ H' = pxH m x) := by
 have key : (x.stX n = (st, be, cn)) ↔ (x.stX n).1 = st ∧ (x.stX n).2.1 = be ∧ (x.stX n).2.2 = cn := by
  rcases x.stX n with ⟨a, b, c⟩
  simp
 rw [decide_eq_decide.2 key]
 refine Spec.of (E := [(0, ptrP m.p), (1, .int .i64 n), (2, .int .i64 st), (3, .int .i64 be), (4, .int .i64 cn)]) Tryz.func21 rfl (by kernel_rfl) Tryz.ntmps21 rfl rfl (fun w => ?_)
 refine WCr (WLa Z (WL_nil (WQ_code (WCr (WLa Z (WLa Z (WLc Z (xl_state h n) Z pqD ?_)))))))
 rintro _ _ ⟨_, ⟨rfl, rfl⟩, rfl⟩
 refine WLa Z (WLa Z (WLa Z (WLa Z (WLa Z (WLa Z (WLa Z (WL_nil (WQ_code (WCr (WLa Z (WLa Z (WLa Z (WLa Z ?_)))))))))))))
 refine WL_splitD (s := 24) Z (fun c1 => ?_) (fun c1 => ?_)
 ·have hg1 := c1
  refine WLa Z (WLa Z (WLa Z (WLa Z (WLa Z ?_))))
  refine WL_splitD (s := 29) Z (fun c2 => ?_) (fun c2 => ?_)
  ·have hg2 := c2
   refine WLa Z (WLa Z (WLa Z (WLa Z (WLa Z (WL_nil (WQ_code (WC_ret ?_)))))))
   refine WQ1 Z (by
     first | exact ⟨congrArg Value.bool (decide_eq_decide.2 (by omega)), rfl⟩ | exact ⟨congrArg Value.bool (decide_eq_false (by omega)).symm, rfl⟩ | exact ⟨congrArg Value.bool (by simp_all), rfl⟩) pqD
  ·have hg2 := c2
   refine WLa Z (WLa Z (WLa Z (WLa Z (WLa Z (WL_nil (WQ_code (WC_ret ?_)))))))
   refine WQ1 Z (by
     first | exact ⟨congrArg Value.bool (decide_eq_decide.2 (by omega)), rfl⟩ | exact ⟨congrArg Value.bool (decide_eq_false (by omega)).symm, rfl⟩ | exact ⟨congrArg Value.bool (by simp_all), rfl⟩) pqD
 ·have hg1 := c1
  refine WLa Z (WLa Z (WLa Z (WLa Z (WLa Z (WLa Z (WLa Z (WLa Z (WLa Z (WLa Z (WL_nil (WQ_code (WC_ret ?_))))))))))))
  refine WQ1 Z (by
    first | exact ⟨congrArg Value.bool (decide_eq_decide.2 (by omega)), rfl⟩ | exact ⟨congrArg Value.bool (decide_eq_false (by omega)).symm, rfl⟩ | exact ⟨congrArg Value.bool (by simp_all), rfl⟩) pqD
theorem ltells_ok {N : Nat} {m : XM} {x : PX} (h : PXIs N m x) {k s b c e : Int} {r : List Xv} (hE : x.E = ⟨k, s, b, c, e⟩ :: r) : Spec Tryz.prog 25 [ptrP m.p, .int .i64 k, .int .i64 s, .int .i64 b, .int .i64 c, .int .i64 e] (pxH m x) (fun r H' => ∃ m', r = .bool true ∧ H' = pxH m' x.nx ∧ PXIs N m' x.nx ∧ m'.p = m.p) := by
 refine Spec.of (E := [(0, ptrP m.p), (1, .int .i64 k), (2, .int .i64 s), (3, .int .i64 b), (4, .int .i64 c), (5, .int .i64 e)]) Tryz.func25 rfl (by kernel_rfl) Tryz.ntmps25 rfl rfl (fun w => ?_)
 refine WCr (WLa Z (WL_nil (WQ_code (WCr (WLa Z (WLc Z (xl_next h) Z pqD ?_))))))
 rintro _ _ ⟨_, ⟨m1, rfl, rfl, h1, hp1⟩, rfl⟩
 rw [hE]
 refine WLa Z (WLa Z (WLa Z (WLd Z (D_alloc Z zv63) ?_)))
 rintro _ _ ⟨b1, rfl, rfl⟩
 refine WLs (vs := [_, _, _, _, _]) Z Tryz.sizeOf63 Z Z plD (nb Z) ?_
 refine WLa Z (WL_set (s := 14) (v := .bool true) Z (by rfl) ?_)
 refine WL_nil (WQ_code (WCr (WLa Z (WLa Z (WLv Z (R_loadA (vs := [_, _, _, _, _]) Z ag63 Z mmD Z atZ) ?_)))))
 refine WLa Z (WLa Z (WLa Z (WLa Z (WLa Z (WLv Z (R_build Z zv63 pl63 Z Z) ?_)))))
 refine WLv Z (R_seq63 Z Z Z Z) ?_
 refine WLa Z (WL_set (s := 30) (v := .bool true) Z (by exact congrArg Value.bool (by simp [hdX])) ?_)
 refine WLa Z (WL_nil (WQ_code (WC_ret ?_)))
 refine WQ1 Z (by
   exact ⟨m1, rfl, rfl, h1, hp1⟩) pqD
theorem lsett_ok : Spec Tryz.prog 24 [] [] (fun r H' => ∃ b, r = .agg (xsetL 1 (some ⟨b, 0, none⟩) 2 2 1 100 1 1 18446744073709551615 ⟨5, 5, 1, 1, 2, 0, 0⟩).toArray ∧ H' = [⟨some b, cl (ivs [1, 1]) 3⟩]) := by
 refine Spec.of (E := []) Tryz.func24 rfl (by kernel_rfl) Tryz.ntmps24 rfl rfl (fun w => ?_)
 refine WCr (WLd Z (D_alloc Z zv30) ?_)
 rintro _ _ ⟨b1, rfl, rfl⟩
 refine WL_nil (WQ_code (WCr (WLd Z (D_buildSlice Z si23 Z Z Z) ?_)))
 rintro _ _ ⟨b2, rfl, rfl⟩
 refine WLv Z (R_build Z zv28 pl28 Z Z) ?_
 refine WLv Z (R_build Z zv30 pl30 Z Z) ?_
 refine WLs (vs := [_, _, _, _, _, _, _, _, _, _, _, _, _, _]) Z Tryz.sizeOf30 Z Z plD (nb Z) ?_
 refine WL_nil (WQ_code (WC_ret ?_))
 refine WQ_ret Z Z (.cons (.cell (vs := [_, _, _, _, _, _, _, _, _, _, _, _, _, _]) Z ag30 mmD Z atZ) .nil) Z (by
   exact ⟨b2, rfl, rfl⟩) pqD
theorem PXO.new {k : Nat} {W : List Int} {limit : Int} {brk : Nat} {op idle : Int} {keep : Nat} {p : Plan} (hp : OkP p) (hq : POk op idle keep) : PXO 0 0 0 (px0 k W limit brk op idle keep p) := by
 have hC : ∀ x ∈ (PS.new op.toNat idle.toNat keep).C, x.st = 0 := fun x hx => by rw [List.eq_of_mem_replicate hx]
 refine ⟨⟨Nat.le_refl _, List.nodup_nil, fun s hs => (by cases hs), fun s hs => (by cases hs), fun i si hi => ?_⟩, ?_, fun si hs => ?_, Nat.le_refl _, ?_⟩
 ·have := List.mem_of_getElem? hi
  rw [List.eq_of_mem_replicate this]
  exact ⟨ph_new (by obtain ⟨a, b, c⟩ := hq; omega) (by obtain ⟨a, b, c⟩ := hq; omega), Nat.le_refl _, List.nodup_nil, fun e he => (by cases he), fun w hw => (by cases hw), fun c x hx hs => absurd (hC x (List.mem_of_getElem? hx)) (by rw [hs]; decide)⟩
 ·show ((List.replicate W.length (PS.new op.toNat idle.toNat keep)).map wt).sum + 0 ≤ 0
  rw [List.map_replicate, wt_new]
  simp
 ·rw [List.eq_of_mem_replicate hs]; exact ⟨rfl, Nat.le_refl _⟩
 ·obtain ⟨q1, q2, q3, q4, q5, q6, q7, q8, q9, q10⟩ := hp; exact q8
def pxK (m : XM) (x : PX) : Heap := pxH m x
theorem xm_begin {N : Nat} {m : XM} {x : PX} {w b e : Nat} (h : PXIs N m x) (o : PXO w b e x) (hN : N ≤ 8000) (hE : e ≤ 10000) (hB : b ≤ 1000000) (n : Int) (now dl : Nat) (hb : now ≤ 18446744073709551615) (key : ByteArray) :
  Spec Tryz.prog 12 [ptrP m.p, .int .i64 n, .int .u64 (now : Int), .int .u64 (dl : Int), .string key] (pxK m x) (fun r H' => ∃ m' x', r = .int .i64 (x.begE n now dl key) ∧ H' = pxK m' x' ∧ PXIs (N + 1) m' x' ∧ m'.p = m.p ∧ PXO (w + 1) (b + 1) (e + 1) x' ∧ ((x.begE n now dl key ≠ 0 ∧ x' = x) ∨ (x.begE n now dl key = 0 ∧ ∃ p, x' = x.begin n now dl key p))) := by
 unfold pxK; apply xl_begin <;> assumption
theorem xm_dialed {N : Nat} {m : XM} {x : PX} {w b e : Nat} (h : PXIs N m x) (o : PXO w b e x) (hN : N ≤ 7900) (hE : e ≤ 10000) (n : Int) (good : Bool) (now : Nat) (hb : now ≤ 18446744073709551615) :
  Spec Tryz.prog 13 [ptrP m.p, .int .i64 n, .bool good, .int .u64 (now : Int)] (pxK m x) (fun r H' => ∃ m', r = .int .i64 (x.inX n 3 now) ∧ H' = pxK m' (x.dialX n good now) ∧ PXIs (N + 3) m' (x.dialX n good now) ∧ m'.p = m.p ∧ PXO (w + 1) (b + 1) (e + 3) (x.dialX n good now)) := by
 unfold pxK; apply xl_dialed <;> assumption
theorem xm_end {N : Nat} {m : XM} {x : PX} {w b e : Nat} (h : PXIs N m x) (o : PXO w b e x) (hN : N ≤ 7900) (hE : e ≤ 10000) (n : Int) (good : Bool) (now : Nat) (hb : now ≤ 18446744073709551615) :
  Spec Tryz.prog 14 [ptrP m.p, .int .i64 n, .bool good, .int .u64 (now : Int)] (pxK m x) (fun r H' => ∃ m', r = .int .i64 (x.inX n 4 now) ∧ H' = pxK m' (x.endX n good now) ∧ PXIs (N + 3) m' (x.endX n good now) ∧ m'.p = m.p ∧ PXO (w + 1) (b + 1) (e + 3) (x.endX n good now)) := by
 unfold pxK; apply xl_end <;> assumption
theorem xm_adv {N : Nat} {m : XM} {x : PX} {w b e : Nat} (h : PXIs N m x) (o : PXO w b e x) (hN : N ≤ 7000) (hw : w ≤ 1000) (hE : e ≤ 10000) (hB : b ≤ 1000000) (hP : x.P.length ≤ 100) (now : Nat) (hb : now ≤ 18446744073709551615) :
  Spec Tryz.prog 15 [ptrP m.p, .int .u64 (now : Int)] (pxK m x) (fun r H' => ∃ m', r = .int .i64 (x.may true now) ∧ H' = pxK m' (x.advX now) ∧ PXIs (N + w + 101) m' (x.advX now) ∧ m'.p = m.p ∧ PXO w (b + 102) (e + w + 101) (x.advX now)) := by
 unfold pxK; apply xl_adv <;> assumption
theorem xm_next {N : Nat} {m : XM} {x : PX} (h : PXIs N m x) : Spec Tryz.prog 20 [ptrP m.p] (pxK m x) (fun r H' => ∃ m', r = .tuple #[xvV (hdX x.E), .bool (!x.E.isEmpty)] ∧ H' = pxK m' x.nx ∧ PXIs N m' x.nx ∧ m'.p = m.p) := by
 unfold pxK; apply xl_next <;> assumption
theorem xm_state {N : Nat} {m : XM} {x : PX} (h : PXIs N m x) (n : Int) : Spec Tryz.prog 18 [ptrP m.p, .int .i64 n] (pxK m x) (fun r H' => r = .tuple #[.int .i64 (x.stX n).1, .int .i64 (x.stX n).2.1, .int .i64 (x.stX n).2.2] ∧ H' = pxK m x) := by
 unfold pxK; apply xl_state <;> assumption
theorem mis_ok {N : Nat} {m : XM} {x : PX} (h : PXIs N m x) (n st be cn : Int) : Spec Tryz.prog 21 [ptrP m.p, .int .i64 n, .int .i64 st, .int .i64 be, .int .i64 cn] (pxK m x) (fun r H' => r = .bool (decide (x.stX n = (st, be, cn))) ∧ H' = pxK m x) := by
 unfold pxK; apply lis_ok <;> assumption
theorem mtells_ok {N : Nat} {m : XM} {x : PX} (h : PXIs N m x) {k s b c e : Int} {r : List Xv} (hE : x.E = ⟨k, s, b, c, e⟩ :: r) : Spec Tryz.prog 25 [ptrP m.p, .int .i64 k, .int .i64 s, .int .i64 b, .int .i64 c, .int .i64 e] (pxK m x) (fun r H' => ∃ m', r = .bool true ∧ H' = pxK m' x.nx ∧ PXIs N m' x.nx ∧ m'.p = m.p) := by
 unfold pxK; apply ltells_ok <;> assumption
theorem xm_due {N : Nat} {m : XM} {x : PX} (h : PXIs N m x) (hn : (x.S.map (·.num)).Nodup) : Spec Tryz.prog 22 [ptrP m.p] (pxK m x) (fun r H' => r = .int .u64 (dueV x.S : Int) ∧ H' = pxK m x) := by
 unfold pxK; apply xdue_all <;> assumption
theorem xm_new (k : Nat) (W : List Int) (oa : Option Addr) (c : Nat) (ent : Ent) (ha : Rd oa ent W) (limit : Int) (brk : Nat) (op idle : Int) (keep : Nat) (p : Plan) (h : VOkB (k : Int) W limit brk) (hp : OkP p) (hq : POk op idle keep) (hsd : p.seed < 4294967296) (hkp : keep ≤ 18446744073709551615) : Spec Tryz.prog 9 [.agg (xsetL (k : Int) oa W.length c limit brk op idle keep p).toArray] [ent]
  (fun r H' => ∃ m, r = .tuple #[ptrP m.p, .int .i64 0] ∧ H' = ent :: pxK m (px0 k W limit brk op idle keep p) ∧ PXIs 0 m (px0 k W limit brk op idle keep p)) := by
 unfold pxK; apply xnew_ok <;> assumption
def tlL (T : Int → Int) : List Int := (List.range 101).map fun n : Nat => T (n : Int)
theorem tlL_len (T : Int → Int) : (tlL T).length = 101 := by unfold tlL; rw [List.length_map, List.length_range]
theorem tlL_at (T : Int → Int) {n : Nat} (h : n ≤ 100) : (tlL T)[n]? = some (T (n : Int)) := by
 unfold tlL; rw [List.getElem?_map, List.getElem?_range (by omega)]; rfl
theorem tlL_set (T : Int → Int) {n : Nat} (h : n ≤ 100) (v : Int) : (tlL T).set n v = tlL (updT T (n : Int) v) := by
 refine List.ext_getElem? fun k => ?_
 rw [List.getElem?_set, tlL_len]
 by_cases hk : k ≤ 100
 ·rw [tlL_at _ hk, tlL_at _ hk]
  by_cases e : n = k
  ·subst e; rw [if_pos rfl, if_pos (by omega)]; unfold updT; rw [if_pos rfl]
  ·rw [if_neg e]; unfold updT; rw [if_neg (fun q => e (by omega))]
 ·rw [if_neg (by omega), List.getElem?_eq_none (by rw [tlL_len]; omega), List.getElem?_eq_none (by rw [tlL_len]; omega)]
theorem tlL_put (T : Int → Int) {n : Nat} (h : n ≤ 100) (v : Int) : putAt (ivs (tlL T) ++ []) (0 + n * 1) [.int .i64 v] = ivs (tlL (updT T (n : Int) v)) ++ [] := by
 have := fm_put0 encI1 v (tlL_at T h) (j := 0) (vs := [.int .i64 v]) (by simp) rfl (tl := [])
 rw [Nat.add_zero] at this
 rw [show ivs (tlL (updT T (n : Int) v)) = ((tlL T).set n v).flatMap encI from congrArg ivs (tlL_set T h v).symm]
 exact this
def PX.drp (x : PX) (j : Nat) : PX := { x with E := x.E.drop j }
theorem drp_nx (x : PX) (j : Nat) : (x.drp j).nx = x.drp (j + 1) := by
 show ({ x with E := (x.E.drop j).drop 1 } : PX) = { x with E := x.E.drop (j + 1) }
 rw [List.drop_drop]
theorem drp_end {x : PX} {j : Nat} (h : x.E.length ≤ j) : x.drp j = x.drp x.E.length := by
 unfold PX.drp; rw [List.drop_eq_nil_of_le h, List.drop_length]
theorem drp_E (x : PX) : (x.drp x.E.length).E = [] := List.drop_length
theorem tl1_o {T : Int → Int} {vk vb vc ve : Int} {sn : Nat} (h4 : vk ≠ 4) (hs : sn ≤ 100) (ht : T (sn : Int) = 1) : tl1 T ⟨vk, (sn : Int), vb, vc, ve⟩ = some (if vk = 1 then updT T (sn : Int) 2 else if vk = 3 then updT T (sn : Int) 0 else T) := by
 unfold tl1
 rw [if_neg h4, if_pos ⟨⟨by show (0 : Int) ≤ (sn : Int); omega, by show (sn : Int) ≤ 100; omega⟩, ht⟩]
theorem dr_cases {T : Int → Int} {D : Nat} {x : PX} (h : RX T D (-1) x) : x.E = [] ∨ (∃ v r, x.E = v :: r ∧ v.k = 4) ∨ (∃ vk, ∃ sn : Nat, ∃ vb vc ve r, x.E = ⟨vk, (sn : Int), vb, vc, ve⟩ :: r ∧ vk ≠ 4 ∧ sn ≤ 100 ∧ T (sn : Int) = 1) := by
 cases hE : x.E with
 | nil => exact .inl rfl
 | cons v r =>
  rcases h.ev hE with h4 | ⟨h4, hr, ht⟩
  ·exact .inr (.inl ⟨v, r, rfl, h4⟩)
  ·obtain ⟨vk, vs, vb, vc, ve⟩ := v
   obtain ⟨sn, rfl⟩ : ∃ q : Nat, vs = (q : Int) := ⟨vs.toNat, by have := hr.1; dsimp only at this; omega⟩
   exact .inr (.inr ⟨vk, sn, vb, vc, ve, r, rfl, h4, by have := hr.2; dsimp only at this; omega, ht⟩)
theorem dr_len0 {x : PX} {i : Nat} (h : (x.drp i).E = []) : x.E.length ≤ i := by
 have e9 : (x.E.drop i).length = 0 := by rw [show x.E.drop i = [] from h]; rfl
 rw [List.length_drop] at e9; omega
theorem dr_len1 {x : PX} {i : Nat} {v : Xv} {r : List Xv} (h : (x.drp i).E = v :: r) : i < x.E.length := by
 have e9 : (x.E.drop i).length = r.length + 1 := by rw [show x.E.drop i = v :: r from h]; rfl
 rw [List.length_drop] at e9; omega
structure DnW where
 i : Nat
 m : XM
 T : Int → Int
theorem drained_ok {T : Int → Int} {D N : Nat} {m : XM} {x : PX} (h : PXIs N m x) (hR : RX T D (-1) x) (hE : x.E.length ≤ 900) (tb : Nat) : Spec Tryz.prog 16 [ptrP m.p, slV (some tb) 101 101] (pxK m x ++ [⟨some tb, cl (ivs (tlL T) ++ []) 3⟩]) (fun r H' => ∃ m' T', r = .bool true ∧ H' = pxK m' (x.drp x.E.length) ++ [⟨some tb, cl (ivs (tlL T') ++ []) 3⟩] ∧ PXIs N m' (x.drp x.E.length) ∧ m'.p = m.p ∧ RX T' D (-1) (x.drp x.E.length)) := by
 refine Spec.of (E := [(0, ptrP m.p), (1, slV (some tb) 101 101)]) Tryz.func16 rfl (by kernel_rfl) Tryz.ntmps16 rfl rfl (fun w => ?_)
 refine WCr (WLa Z (WL_nil (WQ_code (WC_seq (WCr (WLa Z (WL_nil (WQ_code (WC_block (WC_loopF (G := DnW) [4, 5, 6, 7, 8, 9, 10, 11, 12, 13, 14, 15, 16, 17, 18, 19, 20, 21, 22, 23, 24, 25, 26, 27, 28, 29, 30, 31, 32, 33, 34, 35, 36, 37, 38, 39, 40, 41, 42, 43, 44, 45, 46, 47, 48, 49, 50, 51] (fun y => y.i ≤ x.E.length ∧ PXIs N y.m (x.drp y.i) ∧ y.m.p = m.p ∧ RX y.T D (-1) (x.drp y.i)) (fun y => [(5, .int .i64 (y.i : Int))]) (fun y => pxK y.m (x.drp y.i) ++ [⟨some tb, cl (ivs (tlL y.T) ++ []) 3⟩]) (fun y => x.E.length + 1 - y.i) (⟨0, m, T⟩) (⟨Nat.zero_le _, h, Z, hR⟩) leZ pqD ?_))))))))))
 rintro y ⟨hyi, hY, hyp, hR⟩
 rw [← hyp]
 refine WC_seq (WCr (WLa Z (WLa Z (WL_nil (WQ_code (WC_dT Z (by omega) ?_))))))
 refine WC_skip (WQ_code (WC_seq (WC_block (WCr ?_))))
 rcases dr_cases hR with hE9 | ⟨v, r, hE9, h4⟩ | ⟨vk, sn, vb, vc, ve, r, hE9, h4, hs, ht⟩
 ·have hxl := dr_len0 hE9
  refine WLa Z (WLc Z (xm_next hY) Z pqD ?_)
  rintro _ _ ⟨_, ⟨m1, rfl, rfl, h1, hp1⟩, rfl⟩
  rw [hE9]
  rw [drp_nx, drp_end (Nat.le_succ_of_le hxl)] at h1 ⊢
  refine WLa Z (WLa Z (WLa Z (WL_set (s := 16) (v := .bool false) Z (by rfl) ?_)))
  refine WLd Z (D_alloc Z zv63) ?_
  rintro _ _ ⟨b1, rfl, rfl⟩
  refine WLs (vs := [_, _, _, _, _]) Z Tryz.sizeOf63 Z Z plD (nb Z) ?_
  refine WLa Z (WL_nil (WQ_code (WC_seq (WCr (WLa Z (WLa Z (WL_nil (WQ_code (WC_T Z (WCr (WLa Z (WL_nil (WQ_code (WC_ret ?_))))))))))))))
  refine WQ1 Z (by
    have hyl : y.i = x.E.length := by omega
    exact ⟨m1, y.T, rfl, rfl, h1, by first | exact hp1 | exact hp1.trans hyp, hyl ▸ hR⟩) pqD
 ·have hlt := dr_len1 hE9
  have hR1 := hR.nx (T2 := y.T) hE9 (by unfold tl1; rw [if_pos h4])
  rw [drp_nx] at hR1
  refine WLa Z (WLc Z (xm_next hY) Z pqD ?_)
  rintro _ _ ⟨_, ⟨m1, rfl, rfl, h1, hp1⟩, rfl⟩
  rw [hE9]
  rw [drp_nx] at h1 ⊢
  refine WLa Z (WLa Z (WLa Z (WL_set (s := 16) (v := .bool true) Z (by rfl) ?_)))
  refine WLd Z (D_alloc Z zv63) ?_
  rintro _ _ ⟨b2, rfl, rfl⟩
  refine WLs (vs := [_, _, _, _, _]) Z Tryz.sizeOf63 Z Z plD (nb Z) ?_
  refine WLa Z (WL_nil (WQ_code (WC_seq (WCr (WLa Z (WLa Z (WL_nil (WQ_code (WC_F Z (WC_skip (WQ_code (WC_seq (WCr (WLf Z fa63_0 (WLl Z sc61 mmD Z (WLa Z (WL_set (s := 21) (v := .bool true) Z (by exact congrArg Value.bool (decide_eq_true h4)) ?_)))))))))))))))))
  refine WL_nil (WQ_code (WC_T Z (WC_exit (WQ_code (WC_region (WLa Z (WLv Z (R_add Z Z Z (by omega)) ?_)))))))
  refine WLa Z (WL_nil ?_)
  refine WQ_nextF (⟨y.i + 1, m1, y.T⟩) (⟨by dsimp only; omega, h1, by first | rfl | exact hp1 | exact hp1.trans hyp, hR1⟩) (by dsimp only; omega) leZ (psZ) Z pqD
 ·have hlt := dr_len1 hE9
  have hR1 := hR.nx hE9 (tl1_o h4 hs ht)
  rw [drp_nx] at hR1
  refine WLa Z (WLc Z (xm_next hY) Z pqD ?_)
  rintro _ _ ⟨_, ⟨m1, rfl, rfl, h1, hp1⟩, rfl⟩
  rw [hE9]
  rw [drp_nx] at h1 ⊢
  refine WLa Z (WLa Z (WLa Z (WL_set (s := 16) (v := .bool true) Z (by rfl) ?_)))
  refine WLd Z (D_alloc Z zv63) ?_
  rintro _ _ ⟨b3, rfl, rfl⟩
  refine WLs (vs := [_, _, _, _, _]) Z Tryz.sizeOf63 Z Z plD (nb Z) ?_
  refine WLa Z (WL_nil (WQ_code (WC_seq (WCr (WLa Z (WLa Z (WL_nil (WQ_code (WC_F Z (WC_skip (WQ_code (WC_seq (WCr (WLf Z fa63_0 (WLl Z sc61 mmD Z (WLa Z (WL_set (s := 21) (v := .bool false) Z (by exact congrArg Value.bool (decide_eq_false h4)) ?_)))))))))))))))))
  refine WL_nil (WQ_code (WC_F Z (WC_skip (WQ_code (WC_seq (WCr (WLf Z fa63_1 (WLl Z sc3 mmD Z (WLa Z (WLa Z (WL_set (s := 25) (v := .bool false) Z (by exact congrArg Value.bool (decide_eq_false (by show ¬ ((sn : Nat) : Int) < 0; omega))) ?_)))))))))))
  refine WLf Z fa63_1 (WLl Z sc3 mmD Z (WLa Z (WLa Z (WLa Z (WL_set (s := 30) (v := .bool false) Z (by exact congrArg Value.bool (decide_eq_false (by show ¬ ((sn : Nat) : Int) > 100; omega))) ?_)))))
  refine WLa Z (WLf Z fa63_1 (WLl Z sc3 mmD Z (WLv Z (R_indexAddrN Z Tryz.underlying23 Tryz.sizeOf3 Z Z (by omega)) ?_)))
  refine WLv Z (R_load (v := .int .i64 (y.T (sn : Int))) Z sc3 Z mmD (fm_get0 encI1 (tlL_at y.T hs) (j := 0) (by omega))) ?_
  refine WLa Z (WL_set (s := 36) (v := .bool false) Z (by exact congrArg Value.bool (decide_eq_false (fun e => e ht))) ?_)
  refine WLa Z (WL_nil (WQ_code (WC_F Z (WC_skip (WQ_code (WC_seq (WCr (WLf Z fa63_0 (WLl Z sc61 mmD Z (WLa Z (WL_nil (WQ_code ?_))))))))))))
  refine WC_dec Z (fun c1 => ?_) (fun c1 => ?_)
  ·have hk1 : vk = 1 := c1
   refine WC_region (WLa Z (WLf Z fa63_1 (WLl Z sc3 mmD Z (WLv Z (R_indexAddrN Z Tryz.underlying23 Tryz.sizeOf3 Z Z (by omega)) ?_))))
   refine WLs (vs := [_]) Z Tryz.sizeOf3 Z Z plD (by exact fm_room0 encI1 (show sn < (tlL y.T).length by rw [tlL_len]; omega) (j := 0) (by omega)) ?_
   rw [tlL_put y.T hs 2]
   refine WL_nil (WQ_code (WCr (WLf Z fa63_0 (WLl Z sc61 mmD Z (WLa Z (WL_nil (WQ_code (WC_dF Z (by omega) ?_))))))))
   refine WC_skip (WQ_code (WC_region (WLa Z (WLv Z (R_add Z Z Z (by omega)) ?_))))
   refine WLa Z (WL_nil ?_)
   refine WQ_nextF (⟨y.i + 1, m1, updT y.T (sn : Int) 2⟩) (⟨by dsimp only; omega, h1, by first | rfl | exact hp1 | exact hp1.trans hyp, by rw [if_pos hk1] at hR1; exact hR1⟩) (by dsimp only; omega) leZ (psZ) Z pqD
  ·have hk1 : ¬ vk = 1 := c1
   refine WC_skip (WQ_code (WCr (WLf Z fa63_0 (WLl Z sc61 mmD Z (WLa Z (WL_nil (WQ_code ?_)))))))
   refine WC_dec Z (fun c2 => ?_) (fun c2 => ?_)
   ·have hk3 : vk = 3 := c2
    refine WC_region (WLa Z (WLf Z fa63_1 (WLl Z sc3 mmD Z (WLv Z (R_indexAddrN Z Tryz.underlying23 Tryz.sizeOf3 Z Z (by omega)) ?_))))
    refine WLs (vs := [_]) Z Tryz.sizeOf3 Z Z plD (by exact fm_room0 encI1 (show sn < (tlL y.T).length by rw [tlL_len]; omega) (j := 0) (by omega)) ?_
    rw [tlL_put y.T hs 0]
    refine WL_nil (WQ_code (WC_region (WLa Z (WLv Z (R_add Z Z Z (by omega)) ?_))))
    refine WLa Z (WL_nil ?_)
    refine WQ_nextF (⟨y.i + 1, m1, updT y.T (sn : Int) 0⟩) (⟨by dsimp only; omega, h1, by first | rfl | exact hp1 | exact hp1.trans hyp, by rw [if_neg hk1, if_pos hk3] at hR1; exact hR1⟩) (by dsimp only; omega) leZ (psZ) Z pqD
   ·have hk3 : ¬ vk = 3 := c2
    refine WC_skip (WQ_code (WC_region (WLa Z (WLv Z (R_add Z Z Z (by omega)) ?_))))
    refine WLa Z (WL_nil ?_)
    refine WQ_nextF (⟨y.i + 1, m1, y.T⟩) (⟨by dsimp only; omega, h1, by first | rfl | exact hp1 | exact hp1.trans hyp, by rw [if_neg hk1, if_neg hk3] at hR1; exact hR1⟩) (by dsimp only; omega) leZ (psZ) Z pqD
theorem apart_ne {T : Int → Int} {D : Nat} {x : PX} (h : RX T D (-1) x) {y z : Nat} (hyz : y ≠ z) (h4 : (x.stX (y : Int)).1 = 4) (h5 : (x.stX (z : Int)).1 = (x.stX (y : Int)).1) (hb : (x.stX (y : Int)).2.1 = (x.stX (z : Int)).2.1) (hc : (x.stX (y : Int)).2.2 = (x.stX (z : Int)).2.2) : False := by
 unfold PX.stX at h4 h5 hb hc
 cases hf : x.S.find? (fun s => decide (s.num = (y : Int))) with
 | none => rw [hf] at h4; exact absurd h4 (show ¬ (0 : Int) = 4 by decide)
 | some a =>
  cases hg : x.S.find? (fun s => decide (s.num = (z : Int))) with
  | none => rw [hf] at h4 h5; rw [hg] at h5; rw [h4] at h5; exact absurd h5 (show ¬ (0 : Int) = 4 by decide)
  | some c =>
   rw [hf] at h4 h5 hb hc
   rw [hg] at h5 hb hc
   dsimp only at h4 h5 hb hc
   have e1 := h.apart (List.mem_of_find?_eq_some hf) (List.mem_of_find?_eq_some hg) h4 (h5.trans h4) hb hc
   have e2 : a.num = (y : Int) := by have q := List.find?_some hf; exact of_decide_eq_true q
   have e3 : c.num = (z : Int) := by have q := List.find?_some hg; exact of_decide_eq_true q
   rw [e2, e3] at e1
   omega
theorem apart_ok {T : Int → Int} {D N : Nat} {m : XM} {x : PX} (h : PXIs N m x) (hR : RX T D (-1) x) (hE : x.E = []) (tb : Nat) : Spec Tryz.prog 17 [ptrP m.p, slV (some tb) 101 101] (pxK m x ++ [⟨some tb, cl (ivs (tlL T) ++ []) 3⟩]) (fun r H' => r = .bool true ∧ H' = pxK m x ++ [⟨some tb, cl (ivs (tlL T) ++ []) 3⟩]) := by
 have hT := hR.toldE hE
 refine Spec.of (E := [(0, ptrP m.p), (1, slV (some tb) 101 101)]) Tryz.func17 rfl (by kernel_rfl) Tryz.ntmps17 rfl rfl (fun w => ?_)
 refine WCr (WLa Z (WL_nil (WQ_code (WC_seq (WCr (WLa Z (WL_nil (WQ_code (WC_block (WC_loopF (G := Nat) [4, 5, 6, 7, 8, 9, 10, 11, 12, 13, 14, 15, 16, 17, 18, 19, 20, 21, 22, 23, 24, 25, 26, 27, 28, 29, 30, 31, 32, 33, 34, 35, 36, 37, 38, 39, 40, 41, 42, 43, 44, 45, 46, 47, 48, 49, 50, 51, 52, 53, 54, 55, 56, 57, 58, 59, 60, 61, 62, 63, 64, 65, 66, 67, 68, 69, 70] (fun y => y ≤ 101) (fun y => [(5, .int .i64 (y : Int))]) (fun y => []) (fun y => 101 - y) (0) (Nat.zero_le _) leZ pqD ?_))))))))))
 rintro y hy
 refine WC_seq (WCr (WLa Z (WLa Z (WL_nil (WQ_code ?_)))))
 refine WC_dec Z (fun c1 => ?_) (fun c1 => ?_)
 ·refine WC_skip (WQ_code (WC_seq (WC_block (WCr ?_))))
  have hq1 : (x.stX (y : Int)).1 = 0 ↔ T (y : Int) = 0 := by rw [hT]; exact ⟨st_none hR _, (st_told _).1⟩
  have hq2 : (x.stX (y : Int)).1 = 4 ↔ T (y : Int) = 2 := by rw [hT]; exact ⟨(st_told _).2.1, (st_told _).2.2⟩
  refine WLa Z (WLa Z (WLc Z (xm_state h (y : Int)) Z pqD ?_))
  rintro _ _ ⟨_, ⟨rfl, rfl⟩, rfl⟩
  refine WLa Z (WLa Z (WLa Z (WLa Z (WLa Z (WLa Z (WLa Z (WL_nil (WQ_code (WC_seq (WCr (WLa Z (WLa Z (WLa Z (WLa Z (WLv Z (R_indexAddrN Z Tryz.underlying23 Tryz.sizeOf3 Z Z (by omega)) ?_)))))))))))))))
  refine WLv Z (R_load (v := .int .i64 (T (y : Int))) Z sc3 Z mmD (fm_get0 encI1 (tlL_at T (n := y) (by omega)) (j := 0) (by omega))) ?_
  refine WLa Z (WLv Z (R_boolNe Z Tryz.underlying4 Z Z) ?_)
  refine WL_set (s := 31) (v := .bool false) Z (by exact congrArg Value.bool (by by_cases q : (x.stX (y : Int)).1 = 0 <;> simp_all)) ?_
  refine WLa Z (WLa Z (WLa Z (WLa Z (WLa Z (WLv Z (R_indexAddrN Z Tryz.underlying23 Tryz.sizeOf3 Z Z (by omega)) ?_)))))
  refine WLv Z (R_load (v := .int .i64 (T (y : Int))) Z sc3 Z mmD (fm_get0 encI1 (tlL_at T (n := y) (by omega)) (j := 0) (by omega))) ?_
  refine WLa Z (WLv Z (R_boolNe Z Tryz.underlying4 Z Z) ?_)
  refine WL_set (s := 40) (v := .bool false) Z (by exact congrArg Value.bool (by by_cases q : (x.stX (y : Int)).1 = 4 <;> simp_all)) ?_
  refine WLa Z (WL_nil (WQ_code (WC_F Z (WC_skip (WQ_code (WCr (WLa Z (WL_nil (WQ_code (WC_block (WC_loopF (G := Nat) [4, 9, 10, 11, 12, 42, 43, 44, 45, 46, 47, 48, 49, 50, 51, 52, 53, 54, 55, 56, 57, 58, 59, 60, 61, 62, 63, 64, 65, 66, 67, 68, 69, 70] (fun z => z ≤ y) (fun z => [(9, .int .i64 (z : Int))]) (fun z => []) (fun z => y - z) (0) (Nat.zero_le _) leZ pqD ?_)))))))))))
  rintro z hz
  refine WC_seq (WCr (WLa Z (WLa Z (WLa Z (WLa Z ?_)))))
  refine WL_splitD (s := 45) Z (fun c2 => ?_) (fun c2 => ?_)
  ·have hzy := c2
   refine WLa Z (WLa Z (WLa Z (WL_nil (WQ_code ?_))))
   refine WC_dec Z (fun c3 => ?_) (fun c3 => ?_)
   ·have hk4 : (x.stX (y : Int)).1 = 4 := c3
    refine WC_skip (WQ_code (WC_seq (WC_block (WCr (WLa Z (WLa Z (WLc Z (xm_state h (z : Int)) Z pqD ?_)))))))
    rintro _ _ ⟨_, ⟨rfl, rfl⟩, rfl⟩
    refine WLa Z (WLa Z (WLa Z (WLa Z (WLa Z (WLa Z (WLa Z (WL_nil (WQ_code (WCr (WLa Z (WLa Z (WLa Z (WLa Z ?_)))))))))))))
    refine WL_splitD (s := 61) Z (fun c4 => ?_) (fun c4 => ?_)
    ·have hk5 := c4
     refine WLa Z (WLa Z (WLa Z (WLa Z (WLa Z ?_))))
     refine WL_splitD (s := 66) Z (fun c5 => ?_) (fun c5 => ?_)
     ·have hk6 := c5
      refine WLa Z (WLa Z (WLa Z (WL_set (s := 69) (v := .bool false) Z (by exact congrArg Value.bool (decide_eq_false (fun e => apart_ne hR (by omega) hk4 hk5 hk6 e))) ?_)))
      refine WLa Z (WL_nil (WQ_code (WC_F Z (WC_skip (WQ_code (WC_region (WLa Z (WLv Z (R_add Z Z Z (by omega)) ?_))))))))
      refine WLa Z (WL_nil ?_)
      refine WQ_nextF (z + 1) (by omega) (by omega) leZ (psZ) Z pqD
     ·have hk6 := c5
      refine WLa Z (WLa Z (WLa Z (WLa Z (WL_nil (WQ_code (WC_F Z (WC_skip (WQ_code (WC_region (WLa Z (WLv Z (R_add Z Z Z (by omega)) ?_)))))))))))
      refine WLa Z (WL_nil ?_)
      refine WQ_nextF (z + 1) (by omega) (by omega) leZ (psZ) Z pqD
    ·have hk5 := c4
     refine WLa Z (WLa Z (WLa Z (WLa Z (WLa Z (WLa Z (WLa Z (WLa Z (WLa Z (WL_nil (WQ_code (WC_F Z (WC_skip (WQ_code (WC_region (WLa Z (WLv Z (R_add Z Z Z (by omega)) ?_))))))))))))))))
     refine WLa Z (WL_nil ?_)
     refine WQ_nextF (z + 1) (by omega) (by omega) leZ (psZ) Z pqD
   ·refine WC_exit (WQ_code (WC_region (WLa Z (WLv Z (R_add Z Z Z (by omega)) ?_))))
    refine WLa Z (WL_nil ?_)
    refine WQ_nextF (y + 1) (by omega) (by omega) leZ (psZ) Z pqD
  ·have hzy := c2
   refine WLa Z (WLa Z (WLa Z (WL_nil (WQ_code (WC_F Z (WC_exit (WQ_code (WC_region (WLa Z (WLv Z (R_add Z Z Z (by omega)) ?_))))))))))
   refine WLa Z (WL_nil ?_)
   refine WQ_nextF (y + 1) (by omega) (by omega) leZ (psZ) Z pqD
 ·refine WC_exit (WQ_code (WCr (WLa Z (WL_nil (WQ_code (WC_ret ?_))))))
  refine WQ1 Z (by
    exact ⟨rfl, rfl⟩) pqD
theorem u64_nat (a : Int) : ∃ u : Nat, IntKind.u64.wrap a = (u : Int) ∧ u ≤ 18446744073709551615 := by
 have := IntKind.wrap_u64 a
 exact ⟨(a % 18446744073709551616).toNat, by rw [this]; omega, by omega⟩
theorem rem_nat (a b : Nat) : ((a : Int)).tmod (b : Int) = ((a % b : Nat) : Int) := by
 rw [Int.tmod_eq_emod_of_nonneg (by omega)]; rfl
theorem fldF_now (x : PX) (s : Ss) : (x.fldF s).now = x.now := by unfold PX.fldF; split <;> rfl
theorem attF_now (x : PX) (s : Ss) : (x.attF s).now = x.now := by
 unfold PX.attF
 split
 ·exact fldF_now x s
 ·split
  ·rename_i si _
   exact (attX_fields x s si).2.2.1
  ·rfl
theorem begin_now (x : PX) (n : Int) (now dl : Nat) (key : ByteArray) (p : Nat) : (x.begin n now dl key p).now = now := attF_now _ _
theorem dialN_now {x : PX} {s : Ss} {good : Bool} {now : Nat} (h : x.now ≤ now) : (x.dialN s good now).now ≤ now := by
 unfold PX.dialN
 split
 ·exact h
 ·split
  ·exact Nat.le_refl _
  ·rw [fldF_now]
   show (PX.drain _ _).now ≤ now
   rw [drain_now]
   exact Nat.le_refl _
theorem endN_now {x : PX} {s : Ss} {good : Bool} {now : Nat} (h : x.now ≤ now) : (x.endN s good now).now ≤ now := by
 unfold PX.endN
 split
 ·exact h
 ·rw [drain_now]; exact Nat.le_refl _
theorem dialX_now {x : PX} {n : Int} {good : Bool} {now : Nat} (h : x.now ≤ now) : (x.dialX n good now).now ≤ now := by
 unfold PX.dialX
 split
 ·exact h
 ·split
  ·exact h
  ·exact dialN_now h
theorem endX_now {x : PX} {n : Int} {good : Bool} {now : Nat} (h : x.now ≤ now) : (x.endX n good now).now ≤ now := by
 unfold PX.endX
 split
 ·exact h
 ·split
  ·exact h
  ·exact endN_now h
theorem dues_now (now : Nat) : ∀ (L : List Ss) (x : PX), (L.foldl (PX.dueF now) x).now = x.now
 | [], _ => rfl
 | s :: r, x => by rw [List.foldl_cons, dues_now now r, (dueF_now x now s).1]
theorem adv_now (x : PX) (now : Nat) : (x.adv now).now = now := by
 show ((x.advK now x.P.length).due.foldl (PX.dueF now) (x.advK now x.P.length)).now = now
 rw [dues_now]; exact (advK_facts x now x.P.length).1
theorem advX_is {x : PX} {now : Nat} (h1 : x.now ≤ now) (h2 : now ≠ 18446744073709551615) : x.advX now = x.adv now := by unfold PX.advX; rw [if_neg (by rw [may_is h1 h2]; decide)]
theorem PXO.drp {w b e : Nat} {x : PX} (h : PXO w b e x) : PXO w b 0 (x.drp x.E.length) := ⟨⟨h.g.bl, h.g.nd, h.g.ks, h.g.bk, h.g.po⟩, h.w, h.b, by rw [drp_E]; exact Nat.le_refl _, h.tr⟩
def Fin (n : Int) (x : PX) : Prop := ∀ y ∈ x.S, (y.st = 3 ∨ y.st = 4) ∧ n ≤ y.num
def Fin2 (n : Int) (x : PX) : Prop := ∀ y ∈ x.S, ((y.st = 3 ∨ y.st = 4) ∧ n ≤ y.num) ∧ (y.num = n → y.st = 4)
theorem Fin.dial {w b e : Nat} {x : PX} (o : PXO w b e x) {n : Int} (hr : 0 ≤ n ∧ n ≤ 100) (h : Fin n x) {now : Nat} (h1 : x.now ≤ now) (h2 : now ≠ 18446744073709551615) : Fin2 n (x.dialX n true now) := by
 by_cases he : x.inX n 3 now = 0
 ·obtain ⟨A, s, B, hS, rfl, hst, hm, hr, hn1, hn2⟩ := inX_zero he
  have hs : s ∈ x.S := by rw [hS]; exact List.mem_append_right _ (List.mem_cons_self ..)
  have hX : x.dialX s.num true now = x.dialN s true now := by unfold PX.dialX; rw [if_neg (by rw [he]; decide), find_num o.g.nd hs]
  have hn := o.g.nd
  intro y hy
  rw [hX, dialed_S o hS hst now] at hy
  unfold Fin at h
  rw [hS] at hn h
  rcases List.mem_append.1 hy with q | q
  ·exact ⟨h y (List.mem_append_left _ q), fun e => absurd e (num_split rfl hn y (List.mem_append_left _ q))⟩
  ·rcases List.mem_cons.1 q with rfl | q
   ·exact ⟨⟨.inr rfl, (h s (List.mem_append_right _ (List.mem_cons_self ..))).2⟩, fun _ => rfl⟩
   ·exact ⟨h y (List.mem_append_right _ (List.mem_cons_of_mem _ q)), fun e => absurd e (num_split rfl hn y (List.mem_append_right _ q))⟩
 ·have hX : x.dialX n true now = x := by unfold PX.dialX; rw [if_pos he]
  rw [hX]
  refine fun y hy => ⟨h y hy, fun e => ?_⟩
  rcases (h y hy).1 with q | q
  ·refine absurd ?_ he
   rw [inX_is hr h1 h2, ← e, find_num o.g.nd hy]
   exact if_pos q
  ·exact q
theorem Fin2.end_ {w b e : Nat} {x : PX} (o : PXO w b e x) {n : Int} (h : Fin2 n x) {now : Nat} (he : x.inX n 4 now = 0) : Fin (n + 1) (x.endX n true now) := by
 obtain ⟨A, s, B, hS, rfl, hst, hm, hr, hn1, hn2⟩ := inX_zero he
 have hs : s ∈ x.S := by rw [hS]; exact List.mem_append_right _ (List.mem_cons_self ..)
 have hX : x.endX s.num true now = x.endN s true now := by unfold PX.endX; rw [if_neg (by rw [he]; decide), find_num o.g.nd hs]
 have hn := o.g.nd
 intro y hy
 rw [hX, ended_S o (fun z hz => by have := (h z hz).1.1; omega) hS hst true hn1] at hy
 rw [hS] at hn
 have h1 := h y (by rw [hS]; rcases List.mem_append.1 hy with q | q; exact List.mem_append_left _ q; exact List.mem_append_right _ (List.mem_cons_of_mem _ q))
 have h2 := num_split rfl hn y hy
 exact ⟨h1.1.1, by have := h1.1.2; omega⟩
theorem Fin2.no {x : PX} (hnd : (x.S.map (·.num)).Nodup) {n : Int} (h : Fin2 n x) (ht : told x.S n ≠ 2) : Fin (n + 1) x := fun y hy => by
 have h1 := h y hy
 refine ⟨h1.1.1, ?_⟩
 have h2 := h1.1.2
 by_cases e : y.num = n
 ·refine absurd ?_ ht
  rw [← e, told_in hnd hy, if_pos (h1.2 e)]
 ·omega
theorem Fin.st {x : PX} {n : Int} (h : Fin (n + 1) x) : (x.stX n).1 = 0 := by
 unfold PX.stX
 cases hf : x.S.find? (fun s => decide (s.num = n)) with
 | none => rfl
 | some s =>
  have e1 := (h s (List.mem_of_find?_eq_some hf)).2
  have e2 : s.num = n := by have q := List.find?_some hf; exact of_decide_eq_true q
  omega
theorem Fin.zero {T : Int → Int} {D : Nat} {x : PX} (h : RX T D (-1) x) (hf : ∀ y ∈ x.S, y.st = 3 ∨ y.st = 4) : Fin 0 x := fun y hy => ⟨hf y hy, (h.nm y hy).1⟩
theorem RX.new {k : Nat} {W : List Int} {limit : Int} {brk : Nat} {op idle : Int} {keep : Nat} {p : Plan} (hp : OkP p) (hq : POk op idle keep) (hvl : (px0 k W limit brk op idle keep p).b.V.length = (px0 k W limit brk op idle keep p).P.length) : RX (fun _ => 0) 1000 (-1) (px0 k W limit brk op idle keep p) :=
 ⟨(PXO.new hp hq).g, fun i si hi => by
  have := List.mem_of_getElem? hi
  rw [List.eq_of_mem_replicate this]
  exact ⟨List.nodup_nil, (fun c hc => by cases hc), (fun q hq => by cases hq), (fun y hy => by cases hy), (fun q hq => by cases hq)⟩, (fun y hy => by cases hy), (fun y hy => by cases hy), rfl, hvl⟩
theorem tlL_zero : cl (List.replicate 101 [Value.int .i64 0]).flatten 3 = cl (ivs (tlL fun _ => 0) ++ []) 3 := by
 refine congrArg (fun l => cl l 3) ?_
 rw [List.append_nil]
 rfl
structure HcW where
 i : Nat
 m : XM
 x : PX
 T : Int → Int
 now : Nat
structure HdW where
 m : XM
 x : PX
 T : Int → Int
structure HtW where
 t : Nat
 m : XM
 x : PX
 T : Int → Int
 now : Nat
structure HnW where
 n : Nat
 m : XM
 x : PX
 T : Int → Int
 th : Bool
theorem adv_evalP {s s1 : PS} {now : Nat} {L : List Qp} {O : List Int} (hm : s.may true now = 0) (hl : s.Q.filter (fun x => decide (x.dl ≤ now)) = L) (hl1 : L.length ≤ 1) (h1 : L.foldl PS.tmo (s.at_ now) = s1) (ho : (allI 3 s1.C).filter (fun a => !young s1 now a) = O) (ho1 : O.length ≤ 1) : s.advance now = O.foldl PS.shut s1 := by
 have e1 : s.late now = L := by
  unfold PS.late
  rw [hl]
  match L, hl1 with
  | [], _ => simp
  | [x], _ => simp
 have e2 : s.adv1 now = s1 := by unfold PS.adv1; rw [e1, h1]
 have e3 : s1.old now = O := by
  unfold PS.old
  rw [ho]
  match O, ho1 with
  | [], _ => simp
  | [x], _ => simp
 rw [adv_ok hm, e2, e3]
theorem adv2_eval {x : PX} {now : Nat} {q0 q1 r0 r1 : PS} (hP : x.P = [q0, q1]) (h0 : q0.advance now = r0) (h1 : q1.advance now = r1) {y1 y2 : PX} (e1 : PX.drain { x with now := now, P := [r0, q1] } 0 = y1) (hy : y1.P[1]? = some q1) (e2 : PX.drain { y1 with P := y1.P.set 1 r1 } 1 = y2) {D : List Ss} (hD : y2.S.filter (fun s => decide (s.st = 1 ∧ s.til ≤ y2.now)) = D) (hl : D.length ≤ 1) : x.adv now = D.foldl (PX.dueF now) y2 := by
 have a1 : PX.advP now { x with now := now } 0 = y1 := by
  unfold PX.advP
  show (match x.P[0]? with | none => _ | some si => _) = _
  rw [hP]
  show PX.drain { x with now := now, P := [q0.advance now, q1] } 0 = y1
  rw [h0]; exact e1
 have a2 : PX.advP now y1 1 = y2 := by
  unfold PX.advP
  rw [hy]
  dsimp only
  rw [h1]; exact e2
 have a3 : x.advK now x.P.length = y2 := by
  have : x.P.length = 2 := by rw [hP]; rfl
  rw [this]
  show PX.advP now (PX.advP now { x with now := now } 0) 1 = y2
  rw [a1, a2]
 have a4 : y2.due = D := by
  unfold PX.due
  rw [hD]
  match D, hl with
  | [], _ => simp
  | [x], _ => simp
 unfold PX.adv
 rw [a3, a4]
abbrev kb : ByteArray := ⟨#[107]⟩
abbrev kpl : Plan := ⟨5, 5, 1, 1, 2, 0, 0⟩
abbrev kv (act : Int) (last : Nat) (gen st : Int) (opened : Nat) : Vw := (1, 0, act, true, ⟨1, 1, 100, last, gen, st, opened, 0, 0, 0⟩)
abbrev kq (now : Nat) (x : Cn) (Q : List Qp) (n : Nat) : PS := ⟨1, 1, 18446744073709551615, now, x :: List.replicate 63 ⟨0, 0, 0⟩, Q, n, []⟩
abbrev kx0 : PX := ⟨⟨1, [kv 0 0 0 0 0, kv 0 0 0 0 0], 0, 0, 0, []⟩, [kq 0 ⟨0, 0, 0⟩ [] 0, kq 0 ⟨0, 0, 0⟩ [] 0], kpl, 0, [], []⟩
abbrev kx1 (p : Nat) : PX := ⟨⟨1, [kv 1 0 0 0 0, kv 0 0 0 0 0], 1, 1, 0, [(1, (0, 0))]⟩, [kq 0 ⟨1, 7, 0⟩ [] 0, kq 0 ⟨0, 0, 0⟩ [] 0], kpl, 0, [⟨7, kb, 50, 0, 3, 0, 1, 0, 0, p⟩], [⟨2, 7, 0, 0, 0⟩]⟩
abbrev kx2 (p : Nat) : PX := ⟨⟨1, [kv 1 0 0 0 0, kv 0 0 0 0 0], 1, 1, 0, [(1, (0, 0))]⟩, [kq 0 ⟨1, 7, 0⟩ [] 0, kq 0 ⟨0, 0, 0⟩ [] 0], kpl, 0, [⟨7, kb, 50, 0, 3, 0, 1, 0, 0, p⟩], []⟩
abbrev kx3 (p : Nat) : PX := ⟨⟨1, [kv 1 0 0 0 0, kv 0 0 0 0 0], 1, 1, 0, [(1, (0, 0))]⟩, [kq 1 ⟨2, 0, 0⟩ [] 0, kq 0 ⟨0, 0, 0⟩ [] 0], kpl, 1, [⟨7, kb, 50, 0, 4, 0, 1, 0, 0, p⟩], [⟨1, 7, 0, 0, 0⟩]⟩
abbrev kx4 (p : Nat) : PX := ⟨⟨1, [kv 1 0 0 0 0, kv 0 0 0 0 0], 1, 1, 0, [(1, (0, 0))]⟩, [kq 1 ⟨2, 0, 0⟩ [] 0, kq 0 ⟨0, 0, 0⟩ [] 0], kpl, 1, [⟨7, kb, 50, 0, 4, 0, 1, 0, 0, p⟩], []⟩
abbrev kx5 (p q : Nat) : PX := ⟨⟨1, [kv 1 0 0 0 0, kv 1 1 0 0 0], 0, 2, 1, [(2, (1, 0)), (1, (0, 0))]⟩, [kq 1 ⟨2, 0, 0⟩ [] 0, kq 1 ⟨1, 8, 0⟩ [] 0], kpl, 1, [⟨7, kb, 50, 0, 4, 0, 1, 0, 0, p⟩, ⟨8, kb, 50, 0, 3, 0, 2, 1, 0, q⟩], [⟨2, 8, 1, 0, 0⟩]⟩
abbrev kx6 (p q : Nat) : PX := ⟨⟨1, [kv 1 0 0 0 0, kv 1 1 0 0 0], 0, 2, 1, [(2, (1, 0)), (1, (0, 0))]⟩, [kq 1 ⟨2, 0, 0⟩ [] 0, kq 1 ⟨1, 8, 0⟩ [] 0], kpl, 1, [⟨7, kb, 50, 0, 4, 0, 1, 0, 0, p⟩, ⟨8, kb, 50, 0, 3, 0, 2, 1, 0, q⟩], []⟩
abbrev kx7 (p q : Nat) : PX := ⟨⟨1, [kv 1 0 0 0 0, kv 0 2 1 1 2], 0, 2, 2, [(1, (0, 0))]⟩, [kq 1 ⟨2, 0, 0⟩ [] 0, kq 2 ⟨0, 0, 0⟩ [] 0], kpl, 2, [⟨7, kb, 50, 0, 4, 0, 1, 0, 0, p⟩, ⟨8, kb, 50, 1, 1, 7, 0, -1, -1, q⟩], []⟩
abbrev kx8 (p q : Nat) : PX := ⟨⟨1, [kv 2 7 0 0 0, kv 0 2 1 1 2], 1, 3, 7, [(3, (0, 0)), (1, (0, 0))]⟩, [kq 7 ⟨2, 0, 0⟩ [⟨1, 8, 50⟩] 1, kq 7 ⟨0, 0, 0⟩ [] 0], kpl, 7, [⟨7, kb, 50, 0, 4, 0, 1, 0, 0, p⟩, ⟨8, kb, 50, 1, 2, 7, 3, 0, -1, q⟩], []⟩
abbrev kx9 (q : Nat) : PX := ⟨⟨1, [kv 1 8 0 0 0, kv 0 2 1 1 2], 1, 3, 8, [(3, (0, 0))]⟩, [kq 8 ⟨2, 0, 0⟩ [] 1, kq 7 ⟨0, 0, 0⟩ [] 0], kpl, 8, [⟨8, kb, 50, 1, 4, 7, 3, 0, 0, q⟩], [⟨1, 8, 0, 0, 0⟩]⟩
abbrev kx10 (q : Nat) : PX := ⟨⟨1, [kv 1 8 0 0 0, kv 0 2 1 1 2], 1, 3, 8, [(3, (0, 0))]⟩, [kq 8 ⟨2, 0, 0⟩ [] 1, kq 7 ⟨0, 0, 0⟩ [] 0], kpl, 8, [⟨8, kb, 50, 1, 4, 7, 3, 0, 0, q⟩], []⟩
abbrev kx11 (q r : Nat) : PX := ⟨⟨1, [kv 2 8 0 0 0, kv 0 2 1 1 2], 1, 4, 8, [(4, (0, 0)), (3, (0, 0))]⟩, [kq 8 ⟨2, 0, 0⟩ [⟨2, 9, 20⟩] 2, kq 7 ⟨0, 0, 0⟩ [] 0], kpl, 8, [⟨8, kb, 50, 1, 4, 7, 3, 0, 0, q⟩, ⟨9, kb, 20, 0, 2, 0, 4, 0, -1, r⟩], []⟩
abbrev kx12 (q : Nat) : PX := ⟨⟨1, [kv 1 20 0 0 0, kv 0 2 1 1 2], 1, 4, 20, [(3, (0, 0))]⟩, [kq 20 ⟨2, 0, 0⟩ [] 2, kq 20 ⟨0, 0, 0⟩ [] 0], kpl, 20, [⟨8, kb, 50, 1, 4, 7, 3, 0, 0, q⟩], [⟨3, 9, -1, -1, 12⟩]⟩
theorem kx0_eq : px0 1 [1, 1] 1 100 1 1 18446744073709551615 ⟨5, 5, 1, 1, 2, 0, 0⟩ = kx0 := by kernel_rfl
theorem kx1_eq (p : Nat) : kx0.begin 7 0 50 kb p = kx1 p := by kernel_rfl
theorem kx2_eq (p : Nat) : (kx1 p).nx = kx2 p := by kernel_rfl
theorem kx3_eq (p : Nat) : (kx2 p).dialX 7 true 1 = kx3 p := by kernel_rfl
theorem kx4_eq (p : Nat) : (kx3 p).nx = kx4 p := by kernel_rfl
theorem kx5_eq (p q : Nat) : (kx4 p).begin 8 1 50 kb q = kx5 p q := by kernel_rfl
theorem kx6_eq (p q : Nat) : (kx5 p q).nx = kx6 p q := by kernel_rfl
theorem kx7_eq (p q : Nat) : (kx6 p q).dialX 8 false 2 = kx7 p q := by kernel_rfl
theorem kx7_nx (p q : Nat) : (kx7 p q).nx = kx7 p q := by kernel_rfl
theorem kx9_eq (p q : Nat) : (kx8 p q).endX 7 true 8 = kx9 q := by kernel_rfl
theorem kx10_eq (q : Nat) : (kx9 q).nx = kx10 q := by kernel_rfl
theorem kx11_eq (q r : Nat) : (kx10 q).begin 9 8 20 kb r = kx11 q r := by kernel_rfl
theorem kq_adv (now : Nat) (h : now ≠ 18446744073709551615) (t n : Nat) (c : Cn) (ht : t ≤ now) (hc : c.st = 2 ∨ c.st = 0) : (kq t c [] n).advance now = kq now c [] n := by
 have ha : allI 3 (kq now c [] n).C = [] := by
  have : ∀ (m : Nat) (k : Nat), allF 3 k (List.replicate m ⟨0, 0, 0⟩) = [] := by
   intro m
   induction m with
   | zero => intro k; rfl
   | succ m ih => intro k; rw [List.replicate_succ, allF, if_neg (by decide)]; exact ih _
  show allF 3 0 (c :: List.replicate 63 ⟨0, 0, 0⟩) = []
  rw [allF, if_neg (by omega)]
  exact this 63 1
 rw [adv_evalP (L := []) (O := []) (s1 := kq now c [] n) (may_fine rfl (by show ¬ (now < t ∨ _); omega)) rfl (Nat.zero_le _) rfl (by rw [ha]; rfl) (Nat.zero_le _)]
 rfl
theorem kx8_eq (p q : Nat) : (kx7 p q).advX 7 = kx8 p q := by
 have h : (kx7 p q).advX 7 = (kx7 p q).adv 7 := by kernel_rfl
 rw [h]
 exact (adv2_eval (x := kx7 p q) rfl (kq_adv 7 (by decide) 1 0 ⟨2, 0, 0⟩ (by decide) (.inl rfl)) (kq_adv 7 (by decide) 2 0 ⟨0, 0, 0⟩ (by decide) (.inr rfl)) (y1 := { kx7 p q with now := 7, P := [kq 7 ⟨2, 0, 0⟩ [] 0, kq 2 ⟨0, 0, 0⟩ [] 0] }) (by kernel_rfl) rfl (y2 := { kx7 p q with now := 7, P := [kq 7 ⟨2, 0, 0⟩ [] 0, kq 7 ⟨0, 0, 0⟩ [] 0] }) (by kernel_rfl) (D := [⟨8, kb, 50, 1, 1, 7, 0, -1, -1, q⟩]) (by kernel_rfl) (Nat.le_refl _)).trans (by kernel_rfl)
theorem kx12_q : (kq 8 ⟨2, 0, 0⟩ [⟨2, 9, 20⟩] 2).advance 20 = { kq 20 ⟨2, 0, 0⟩ [] 2 with E := [⟨4, 9, -1⟩] } := by
 rw [adv_evalP (s := kq 8 ⟨2, 0, 0⟩ [⟨2, 9, 20⟩] 2) (s1 := { kq 20 ⟨2, 0, 0⟩ [] 2 with E := [⟨4, 9, -1⟩] }) (L := [⟨2, 9, 20⟩]) (O := []) (now := 20) (by kernel_rfl) (by kernel_rfl) (nb rfl) (by kernel_rfl) (by kernel_rfl) (nb rfl)]
 kernel_rfl
theorem kx12_eq (q r : Nat) : (kx11 q r).advX 20 = kx12 q := by
 have h : (kx11 q r).advX 20 = (kx11 q r).adv 20 := by kernel_rfl
 rw [h]
 exact (adv2_eval (x := kx11 q r) rfl kx12_q (kq_adv 20 (by decide) 7 0 ⟨0, 0, 0⟩ (by decide) (.inr rfl)) (y1 := { kx12 q with P := [kq 20 ⟨2, 0, 0⟩ [] 2, kq 7 ⟨0, 0, 0⟩ [] 0] }) (by kernel_rfl) (by kernel_rfl) (y2 := kx12 q) (by kernel_rfl) (D := []) (by kernel_rfl) (Nat.zero_le _)).trans rfl
theorem known_ok : Spec Tryz.prog 8 [] [] (fun r H' => r = .bool true ∧ H' = []) := by
 refine Spec.of (E := []) Tryz.func8 rfl (by kernel_rfl) Tryz.ntmps8 rfl rfl (fun w => ?_)
 refine WCr (WLa Z (WL_nil (WQ_code (WCr (WLc Z (lsett_ok) Z pqD ?_)))))
 rintro _ _ ⟨_, ⟨ws, rfl, rfl⟩, rfl⟩
 refine WLc Z (xm_new 1 [1, 1] _ _ _ (Rd.own (e := 3) (own_lit _ [1, 1] (nb Z))) 1 100 1 1 18446744073709551615 ⟨5, 5, 1, 1, 2, 0, 0⟩ (by decide) (by decide) (by decide) (by decide) (Nat.le_refl _)) Z pqD ?_
 rintro _ _ ⟨_, ⟨m0, rfl, rfl, g0⟩, rfl⟩
 rw [kx0_eq] at g0 ⊢
 have o0 : PXO 0 0 0 kx0 := kx0_eq ▸ PXO.new (by decide) (by decide)
 refine WLa Z (WLa Z (WLa Z (WLa Z (WLa Z (WL_nil (WQ_code (WC_seq (WCr (WLa Z (WLv Z (R_ptrEqNil Z Tryz.underlying33 Z) ?_))))))))))
 refine WL_set (s := 11) (v := .bool false) Z (by rfl) ?_
 refine WLa Z (WLa Z (WLa Z (WLa Z (WLa Z (WL_set (s := 16) (v := .bool false) Z (by simp) ?_)))))
 refine WLa Z (WLc Z (xm_begin g0 o0 (by omega) (by omega) (by omega) 7 0 50 (by omega) kb) Z pqD ?_)
 rintro _ _ ⟨_, ⟨m1, x1, rfl, rfl, g1, p1, o1, hx1⟩, rfl⟩
 obtain ⟨q1, rfl⟩ : ∃ p, x1 = (kx0).begin 7 0 50 kb p := by rcases hx1 with ⟨e, _⟩ | ⟨_, e⟩; exact absurd (by kernel_rfl) e; exact e
 rw [kx1_eq] at g1 o1 ⊢
 rw [← p1]
 rw [show (kx0).begE 7 0 50 kb = 0 from by kernel_rfl]
 refine WLa Z (WLa Z (WLa Z (WL_set (s := 21) (v := .bool false) Z (by simp) ?_)))
 refine WLa Z (WLc Z (mtells_ok g1 (r := []) Z) Z pqD ?_)
 rintro _ _ ⟨_, ⟨m2, rfl, rfl, g2, p2⟩, rfl⟩
 rw [kx2_eq] at g2 ⊢
 rw [← p2]
 have o2 := o1.nx
 rw [kx2_eq] at o2
 refine WLa Z (WLa Z (WLa Z (WLa Z (WLc Z (xm_dialed g2 o2 (by omega) (by omega) 7 true 1 (by omega)) Z pqD ?_))))
 rintro _ _ ⟨_, ⟨m3, rfl, rfl, g3, p3, o3⟩, rfl⟩
 rw [kx3_eq] at g3 o3 ⊢
 rw [← p3]
 rw [show (kx2 q1).inX 7 3 1 = 0 from by kernel_rfl]
 refine WLa Z (WLa Z (WLa Z (WL_set (s := 31) (v := .bool false) Z (by simp) ?_)))
 refine WLa Z (WLc Z (mtells_ok g3 (r := []) Z) Z pqD ?_)
 rintro _ _ ⟨_, ⟨m4, rfl, rfl, g4, p4⟩, rfl⟩
 rw [kx4_eq] at g4 ⊢
 rw [← p4]
 have o4 := o3.nx
 rw [kx4_eq] at o4
 refine WLa Z (WLa Z (WL_nil (WQ_code (WC_F Z (WC_skip (WQ_code (WC_seq (WCr (WLa Z (WLc Z (xm_begin g4 o4 (by omega) (by omega) (by omega) 8 1 50 (by omega) kb) Z pqD ?_))))))))))
 rintro _ _ ⟨_, ⟨m5, x5, rfl, rfl, g5, p5, o5, hx5⟩, rfl⟩
 obtain ⟨q2, rfl⟩ : ∃ p, x5 = (kx4 q1).begin 8 1 50 kb p := by rcases hx5 with ⟨e, _⟩ | ⟨_, e⟩; exact absurd (by kernel_rfl) e; exact e
 rw [kx5_eq] at g5 o5 ⊢
 rw [← p5]
 rw [show (kx4 q1).begE 8 1 50 kb = 0 from by kernel_rfl]
 refine WLa Z (WLa Z (WL_set (s := 39) (v := .bool false) Z (by simp) ?_))
 refine WLa Z (WLc Z (mtells_ok g5 (r := []) Z) Z pqD ?_)
 rintro _ _ ⟨_, ⟨m6, rfl, rfl, g6, p6⟩, rfl⟩
 rw [kx6_eq] at g6 ⊢
 rw [← p6]
 have o6 := o5.nx
 rw [kx6_eq] at o6
 refine WLa Z (WLa Z (WLa Z (WLa Z (WLc Z (xm_dialed g6 o6 (by omega) (by omega) 8 false 2 (by omega)) Z pqD ?_))))
 rintro _ _ ⟨_, ⟨m7, rfl, rfl, g7, p7, o7⟩, rfl⟩
 rw [kx7_eq] at g7 o7 ⊢
 rw [← p7]
 rw [show (kx6 q1 q2).inX 8 3 2 = 0 from by kernel_rfl]
 refine WLa Z (WLa Z (WLa Z (WL_set (s := 49) (v := .bool false) Z (by simp) ?_)))
 refine WLa Z (WLq Z (mis_ok g7 8 1 (-1) (-1)) Z pqD ?_)
 refine WL_set (s := 51) (v := .bool true) Z (by exact congrArg Value.bool (decide_eq_true (by kernel_rfl))) ?_
 refine WLa Z (WLa Z (WLa Z (WLa Z (WLc Z (xm_due g7 o7.g.nd) Z pqD ?_))))
 rintro _ _ ⟨_, ⟨rfl, rfl⟩, rfl⟩
 rw [show dueV (kx7 q1 q2).S = 7 from by kernel_rfl]
 refine WLa Z (WLa Z (WL_nil (WQ_code (WC_dF Z (by simp) ?_))))
 refine WC_skip (WQ_code (WC_seq (WCr (WLa Z (WLc Z (xm_next g7) Z pqD ?_)))))
 rintro _ _ ⟨_, ⟨m8, rfl, rfl, g8, p8⟩, rfl⟩
 rw [kx7_nx] at g8 ⊢
 rw [← p8]
 refine WLa Z (WLa Z (WLa Z (WLd Z (D_alloc Z zv63) ?_)))
 rintro _ _ ⟨b1, rfl, rfl⟩
 refine WLs (vs := [_, _, _, _, _]) Z Tryz.sizeOf63 Z Z plD (nb Z) ?_
 refine WLa Z (WL_set (s := 4) (v := .bool false) Z (by rfl) ?_)
 refine WL_nil (WQ_code (WCr (WLa Z (WLa Z (WLa Z (WLc Z (xm_adv g8 o7 (by omega) (by omega) (by omega) (by omega) (nb Z) 7 (by omega)) Z pqD ?_))))))
 rintro _ _ ⟨_, ⟨m9, rfl, rfl, g9, p9, o9⟩, rfl⟩
 rw [kx8_eq] at g9 o9 ⊢
 rw [← p9]
 rw [show (kx7 q1 q2).may true 7 = 0 from by kernel_rfl]
 refine WLa Z (WLa Z (WLa Z (WL_set (s := 70) (v := .bool false) Z (by simp) ?_)))
 refine WLa Z (WLq Z (mis_ok g9 8 2 0 (-1)) Z pqD ?_)
 refine WL_set (s := 72) (v := .bool true) Z (by exact congrArg Value.bool (decide_eq_true (by kernel_rfl))) ?_
 refine WLa Z (WLa Z (WLa Z (WLa Z (WLc Z (xm_end g9 o9 (by omega) (by omega) 7 true 8 (by omega)) Z pqD ?_))))
 rintro _ _ ⟨_, ⟨m10, rfl, rfl, g10, p10, o10⟩, rfl⟩
 rw [kx9_eq] at g10 o10 ⊢
 rw [← p10]
 rw [show (kx8 q1 q2).inX 7 4 8 = 0 from by kernel_rfl]
 refine WLa Z (WLa Z (WLa Z (WL_set (s := 80) (v := .bool false) Z (by simp) ?_)))
 refine WLa Z (WLc Z (mtells_ok g10 (r := []) Z) Z pqD ?_)
 rintro _ _ ⟨_, ⟨m11, rfl, rfl, g11, p11⟩, rfl⟩
 rw [kx10_eq] at g11 ⊢
 rw [← p11]
 have o11 := o10.nx
 rw [kx10_eq] at o11
 refine WLa Z (WLa Z (WL_nil (WQ_code (WC_F Z (WC_skip (WQ_code (WCr (WLa Z (WLc Z (xm_begin g11 o11 (by omega) (by omega) (by omega) 9 8 20 (by omega) kb) Z pqD ?_)))))))))
 rintro _ _ ⟨_, ⟨m12, x12, rfl, rfl, g12, p12, o12, hx12⟩, rfl⟩
 obtain ⟨q3, rfl⟩ : ∃ p, x12 = (kx10 q2).begin 9 8 20 kb p := by rcases hx12 with ⟨e, _⟩ | ⟨_, e⟩; exact absurd (by kernel_rfl) e; exact e
 rw [kx11_eq] at g12 o12 ⊢
 rw [← p12]
 rw [show (kx10 q2).begE 9 8 20 kb = 0 from by kernel_rfl]
 refine WLa Z (WLa Z (WL_set (s := 88) (v := .bool true) Z (by simp) ?_))
 refine WLa Z (WLc Z (xm_adv g12 o12 (by omega) (by omega) (by omega) (by omega) (nb Z) 20 (by omega)) Z pqD ?_)
 rintro _ _ ⟨_, ⟨m13, rfl, rfl, g13, p13, o13⟩, rfl⟩
 rw [kx12_eq] at g13 o13 ⊢
 rw [← p13]
 rw [show (kx11 q2 q3).may true 20 = 0 from by kernel_rfl]
 refine WLa Z (WLa Z (WLa Z (WL_set (s := 93) (v := .bool true) Z (by simp) ?_)))
 refine WLa Z (WLc Z (mtells_ok g13 (r := []) Z) Z pqD ?_)
 rintro _ _ ⟨_, ⟨m14, rfl, rfl, g14, p14⟩, rfl⟩
 refine WLa Z (WLa Z (WL_nil (WQ_code (WC_ret ?_))))
 refine WQ1 Z (by
   exact ⟨rfl, rfl⟩) pqD
theorem MIs.s3 {N : Nat} {M : MM} {x x2 : PX} (h : MIs N M x) {so : Option Nat} {sc : Nat} {stl : List Value} {eb : Option Nat} {ek ec : Nat} {epre etl : List Value} (hb : x2.b = x.b) (hP : x2.P = x.P) (hpl : x2.pl = x.pl) (hn : x2.now = x.now)
  (hO : Own so x2.S.length sc 9 (x2.S.flatMap encR) stl) (hV : OwnS eb ek x2.E.length ec 5 epre (x2.E.flatMap encX) etl) : MIs N { M with so := so, sc := sc, stl := stl, eb := eb, ek := ek, ec := ec, epre := epre, etl := etl } x2 :=
 ⟨by rw [hb]; exact h.bal, by rw [hP]; exact h.len, by rw [hP]; exact h.po, by rw [hP]; exact h.oq, hO, hV, by rw [hpl]; exact h.ok, by rw [hpl]; exact h.seed, by rw [hb, hP]; exact h.vl, by rw [hn]; exact h.now⟩
theorem MIs.att0 {N : Nat} {M : MM} {x : PX} (h : MIs N M x) {s : Ss} {si : PS} {mi m' : PM} {bm1 : Bm} (hmi : M.pm[x.pk s]? = some mi) (hp : m'.p = mi.p) (hb : BIs (N + 1) bm1 (x.b.pick s.key x.now)) (hi : PIs m' (si.getS s.num x.now s.dl)) : MIs (N + 1) { M with bm := bm1, pm := M.pm.set (x.pk s) m' } (x.att0 s si) where
 bal := hb
 len := by show (M.pm.set _ _).length = (x.P.set _ _).length; rw [List.length_set, List.length_set]; exact h.len
 po := fun j a b h1 h2 => by
  have h1 : (M.pm.set (x.pk s) m')[j]? = some a := h1
  have h2 : (x.P.set (x.pk s) (si.getS s.num x.now s.dl))[j]? = some b := h2
  by_cases e : x.pk s = j
  ·subst e
   have hl := (List.getElem?_eq_some_iff.1 hmi).1
   rw [List.getElem?_set_self hl] at h1
   rw [List.getElem?_set_self (by rw [← h.len]; exact hl)] at h2
   rw [← Option.some.inj h1, ← Option.some.inj h2]; exact hi
  ·rw [List.getElem?_set_ne e] at h1 h2
   exact h.po j a b h1 h2
 oq := by
  show Own M.ob (x.P.set _ _).length M.oc 1 ((M.pm.set (x.pk s) m').flatMap (fun q => [ptrP q.p])) M.otl
  rw [List.length_set, pms_set hmi hp]; exact h.oq
 sO := h.sO
 eO := h.eO
 ok := h.ok
 seed := h.seed
 vl := by
  show ((pickS x.b.k (un x.b.V) x.now (x.b.cand x.now) (x.b.pickI s.key x.now).toNat).map vw).length = (x.P.set _ _).length
  rw [List.length_map, pickS_len, un_len, List.length_set]; exact h.vl
 now := h.now
theorem MIs.pool {N : Nat} {M : MM} {x : PX} (h : MIs N M x) {i : Nat} {mi m' : PM} {s' : PS} (hmi : M.pm[i]? = some mi) (hp : m'.p = mi.p) (hi : PIs m' s') : MIs N { M with pm := M.pm.set i m' } { x with P := x.P.set i s' } where
 bal := h.bal
 len := by show (M.pm.set _ _).length = (x.P.set _ _).length; rw [List.length_set, List.length_set]; exact h.len
 po := fun j a b h1 h2 => by
  have h1 : (M.pm.set i m')[j]? = some a := h1
  have h2 : (x.P.set i s')[j]? = some b := h2
  by_cases e : i = j
  ·subst e
   have hl := (List.getElem?_eq_some_iff.1 hmi).1
   rw [List.getElem?_set_self hl] at h1
   rw [List.getElem?_set_self (by rw [← h.len]; exact hl)] at h2
   rw [← Option.some.inj h1, ← Option.some.inj h2]; exact hi
  ·rw [List.getElem?_set_ne e] at h1 h2
   exact h.po j a b h1 h2
 oq := by
  show Own M.ob (x.P.set _ _).length M.oc 1 ((M.pm.set i m').flatMap (fun q => [ptrP q.p])) M.otl
  rw [List.length_set, pms_set hmi hp]; exact h.oq
 sO := h.sO
 eO := h.eO
 ok := h.ok
 seed := h.seed
 vl := by show x.b.V.length = (x.P.set _ _).length; rw [List.length_set]; exact h.vl
 now := h.now
theorem MIs.done {N : Nat} {M : MM} {x : PX} (h : MIs N M x) {bm1 : Bm} {n : Int} {good : Bool} {now : Nat} (hI : BIs (N + 1) bm1 (x.b.doneX now n good)) : MIs (N + 1) { M with bm := bm1 } { x with b := x.b.doneX now n good } :=
 ⟨hI, h.len, h.po, h.oq, h.sO, h.eO, h.ok, h.seed, by show (x.b.doneX _ _ _).V.length = _; rw [doneX_len]; exact h.vl, h.now⟩
theorem MIs.at_ {N : Nat} {M : MM} {x : PX} (h : MIs N M x) {now : Nat} (hn : now ≤ 18446744073709551614) : MIs N M { x with now := now } := ⟨h.bal, h.len, h.po, h.oq, h.sO, h.eO, h.ok, h.seed, h.vl, hn⟩
def reS (S : List Ss) (f : Int → Nat) : List Ss := S.map fun s => { s with p := f s.num }
theorem reS_num (S : List Ss) (f : Int → Nat) : (reS S f).map (·.num) = S.map (·.num) := by unfold reS; rw [List.map_map]; rfl
abbrev PX.re (x : PX) (f : Int → Nat) : PX := { x with S := reS x.S f }
theorem PoIn.re {S : List Ss} {now i : Nat} {s : PS} (h : PoIn S now i s) (f : Int → Nat) : PoIn (reS S f) now i s :=
 ⟨h.ph, h.nw, h.nd, h.ks, fun w hw => by obtain ⟨y, hy, q⟩ := h.wt w hw; exact ⟨{ y with p := f y.num }, List.mem_map_of_mem (f := fun s : Ss => { s with p := f s.num }) hy, q⟩, fun c x hx hs => by
  rcases h.dl c x hx hs with ⟨y, hy, q⟩ | q
  ·exact .inl ⟨{ y with p := f y.num }, List.mem_map_of_mem (f := fun s : Ss => { s with p := f s.num }) hy, q⟩
  ·exact .inr q⟩
theorem PXG.re {x : PX} (h : PXG x) (f : Int → Nat) : PXG (x.re f) :=
 ⟨h.bl, by show ((reS x.S f).map (·.num)).Nodup; rw [reS_num]; exact h.nd, fun s hs => by obtain ⟨y, hy, rfl⟩ := List.mem_map.1 hs; exact h.ks y hy, fun s hs h9 => by obtain ⟨y, hy, rfl⟩ := List.mem_map.1 hs; exact h.bk y hy h9, fun i si hi => (h.po i si hi).re f⟩
theorem lat_re (S : List Ss) (f : Int → Nat) : lat (reS S f) = lat S := by
 unfold lat reS
 first
 | rw [List.map_map]; rfl
 | (rw [List.filter_map, List.length_map]; rfl)
 | (rw [List.countP_map]; rfl)
theorem PXO.re {w b e : Nat} {x : PX} (h : PXO w b e x) (f : Int → Nat) : PXO w b e (x.re f) :=
 ⟨h.g.re f, by show wP x.P + lat (reS x.S f) ≤ w; rw [lat_re]; exact h.w, h.b, h.e, h.tr⟩
theorem reS_encR (S : List Ss) (f : Int → Nat) : (reS S f).flatMap encR = S.flatMap encR := by unfold reS; rw [List.flatMap_map]
theorem MIs.re {N : Nat} {M : MM} {x : PX} (h : MIs N M x) (f : Int → Nat) : MIs N M (x.re f) :=
 ⟨h.bal, h.len, h.po, h.oq, by show Own M.so (reS x.S f).length M.sc 9 ((reS x.S f).flatMap encR) M.stl; rw [reS_encR, show (reS x.S f).length = x.S.length from List.length_map ..]; exact h.sO, h.eO, h.ok, h.seed, h.vl, h.now⟩
theorem pxis_len {N : Nat} {m : XM} {x : PX} (h : PXIs N m x) : x.P.length ≤ 64 := by have h1 := h.bal.len; have h2 := h.vl; have h3 := h.bal.is.n; omega
theorem holds_big (k : Int) (W : List Int) (oa : Option Addr) (c : Nat) (ent : Ent) (ha : Rd oa ent W) (limit : Int) (brk : Nat) (op idle : Int) (keep : Nat) (p : Plan) (L : List A9) (oa2 : Option Addr) (c2 : Nat) (en2 : Ent) (ha2 : Arg oa2 en2 6 encA9 L) (hW : W.length ≤ 9223372036854775807) (hT : L.length ≤ 9223372036854775807) (hf : ¬ fewB W.length L 40) : Spec Tryz.prog 4 [.agg (xsetL k oa W.length c limit brk op idle keep p).toArray, .slice oa2 L.length c2] [en2] (fun r H' => r = .bool true ∧ H' = [en2]) := by
 refine Spec.of (E := [(0, .agg (xsetL k oa W.length c limit brk op idle keep p).toArray), (1, .slice oa2 L.length c2)]) Tryz.func4 rfl (by kernel_rfl) Tryz.ntmps4 rfl rfl (fun w => ?_)
 refine WCr (WLd Z (D_box (cs := [_, _, _, _, _, _, _, _, _, _, _, _, _, _]) Z Z Z) ?_)
 rintro _ _ ⟨b1, rfl, rfl⟩
 refine WLa Z (WL_nil (WQ_code (WC_seq (WCr (WLv Z (R_loadA (vs := [_, _, _, _, _, _, _, _, _, _, _, _, _, _]) Z ag30 Z mmD Z atZ) ?_)))))
 refine WLa Z (WLq Z (few_ok k oa W.length c limit brk op idle keep p hW L oa2 c2 _ ha2 hT 40 (by omega)) Z pqD ?_)
 rw [decide_eq_false hf]
 refine WLa Z (WL_nil (WQ_code (WC_T Z (WCr (WLq Z (known_ok) Z pqD ?_)))))
 refine WLa Z (WL_nil (WQ_code (WC_ret ?_)))
 refine WQ1 Z (by
   exact ⟨rfl, rfl⟩) pqD
theorem holds_one1 (k : Int) (W : List Int) (oa : Option Addr) (c : Nat) (ent : Ent) (ha : Rd oa ent W) (limit : Int) (brk : Nat) (op idle : Int) (keep : Nat) (p : Plan) (L : List A9) (oa2 : Option Addr) (c2 : Nat) (ha2 : Arg oa2 ent 6 encA9 L) (hW : W.length ≤ 9223372036854775807) (hT : L.length ≤ 9223372036854775807) (hf : fewB W.length L 40) (h : ¬ VOkB k W limit brk) : Spec Tryz.prog 4 [.agg (xsetL k oa W.length c limit brk op idle keep p).toArray, .slice oa2 L.length c2] [ent] (fun r H' => r = .bool true ∧ H' = [ent]) := by
 refine Spec.of (E := [(0, .agg (xsetL k oa W.length c limit brk op idle keep p).toArray), (1, .slice oa2 L.length c2)]) Tryz.func4 rfl (by kernel_rfl) Tryz.ntmps4 rfl rfl (fun w => ?_)
 refine WCr (WLd Z (D_box (cs := [_, _, _, _, _, _, _, _, _, _, _, _, _, _]) Z Z Z) ?_)
 rintro _ _ ⟨b1, rfl, rfl⟩
 refine WLa Z (WL_nil (WQ_code (WC_seq (WCr (WLv Z (R_loadA (vs := [_, _, _, _, _, _, _, _, _, _, _, _, _, _]) Z ag30 Z mmD Z atZ) ?_)))))
 refine WLa Z (WLq Z (few_ok k oa W.length c limit brk op idle keep p hW L oa2 c2 _ ha2 hT 40 (by omega)) Z pqD ?_)
 rw [decide_eq_true hf]
 refine WLa Z (WL_nil (WQ_code (WC_F Z (WC_skip (WQ_code (WCr (WLv Z (R_loadA (vs := [_, _, _, _, _, _, _, _, _, _, _, _, _, _]) Z ag30 Z mmD Z atZ) ?_)))))))
 refine WLc Z (xnew_bad1 k W oa c ent ha limit brk op idle keep p h) Z pqD ?_
 rintro _ _ ⟨_, ⟨rfl, rfl⟩, rfl⟩
 refine WLa Z (WLa Z (WLa Z (WLa Z (WLa Z (WL_nil (WQ_code (WC_seq (WCr (WLa Z (WLa Z (WLa Z ?_)))))))))))
 refine WL_splitD (s := 32) Z (fun c1 => ?_) (fun c1 => ?_)
 ·refine WLa Z (WLa Z (WLa Z (WL_nil (WQ_code (WC_T Z (WCr (WLa Z (WLv Z (R_ptrEqNil Z Tryz.underlying33 Z) ?_))))))))
  refine WL_set (s := 37) (v := .bool true) Z (by rfl) ?_
  refine WLa Z (WLa Z (WLa Z (WL_set (s := 40) (v := .bool true) Z (by rfl) ?_)))
  refine WLa Z (WLa Z (WLq Z (known_ok) Z pqD ?_))
  refine WLa Z (WLa Z (WL_nil (WQ_code (WC_ret ?_))))
  refine WQ1 Z (by
    exact ⟨rfl, rfl⟩) pqD
 ·refine WLa Z (WLv Z (R_ptrEqNil Z Tryz.underlying33 Z) ?_)
  refine WLa Z (WL_nil (WQ_code (WC_T Z (WCr (WLa Z (WLv Z (R_ptrEqNil Z Tryz.underlying33 Z) ?_))))))
  refine WL_set (s := 37) (v := .bool true) Z (by rfl) ?_
  refine WLa Z (WLa Z (WLa Z (WL_set (s := 40) (v := .bool true) Z (by rfl) ?_)))
  refine WLa Z (WLa Z (WLq Z (known_ok) Z pqD ?_))
  refine WLa Z (WLa Z (WL_nil (WQ_code (WC_ret ?_))))
  refine WQ1 Z (by
    exact ⟨rfl, rfl⟩) pqD
theorem holds_one2 (k : Nat) (W : List Int) (oa : Option Addr) (c : Nat) (ent : Ent) (ha : Rd oa ent W) (limit : Int) (brk : Nat) (op idle : Int) (keep : Nat) (p : Plan) (L : List A9) (oa2 : Option Addr) (c2 : Nat) (ha2 : Arg oa2 ent 6 encA9 L) (hW : W.length ≤ 9223372036854775807) (hT : L.length ≤ 9223372036854775807) (hf : fewB W.length L 40) (h : VOkB (k : Int) W limit brk) (hp : ¬ OkP p) : Spec Tryz.prog 4 [.agg (xsetL (k : Int) oa W.length c limit brk op idle keep p).toArray, .slice oa2 L.length c2] [ent] (fun r H' => r = .bool true ∧ H' = [ent]) := by
 refine Spec.of (E := [(0, .agg (xsetL (k : Int) oa W.length c limit brk op idle keep p).toArray), (1, .slice oa2 L.length c2)]) Tryz.func4 rfl (by kernel_rfl) Tryz.ntmps4 rfl rfl (fun w => ?_)
 refine WCr (WLd Z (D_box (cs := [_, _, _, _, _, _, _, _, _, _, _, _, _, _]) Z Z Z) ?_)
 rintro _ _ ⟨b1, rfl, rfl⟩
 refine WLa Z (WL_nil (WQ_code (WC_seq (WCr (WLv Z (R_loadA (vs := [_, _, _, _, _, _, _, _, _, _, _, _, _, _]) Z ag30 Z mmD Z atZ) ?_)))))
 refine WLa Z (WLq Z (few_ok (k : Int) oa W.length c limit brk op idle keep p hW L oa2 c2 _ ha2 hT 40 (by omega)) Z pqD ?_)
 rw [decide_eq_true hf]
 refine WLa Z (WL_nil (WQ_code (WC_F Z (WC_skip (WQ_code (WCr (WLv Z (R_loadA (vs := [_, _, _, _, _, _, _, _, _, _, _, _, _, _]) Z ag30 Z mmD Z atZ) ?_)))))))
 refine WLc Z (xnew_bad2 k W oa c ent ha limit brk op idle keep p h hp) Z pqD ?_
 rintro _ _ ⟨_, ⟨rfl, rfl⟩, rfl⟩
 refine WLa Z (WLa Z (WLa Z (WLa Z (WLa Z (WL_nil (WQ_code (WC_seq (WCr (WLa Z (WLa Z (WLa Z ?_)))))))))))
 refine WL_splitD (s := 32) Z (fun c1 => ?_) (fun c1 => ?_)
 ·refine WLa Z (WLa Z (WLa Z (WL_nil (WQ_code (WC_T Z (WCr (WLa Z (WLv Z (R_ptrEqNil Z Tryz.underlying33 Z) ?_))))))))
  refine WL_set (s := 37) (v := .bool true) Z (by rfl) ?_
  refine WLa Z (WLa Z (WLa Z (WL_set (s := 40) (v := .bool true) Z (by rfl) ?_)))
  refine WLa Z (WLa Z (WLq Z (known_ok) Z pqD ?_))
  refine WLa Z (WLa Z (WL_nil (WQ_code (WC_ret ?_))))
  refine WQ1 Z (by
    exact ⟨rfl, rfl⟩) pqD
 ·refine WLa Z (WLv Z (R_ptrEqNil Z Tryz.underlying33 Z) ?_)
  refine WLa Z (WL_nil (WQ_code (WC_T Z (WCr (WLa Z (WLv Z (R_ptrEqNil Z Tryz.underlying33 Z) ?_))))))
  refine WL_set (s := 37) (v := .bool true) Z (by rfl) ?_
  refine WLa Z (WLa Z (WLa Z (WL_set (s := 40) (v := .bool true) Z (by rfl) ?_)))
  refine WLa Z (WLa Z (WLq Z (known_ok) Z pqD ?_))
  refine WLa Z (WLa Z (WL_nil (WQ_code (WC_ret ?_))))
  refine WQ1 Z (by
    exact ⟨rfl, rfl⟩) pqD
theorem holds_one3 (k : Nat) (W : List Int) (oa : Option Addr) (c : Nat) (ent : Ent) (ha : Rd oa ent W) (limit : Int) (brk : Nat) (op idle : Int) (keep : Nat) (p : Plan) (L : List A9) (oa2 : Option Addr) (c2 : Nat) (ha2 : Arg oa2 ent 6 encA9 L) (hW : W.length ≤ 9223372036854775807) (hT : L.length ≤ 9223372036854775807) (hf : fewB W.length L 40) (h : VOkB (k : Int) W limit brk) (hp : OkP p) (hq : ¬ POk op idle keep) : Spec Tryz.prog 4 [.agg (xsetL (k : Int) oa W.length c limit brk op idle keep p).toArray, .slice oa2 L.length c2] [ent] (fun r H' => r = .bool true ∧ H' = [ent]) := by
 refine Spec.of (E := [(0, .agg (xsetL (k : Int) oa W.length c limit brk op idle keep p).toArray), (1, .slice oa2 L.length c2)]) Tryz.func4 rfl (by kernel_rfl) Tryz.ntmps4 rfl rfl (fun w => ?_)
 refine WCr (WLd Z (D_box (cs := [_, _, _, _, _, _, _, _, _, _, _, _, _, _]) Z Z Z) ?_)
 rintro _ _ ⟨b1, rfl, rfl⟩
 refine WLa Z (WL_nil (WQ_code (WC_seq (WCr (WLv Z (R_loadA (vs := [_, _, _, _, _, _, _, _, _, _, _, _, _, _]) Z ag30 Z mmD Z atZ) ?_)))))
 refine WLa Z (WLq Z (few_ok (k : Int) oa W.length c limit brk op idle keep p hW L oa2 c2 _ ha2 hT 40 (by omega)) Z pqD ?_)
 rw [decide_eq_true hf]
 refine WLa Z (WL_nil (WQ_code (WC_F Z (WC_skip (WQ_code (WCr (WLv Z (R_loadA (vs := [_, _, _, _, _, _, _, _, _, _, _, _, _, _]) Z ag30 Z mmD Z atZ) ?_)))))))
 refine WLc Z (xnew_bad3 k W oa c ent ha limit brk op idle keep p h hp hq) Z pqD ?_
 rintro _ _ ⟨_, ⟨rfl, rfl⟩, rfl⟩
 refine WLa Z (WLa Z (WLa Z (WLa Z (WLa Z (WL_nil (WQ_code (WC_seq (WCr (WLa Z (WLa Z (WLa Z ?_)))))))))))
 refine WL_splitD (s := 32) Z (fun c1 => ?_) (fun c1 => ?_)
 ·refine WLa Z (WLa Z (WLa Z (WL_nil (WQ_code (WC_T Z (WCr (WLa Z (WLv Z (R_ptrEqNil Z Tryz.underlying33 Z) ?_))))))))
  refine WL_set (s := 37) (v := .bool true) Z (by rfl) ?_
  refine WLa Z (WLa Z (WLa Z (WL_set (s := 40) (v := .bool true) Z (by rfl) ?_)))
  refine WLa Z (WLa Z (WLq Z (known_ok) Z pqD ?_))
  refine WLa Z (WLa Z (WL_nil (WQ_code (WC_ret ?_))))
  refine WQ1 Z (by
    exact ⟨rfl, rfl⟩) pqD
 ·refine WLa Z (WLv Z (R_ptrEqNil Z Tryz.underlying33 Z) ?_)
  refine WLa Z (WL_nil (WQ_code (WC_T Z (WCr (WLa Z (WLv Z (R_ptrEqNil Z Tryz.underlying33 Z) ?_))))))
  refine WL_set (s := 37) (v := .bool true) Z (by rfl) ?_
  refine WLa Z (WLa Z (WLa Z (WL_set (s := 40) (v := .bool true) Z (by rfl) ?_)))
  refine WLa Z (WLa Z (WLq Z (known_ok) Z pqD ?_))
  refine WLa Z (WLa Z (WL_nil (WQ_code (WC_ret ?_))))
  refine WQ1 Z (by
    exact ⟨rfl, rfl⟩) pqD
theorem holds_two1 (k : Int) (W : List Int) (oa : Option Addr) (c : Nat) (ent : Ent) (ha : Rd oa ent W) (limit : Int) (brk : Nat) (op idle : Int) (keep : Nat) (p : Plan) (L : List A9) (oa2 : Option Addr) (c2 : Nat) (en2 : Ent) (ha2 : Arg oa2 en2 6 encA9 L) (hW : W.length ≤ 9223372036854775807) (hT : L.length ≤ 9223372036854775807) (hf : fewB W.length L 40) (h : ¬ VOkB k W limit brk) : Spec Tryz.prog 4 [.agg (xsetL k oa W.length c limit brk op idle keep p).toArray, .slice oa2 L.length c2] [ent, en2] (fun r H' => r = .bool true ∧ H' = [ent, en2]) := by
 refine Spec.of (E := [(0, .agg (xsetL k oa W.length c limit brk op idle keep p).toArray), (1, .slice oa2 L.length c2)]) Tryz.func4 rfl (by kernel_rfl) Tryz.ntmps4 rfl rfl (fun w => ?_)
 refine WCr (WLd Z (D_box (cs := [_, _, _, _, _, _, _, _, _, _, _, _, _, _]) Z Z Z) ?_)
 rintro _ _ ⟨b1, rfl, rfl⟩
 refine WLa Z (WL_nil (WQ_code (WC_seq (WCr (WLv Z (R_loadA (vs := [_, _, _, _, _, _, _, _, _, _, _, _, _, _]) Z ag30 Z mmD Z atZ) ?_)))))
 refine WLa Z (WLq Z (few_ok k oa W.length c limit brk op idle keep p hW L oa2 c2 _ ha2 hT 40 (by omega)) Z pqD ?_)
 rw [decide_eq_true hf]
 refine WLa Z (WL_nil (WQ_code (WC_F Z (WC_skip (WQ_code (WCr (WLv Z (R_loadA (vs := [_, _, _, _, _, _, _, _, _, _, _, _, _, _]) Z ag30 Z mmD Z atZ) ?_)))))))
 refine WLc Z (xnew_bad1 k W oa c ent ha limit brk op idle keep p h) Z pqD ?_
 rintro _ _ ⟨_, ⟨rfl, rfl⟩, rfl⟩
 refine WLa Z (WLa Z (WLa Z (WLa Z (WLa Z (WL_nil (WQ_code (WC_seq (WCr (WLa Z (WLa Z (WLa Z ?_)))))))))))
 refine WL_splitD (s := 32) Z (fun c1 => ?_) (fun c1 => ?_)
 ·refine WLa Z (WLa Z (WLa Z (WL_nil (WQ_code (WC_T Z (WCr (WLa Z (WLv Z (R_ptrEqNil Z Tryz.underlying33 Z) ?_))))))))
  refine WL_set (s := 37) (v := .bool true) Z (by rfl) ?_
  refine WLa Z (WLa Z (WLa Z (WL_set (s := 40) (v := .bool true) Z (by rfl) ?_)))
  refine WLa Z (WLa Z (WLq Z (known_ok) Z pqD ?_))
  refine WLa Z (WLa Z (WL_nil (WQ_code (WC_ret ?_))))
  refine WQ1 Z (by
    exact ⟨rfl, rfl⟩) pqD
 ·refine WLa Z (WLv Z (R_ptrEqNil Z Tryz.underlying33 Z) ?_)
  refine WLa Z (WL_nil (WQ_code (WC_T Z (WCr (WLa Z (WLv Z (R_ptrEqNil Z Tryz.underlying33 Z) ?_))))))
  refine WL_set (s := 37) (v := .bool true) Z (by rfl) ?_
  refine WLa Z (WLa Z (WLa Z (WL_set (s := 40) (v := .bool true) Z (by rfl) ?_)))
  refine WLa Z (WLa Z (WLq Z (known_ok) Z pqD ?_))
  refine WLa Z (WLa Z (WL_nil (WQ_code (WC_ret ?_))))
  refine WQ1 Z (by
    exact ⟨rfl, rfl⟩) pqD
theorem holds_two2 (k : Nat) (W : List Int) (oa : Option Addr) (c : Nat) (ent : Ent) (ha : Rd oa ent W) (limit : Int) (brk : Nat) (op idle : Int) (keep : Nat) (p : Plan) (L : List A9) (oa2 : Option Addr) (c2 : Nat) (en2 : Ent) (ha2 : Arg oa2 en2 6 encA9 L) (hW : W.length ≤ 9223372036854775807) (hT : L.length ≤ 9223372036854775807) (hf : fewB W.length L 40) (h : VOkB (k : Int) W limit brk) (hp : ¬ OkP p) : Spec Tryz.prog 4 [.agg (xsetL (k : Int) oa W.length c limit brk op idle keep p).toArray, .slice oa2 L.length c2] [ent, en2] (fun r H' => r = .bool true ∧ H' = [ent, en2]) := by
 refine Spec.of (E := [(0, .agg (xsetL (k : Int) oa W.length c limit brk op idle keep p).toArray), (1, .slice oa2 L.length c2)]) Tryz.func4 rfl (by kernel_rfl) Tryz.ntmps4 rfl rfl (fun w => ?_)
 refine WCr (WLd Z (D_box (cs := [_, _, _, _, _, _, _, _, _, _, _, _, _, _]) Z Z Z) ?_)
 rintro _ _ ⟨b1, rfl, rfl⟩
 refine WLa Z (WL_nil (WQ_code (WC_seq (WCr (WLv Z (R_loadA (vs := [_, _, _, _, _, _, _, _, _, _, _, _, _, _]) Z ag30 Z mmD Z atZ) ?_)))))
 refine WLa Z (WLq Z (few_ok (k : Int) oa W.length c limit brk op idle keep p hW L oa2 c2 _ ha2 hT 40 (by omega)) Z pqD ?_)
 rw [decide_eq_true hf]
 refine WLa Z (WL_nil (WQ_code (WC_F Z (WC_skip (WQ_code (WCr (WLv Z (R_loadA (vs := [_, _, _, _, _, _, _, _, _, _, _, _, _, _]) Z ag30 Z mmD Z atZ) ?_)))))))
 refine WLc Z (xnew_bad2 k W oa c ent ha limit brk op idle keep p h hp) Z pqD ?_
 rintro _ _ ⟨_, ⟨rfl, rfl⟩, rfl⟩
 refine WLa Z (WLa Z (WLa Z (WLa Z (WLa Z (WL_nil (WQ_code (WC_seq (WCr (WLa Z (WLa Z (WLa Z ?_)))))))))))
 refine WL_splitD (s := 32) Z (fun c1 => ?_) (fun c1 => ?_)
 ·refine WLa Z (WLa Z (WLa Z (WL_nil (WQ_code (WC_T Z (WCr (WLa Z (WLv Z (R_ptrEqNil Z Tryz.underlying33 Z) ?_))))))))
  refine WL_set (s := 37) (v := .bool true) Z (by rfl) ?_
  refine WLa Z (WLa Z (WLa Z (WL_set (s := 40) (v := .bool true) Z (by rfl) ?_)))
  refine WLa Z (WLa Z (WLq Z (known_ok) Z pqD ?_))
  refine WLa Z (WLa Z (WL_nil (WQ_code (WC_ret ?_))))
  refine WQ1 Z (by
    exact ⟨rfl, rfl⟩) pqD
 ·refine WLa Z (WLv Z (R_ptrEqNil Z Tryz.underlying33 Z) ?_)
  refine WLa Z (WL_nil (WQ_code (WC_T Z (WCr (WLa Z (WLv Z (R_ptrEqNil Z Tryz.underlying33 Z) ?_))))))
  refine WL_set (s := 37) (v := .bool true) Z (by rfl) ?_
  refine WLa Z (WLa Z (WLa Z (WL_set (s := 40) (v := .bool true) Z (by rfl) ?_)))
  refine WLa Z (WLa Z (WLq Z (known_ok) Z pqD ?_))
  refine WLa Z (WLa Z (WL_nil (WQ_code (WC_ret ?_))))
  refine WQ1 Z (by
    exact ⟨rfl, rfl⟩) pqD
theorem holds_two3 (k : Nat) (W : List Int) (oa : Option Addr) (c : Nat) (ent : Ent) (ha : Rd oa ent W) (limit : Int) (brk : Nat) (op idle : Int) (keep : Nat) (p : Plan) (L : List A9) (oa2 : Option Addr) (c2 : Nat) (en2 : Ent) (ha2 : Arg oa2 en2 6 encA9 L) (hW : W.length ≤ 9223372036854775807) (hT : L.length ≤ 9223372036854775807) (hf : fewB W.length L 40) (h : VOkB (k : Int) W limit brk) (hp : OkP p) (hq : ¬ POk op idle keep) : Spec Tryz.prog 4 [.agg (xsetL (k : Int) oa W.length c limit brk op idle keep p).toArray, .slice oa2 L.length c2] [ent, en2] (fun r H' => r = .bool true ∧ H' = [ent, en2]) := by
 refine Spec.of (E := [(0, .agg (xsetL (k : Int) oa W.length c limit brk op idle keep p).toArray), (1, .slice oa2 L.length c2)]) Tryz.func4 rfl (by kernel_rfl) Tryz.ntmps4 rfl rfl (fun w => ?_)
 refine WCr (WLd Z (D_box (cs := [_, _, _, _, _, _, _, _, _, _, _, _, _, _]) Z Z Z) ?_)
 rintro _ _ ⟨b1, rfl, rfl⟩
 refine WLa Z (WL_nil (WQ_code (WC_seq (WCr (WLv Z (R_loadA (vs := [_, _, _, _, _, _, _, _, _, _, _, _, _, _]) Z ag30 Z mmD Z atZ) ?_)))))
 refine WLa Z (WLq Z (few_ok (k : Int) oa W.length c limit brk op idle keep p hW L oa2 c2 _ ha2 hT 40 (by omega)) Z pqD ?_)
 rw [decide_eq_true hf]
 refine WLa Z (WL_nil (WQ_code (WC_F Z (WC_skip (WQ_code (WCr (WLv Z (R_loadA (vs := [_, _, _, _, _, _, _, _, _, _, _, _, _, _]) Z ag30 Z mmD Z atZ) ?_)))))))
 refine WLc Z (xnew_bad3 k W oa c ent ha limit brk op idle keep p h hp hq) Z pqD ?_
 rintro _ _ ⟨_, ⟨rfl, rfl⟩, rfl⟩
 refine WLa Z (WLa Z (WLa Z (WLa Z (WLa Z (WL_nil (WQ_code (WC_seq (WCr (WLa Z (WLa Z (WLa Z ?_)))))))))))
 refine WL_splitD (s := 32) Z (fun c1 => ?_) (fun c1 => ?_)
 ·refine WLa Z (WLa Z (WLa Z (WL_nil (WQ_code (WC_T Z (WCr (WLa Z (WLv Z (R_ptrEqNil Z Tryz.underlying33 Z) ?_))))))))
  refine WL_set (s := 37) (v := .bool true) Z (by rfl) ?_
  refine WLa Z (WLa Z (WLa Z (WL_set (s := 40) (v := .bool true) Z (by rfl) ?_)))
  refine WLa Z (WLa Z (WLq Z (known_ok) Z pqD ?_))
  refine WLa Z (WLa Z (WL_nil (WQ_code (WC_ret ?_))))
  refine WQ1 Z (by
    exact ⟨rfl, rfl⟩) pqD
 ·refine WLa Z (WLv Z (R_ptrEqNil Z Tryz.underlying33 Z) ?_)
  refine WLa Z (WL_nil (WQ_code (WC_T Z (WCr (WLa Z (WLv Z (R_ptrEqNil Z Tryz.underlying33 Z) ?_))))))
  refine WL_set (s := 37) (v := .bool true) Z (by rfl) ?_
  refine WLa Z (WLa Z (WLa Z (WL_set (s := 40) (v := .bool true) Z (by rfl) ?_)))
  refine WLa Z (WLa Z (WLq Z (known_ok) Z pqD ?_))
  refine WLa Z (WLa Z (WL_nil (WQ_code (WC_ret ?_))))
  refine WQ1 Z (by
    exact ⟨rfl, rfl⟩) pqD
section
section
variable {X : Ctx} {p : Post} {E : Env} {H : Heap}
theorem WC_cutF {G : Type} {x y : Code} (ds : List Nat) (I : G → Prop) (EI : G → Env) (HI : G → Heap) (HK : Heap) {F : Heap} (_ : Pulls HK H F)
    (h : WC X x (Post.to (fun a w => ∃ g, I g ∧ AE X (EI g ++ dropE ds E) a ∧ HW X.H0 X.w0 (HI g ++ F) w) p) E H)
    (k : ∀ g, I g → WC X y p (EI g ++ dropE ds E) (HI g ++ F)) : WC X (.seq x y) p E H :=
  WC_cut I (fun g => EI g ++ dropE ds E) (fun g => HI g ++ F) h k
theorem WQ_cutF {G : Type} {ds : List Nat} {E0 : Env} {I : G → Prop} {EI : G → Env} {HI : G → Heap} {F0 F : Heap} (g : G) (hI : I g) (l : Lq (EI g) E) (hp : Pushed ds E0 E) (q : Pulls (HI g ++ F0) H F) :
    WQ X (fun a w => ∃ g, I g ∧ AE X (EI g ++ dropE ds E0) a ∧ HW X.H0 X.w0 (HI g ++ F0) w) E H :=
  WQ_cut (EI := fun g => EI g ++ dropE ds E0) (HI := fun g => HI g ++ F0) g hI (fun s v hs => by
    rw [get_append] at hs
    cases h : gtE (EI g) s with
    | some u => rw [h] at hs; simp at hs; subst hs; exact l s u h
    | none =>
      rw [h, get_dropE] at hs
      by_cases hm : s ∈ ds
      · simp [hm] at hs
      · simp only [hm, if_false, Option.none_or] at hs
        rw [hp.get s hm, hs]) q
end
end
end Go.Proofs.YtelmlkdibcdebaaGreat
