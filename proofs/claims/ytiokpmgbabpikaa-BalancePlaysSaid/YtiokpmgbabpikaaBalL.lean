/-
  Chapter 48 (balance), part BalL: contracts of functions that the laws call, each for the heap it names.
-/
import Derived.Test.YtiokpmgbabpikaaBrkF
import Derived.Test.YtiokpmgbabpikaaScoL
import Derived.Test.YtiokpmgbabpikaaZSLOpt
set_option linter.unusedVariables false
set_option maxRecDepth 20000
namespace Go.Proofs.Ytiokpmgbabpikaa


structure Bk where
  w : Int
  sh : Int
  act : Int
  up : Bool
  p : Nat
  b : Br
abbrev encB (x : Bk) : List Value := [.int .i64 x.w, .int .i64 x.sh, .int .i64 x.act, .bool x.up, ptrB x.p]
theorem encB5 (x : Bk) : (encB x).length = 5 := rfl
theorem encB_one (L : List Bk) : (L.flatMap encB).all Value.oneCell' = true := fm_all (fun _ => rfl) L
abbrev Cl := Int × (Int × Int)
abbrev ekI (k : Int) : Value := .int .i64 k
abbrev evC (x : Int × Int) : Value := .agg #[.int .i64 x.1, .int .i64 x.2]
theorem ekI_key (k : Int) : MapKept.IsKey (.int .i64) (ekI k) := rfl
theorem ekI_inj (a b : Int) (h : ekI a = ekI b) : a = b := by
  simpa only [ekI, Value.int.injEq, true_and] using h
structure Bm where
  p : Nat
  k : Nat
  n : Nat
  ob : Nat
  oc : Nat
  tl : List Value
  L : List Bk
  nx : Nat
  gv : Nat
  mb : Nat
  es : Array MapEntry
  mc : Nat
  last : Nat
def pickF (k : Nat) : Nat := if k = 1 then 34 else if k = 2 then 35 else if k = 3 then 36 else 37
abbrev fnV (f : Nat) : Value := .func (.func f) #[] #[]
abbrev balV (k ob n oc nx gv mb last : Nat) : List Value := [fnV (pickF k), slV (some ob) n oc, .int .i64 (nx : Int), .int .i64 (gv : Int), .map (some mb), .int .u64 (last : Int)]
abbrev bE1 (m : Bm) : Ent := ⟨some m.p, cl (balV m.k m.ob m.n m.oc m.nx m.gv m.mb m.last) 57⟩
abbrev bE2 (m : Bm) : Ent := ⟨some m.ob, cl (m.L.flatMap encB ++ m.tl) 73⟩
abbrev bE3 (m : Bm) : Ent := ⟨some m.mb, .map m.es m.mc⟩
abbrev bkE (x : Bk) : Ent := ⟨some x.p, cl (brV x.b) 101⟩
def bks (L : List Bk) : Heap := L.map bkE
abbrev balH (m : Bm) : Heap := bE1 m :: bE2 m :: bE3 m :: bks m.L
structure BalIs (N : Nat) (m : Bm) (C : List Cl) : Prop where
  hn : m.L.length = m.n
  own : Own (some m.ob) m.n m.oc 5 (m.L.flatMap encB) m.tl
  mp : Mp (.int .i64) ekI evC m.es C
  k : 1 ≤ m.k ∧ m.k ≤ 4
  n : 1 ≤ m.n ∧ m.n ≤ 64
  fit : ∀ x ∈ m.L, Fit x.b ∧ x.b.last ≤ m.last ∧ x.b.gen ≤ N
  w : ∀ x ∈ m.L, 1 ≤ x.w ∧ x.w ≤ 100
  sh : ∀ x ∈ m.L, -6400 * (N : Int) ≤ x.sh ∧ x.sh ≤ 6400 * (N : Int)
  act : ∀ x ∈ m.L, -(N : Int) ≤ x.act ∧ x.act ≤ N
  nx : m.nx < m.n
  gv : m.gv ≤ N
  cl : C.length ≤ N
  ky : ∀ c ∈ C, 1 ≤ c.1 ∧ c.1 ≤ m.gv
  bk : ∀ c ∈ C, 0 ≤ c.2.1 ∧ c.2.1 < m.n
  gn : ∀ c ∈ C, 0 ≤ c.2.2 ∧ ∀ x, m.L[c.2.1.toNat]? = some x → c.2.2 ≤ x.b.gen
  last : m.last ≤ 18446744073709551614
/-- A breaker of the chunk is called. -/
theorem split_at {α : Type} {L : List α} {i : Nat} {x : α} (hx : L[i]? = some x) : ∃ A B, L = A ++ x :: B ∧ A.length = i := by
  obtain ⟨h, rfl⟩ := List.getElem?_eq_some_iff.1 hx
  exact ⟨L.take i, L.drop (i + 1), by rw [← List.drop_eq_getElem_cons h, List.take_append_drop], by rw [List.length_take]; omega⟩
theorem set_at {α : Type} {A B : List α} {x y : α} : (A ++ x :: B).set A.length y = A ++ y :: B := by simp
theorem Spec.bk {f : FuncId} {args : List Value} {L : List Bk} {i : Nat} {x : Bk} (hx : L[i]? = some x) {Q : Value → Br → Prop}
    (h : Spec Try.prog f args [bkE x] (fun r H' => ∃ b', H' = [bkE { x with b := b' }] ∧ Q r b')) : Spec Try.prog f args (bks L) (fun r H' => ∃ b', H' = bks (L.set i { x with b := b' }) ∧ Q r b') := by
  obtain ⟨A, B, rfl, rfl⟩ := split_at hx
  refine Spec.re (((h.fr (bks A ++ bks B)).perm ?_).mono ?_)
  · unfold bks
    rw [List.map_append, List.map_cons]
    exact List.perm_middle
  · rintro r H' ⟨H1, ⟨b', rfl, hq⟩, rfl⟩
    refine ⟨bks ((A ++ x :: B).set A.length { x with b := b' }), ?_, b', rfl, hq⟩
    rw [set_at]
    unfold bks
    rw [List.map_append, List.map_cons]
    show (bkE { x with b := b' } :: (List.map bkE A ++ List.map bkE B)).Perm _
    exact List.perm_middle.symm
theorem bks_set {L : List Bk} {i : Nat} {x : Bk} (hx : L[i]? = some x) {y : Bk} (h1 : y.p = x.p) (h2 : y.b = x.b) : bks (L.set i y) = bks L := by
  obtain ⟨A, B, rfl, rfl⟩ := split_at hx
  rw [set_at]
  unfold bks
  rw [List.map_append, List.map_append, List.map_cons, List.map_cons]
  show _ ++ bkE y :: _ = _
  unfold bkE
  rw [h1, h2]
theorem set_same {α : Type} {L : List α} {i : Nat} {x : α} (hx : L[i]? = some x) : L.set i x = L := by
  obtain ⟨A, B, rfl, rfl⟩ := split_at hx
  exact set_at
/-! ### Candidates -/
def okAt (L : List Bk) (now : Nat) (i : Nat) : Bool := match L[i]? with
  | some x => x.up && decide (rdB x.b now)
  | none => false
def candK (L : List Bk) (now : Nat) (k : Nat) : List Int := ((List.range k).filter (okAt L now)).map (fun i : Nat => (i : Int))
abbrev cand (L : List Bk) (now : Nat) : List Int := candK L now L.length
theorem candK_next {L : List Bk} {now k : Nat} : candK L now (k + 1) = candK L now k ++ (if okAt L now k = true then [(k : Int)] else []) := by
  unfold candK
  rw [List.range_succ, List.filter_append, List.map_append]
  by_cases h : okAt L now k = true <;> simp [h]
theorem candK_len (L : List Bk) (now k : Nat) : (candK L now k).length ≤ k := by
  unfold candK
  rw [List.length_map]
  exact Nat.le_trans (List.length_filter_le _ _) (by simp)
theorem cand_mem {L : List Bk} {now : Nat} {a : Int} (h : a ∈ cand L now) : ∃ (i : Nat) (x : Bk), a = (i : Int) ∧ L[i]? = some x ∧ x.up = true ∧ rdB x.b now := by
  obtain ⟨i, hi, rfl⟩ := List.mem_map.1 h
  obtain ⟨h1, h2⟩ := List.mem_filter.1 hi
  unfold okAt at h2
  split at h2
  · rename_i x hx
    rw [Bool.and_eq_true, decide_eq_true_eq] at h2
    exact ⟨i, x, rfl, hx, h2.1, h2.2⟩
  · cases h2
/-! ### The four ways to pick -/
def zeroK : Bk := ⟨0, 0, 0, false, 0, zeroB⟩
def gB (L : List Bk) (i : Int) : Bk := (L[i.toNat]?).getD zeroK
theorem gB_at {L : List Bk} {i : Nat} {x : Bk} (h : L[i]? = some x) : gB L (i : Int) = x := by
  unfold gB; rw [Int.toNat_natCast, h]; rfl
def turnI (nx : Nat) (l : List Int) : Int := (l[(max 0 (idxF (fun i => decide ((nx : Int) ≤ i)) l)).toNat]?).getD 0
def turnN (n : Nat) (i : Int) : Nat := if i + 1 = n then 0 else (i + 1).toNat
def leastQ (L : List Bk) (a b : Int) : Int := cmpI ((gB L a).act * (gB L b).w) ((gB L b).act * (gB L a).w)
def leastI (L : List Bk) (l : List Int) : Int := sel (fun a b => decide (leastQ L a b < 0)) l
def bump1 (L : List Bk) (i : Int) : List Bk := L.set i.toNat { gB L i with sh := (gB L i).sh + (gB L i).w }
def bump (L : List Bk) (l : List Int) : List Bk := l.foldl bump1 L
def sumW (L : List Bk) (l : List Int) : Int := l.foldl (fun s i => s + (gB L i).w) 0
def weiQ (L : List Bk) (a b : Int) : Int := orL [cmpI (gB L a).sh (gB L b).sh, cmpI b a]
def weiI (L : List Bk) (l : List Int) : Int := sel (fun a b => decide (0 < weiQ L a b)) l
def drop1 (L : List Bk) (i : Int) (s : Int) : List Bk := L.set i.toNat { gB L i with sh := (gB L i).sh - s }
def hashQ (key : ByteArray) (a b : Int) : Int := orL [cmpI (sco key a : Nat) (sco key b : Nat), cmpI b a]
def hashI (key : ByteArray) (l : List Int) : Int := sel (fun a b => decide (0 < hashQ key a b)) l
/-- Which one is picked. -/
def pickI (k : Nat) (L : List Bk) (nx : Nat) (key : ByteArray) (l : List Int) : Int :=
  if k = 1 then turnI nx l else if k = 2 then leastI L l else if k = 3 then weiI (bump L l) l else hashI key l
def pickL (k : Nat) (L : List Bk) (l : List Int) : List Bk := if k = 3 then drop1 (bump L l) (weiI (bump L l) l) (sumW L l) else L
def pickN (k : Nat) (n nx : Nat) (l : List Int) : Nat := if k = 1 then turnN n (turnI nx l) else nx
theorem bump1_at {L : List Bk} {i : Nat} {x : Bk} (h : L[i]? = some x) : bump1 L (i : Int) = L.set i { x with sh := x.sh + x.w } := by
  unfold bump1; rw [gB_at h, Int.toNat_natCast]
theorem bump1_len (L : List Bk) (a : Int) : (bump1 L a).length = L.length := List.length_set
theorem bump_len (l : List Int) : ∀ L : List Bk, (bump L l).length = L.length := by
  induction l with
  | nil => intro L; rfl
  | cons a r ih => intro L; exact (ih (bump1 L a)).trans (bump1_len L a)
theorem bump_next {L : List Bk} {l : List Int} {k : Nat} {a : Int} (h : l[k]? = some a) : bump L (l.take (k + 1)) = bump1 (bump L (l.take k)) a := by
  unfold bump
  rw [take_next h, List.foldl_append, List.foldl_cons, List.foldl_nil]
theorem sumW_next {L : List Bk} {l : List Int} {k : Nat} {a : Int} (h : l[k]? = some a) : sumW L (l.take (k + 1)) = sumW L (l.take k) + (gB L a).w := by
  unfold sumW
  rw [take_next h, List.foldl_append, List.foldl_cons, List.foldl_nil]
theorem bump1_get {L : List Bk} {a : Int} {i : Nat} {x : Bk} (h : (bump1 L a)[i]? = some x) : ∃ y, L[i]? = some y ∧ x = { y with sh := x.sh } ∧ (x.sh = y.sh ∨ x.sh = y.sh + y.w) := by
  unfold bump1 at h
  rw [List.getElem?_set] at h
  split at h
  · rename_i e
    split at h
    · rename_i hl
      have hy : L[i]? = some L[i] := List.getElem?_eq_getElem (by omega)
      have hg : gB L a = L[i] := by unfold gB; rw [e, hy]; rfl
      rw [hg] at h
      refine ⟨L[i], hy, ?_, .inr ?_⟩ <;> (cases h; rfl)
    · cases h
  · exact ⟨x, h, rfl, .inl rfl⟩
theorem bump_get (l : List Int) : ∀ {L : List Bk} {i : Nat} {x : Bk}, (∀ y ∈ L, 1 ≤ y.w ∧ y.w ≤ 100) → (bump L l)[i]? = some x → ∃ y, L[i]? = some y ∧ x = { y with sh := x.sh } ∧ y.sh ≤ x.sh ∧ x.sh ≤ y.sh + 100 * (l.length : Int) := by
  induction l with
  | nil => intro L i x _ h; exact ⟨x, h, rfl, Int.le_refl _, by simp⟩
  | cons a r ih =>
    intro L i x hw h
    have hw1 : ∀ y ∈ bump1 L a, 1 ≤ y.w ∧ y.w ≤ 100 := fun y hy => by
      obtain ⟨j, hj⟩ := List.mem_iff_getElem?.1 hy
      obtain ⟨z, hz, e, _⟩ := bump1_get hj
      rw [e]; exact hw z (List.mem_of_getElem? hz)
    obtain ⟨y1, h1, e1, b1, b2⟩ := ih hw1 h
    obtain ⟨y, hy, e2, b3⟩ := bump1_get h1
    have hwy := hw y (List.mem_of_getElem? hy)
    refine ⟨y, hy, by rw [e1, e2], ?_, ?_⟩
    · rcases b3 with b3 | b3 <;> omega
    · rw [List.length_cons]; rcases b3 with b3 | b3 <;> omega
theorem sumW_in (L : List Bk) (hw : ∀ y ∈ L, 1 ≤ y.w ∧ y.w ≤ 100) : ∀ (l : List Int), (∀ a ∈ l, ∃ (i : Nat) (x : Bk), a = (i : Int) ∧ L[i]? = some x) → 0 ≤ sumW L l ∧ sumW L l ≤ 100 * (l.length : Int) := by
  have key : ∀ (l : List Int) (s : Int), (∀ a ∈ l, ∃ (i : Nat) (x : Bk), a = (i : Int) ∧ L[i]? = some x) → s ≤ l.foldl (fun s i => s + (gB L i).w) s ∧ l.foldl (fun s i => s + (gB L i).w) s ≤ s + 100 * (l.length : Int) := by
    intro l
    induction l with
    | nil => intro s _; simp
    | cons a r ih =>
      intro s h
      obtain ⟨i, x, rfl, hx⟩ := h a (by simp)
      have hwx := hw x (List.mem_of_getElem? hx)
      have := ih (s + (gB L (i : Int)).w) (fun b hb => h b (by simp [hb]))
      rw [gB_at hx] at this
      rw [List.foldl_cons, List.length_cons, gB_at hx]
      omega
  intro l h
  have := key l 0 h
  unfold sumW
  omega
theorem idxF_in (p : Int → Bool) : ∀ l : List Int, -1 ≤ idxF p l ∧ idxF p l < l.length
  | [] => by simp [idxF]
  | a :: r => by
    have := idxF_in p r
    unfold idxF
    rw [List.length_cons]
    split
    · omega
    · split <;> omega
theorem own_lit (b : Nat) (l : List Int) (h : l.length ≤ 1000) : Own (some b) l.length l.length 1 (ivs l) [] := ⟨by rw [ivs_len]; omega, by rw [ivs_len]; simp, Nat.le_refl _, by omega, fun e => by cases e⟩
theorem own_L {ob n c : Nat} {L L2 : List Bk} {tl : List Value} (h : Own (some ob) n c 5 (L.flatMap encB) tl) (hl : L2.length = L.length) : Own (some ob) n c 5 (L2.flatMap encB) tl := by
  have h1 := h.len
  have h2 := h.cap
  rw [fm_length encB5] at h1 h2
  exact ⟨by rw [fm_length encB5, hl]; exact h1, by rw [fm_length encB5, hl]; exact h2, h.le, h.big, fun e => by cases e⟩
theorem mul_in {a w : Int} (h1 : -10000 ≤ a) (h2 : a ≤ 10000) (h3 : 1 ≤ w) (h4 : w ≤ 100) : -1000000 ≤ a * w ∧ a * w ≤ 1000000 := by
  have e1 : a * w ≤ 10000 * w := Int.mul_le_mul_of_nonneg_right h2 (by omega)
  have e2 : -10000 * w ≤ a * w := Int.mul_le_mul_of_nonneg_right h1 (by omega)
  omega

end Go.Proofs.Ytiokpmgbabpikaa
