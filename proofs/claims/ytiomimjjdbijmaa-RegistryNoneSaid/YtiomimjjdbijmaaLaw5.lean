/-
  Chapter 17 (registry), part Law5: contracts of functions that the laws call, each for the heap it names.
-/
import Derived.Test.YtiomimjjdbijmaaRows
import Derived.Test.YtiomimjjdbijmaaZB
import Derived.Test.YtiomimjjdbijmaaSLMapJ
import Derived.Test.YtiomimjjdbijmaaSLScope
import Derived.Test.YtiomimjjdbijmaaTab
import Derived.Test.YtiomimjjdbijmaaLaw1
import Derived.Test.YtiomimjjdbijmaaReg7
set_option linter.unusedVariables false
set_option maxRecDepth 20000
set_option maxHeartbeats 2000000
namespace Go.Proofs.Ytiomimjjdbijmaa


theorem Spec.cut {P : Program} {f : FuncId} {args : List Value} {H : Heap} {post post2 : Value → Heap → Prop} (h : Spec P f args H post) (k : ∀ v H', post v H' → ∃ A B : Heap, H'.Perm (A ++ B) ∧ post2 v A) : Spec P f args H post2 :=
  ⟨h.enters, fun w hw => (h.calls w hw).mono fun e w' ⟨v, H', e1, p, r⟩ => by
    obtain ⟨A, B, hp, h2⟩ := k v H' p
    exact ⟨v, A, e1, h2, (r.perm hp).left⟩⟩
def relW (W : List Bd) (a : Ad) : List Bd := if (lookR W a).2 = 0 then delL W a else W
theorem relW_srt {W : List Bd} (h : SrtB W) (a : Ad) : SrtB (relW W a) := by
  unfold relW; split
  · exact delL_srt h a
  · exact h
theorem relW_len (W : List Bd) (a : Ad) : (relW W a).length ≤ W.length := by
  unfold relW; split
  · exact List.length_filter_le _ _
  · exact Nat.le_refl _
theorem look_zero {W : List Bd} (hn : (kys W).Nodup) {a : Ad} (h : (lookR W a).2 = 0) : validA a = true ∧ ∃ v, (a, v) ∈ W ∧ lookR W a = (v, 0) := by
  cases hv : validA a with
  | false => rw [look_bad hv] at h; cases h
  | true =>
    rcases look_or W a with ⟨v, hin⟩ | hout
    · exact ⟨rfl, v, hin, look_in hn hv hin⟩
    · rw [look_out hv hout] at h; cases h
theorem rrel_ok {W : List Bd} {r : Rg} (hr : RgIs W r) (s : ByteArray) (p : Int) : Spec Try.prog 18 [ptrR r.p, .agg #[.string s, .int .i64 p]] (rgH r) (fun x H' => ∃ r', x = .tuple #[.int .i64 (lookR W (s, p)).1, .int .i64 (lookR W (s, p)).2] ∧ H' = rgH r' ∧ r'.p = r.p ∧ RgIs (relW W (s, p)) r') := by
  by_cases h : (lookR W (s, p)).2 = 0
  · obtain ⟨hv, v, hin, e⟩ := look_zero hr.nd h
    have e2 : relW W (s, p) = delL W (s, p) := by unfold relW; rw [if_pos h]
    rw [e, e2]
    exact rrel_in hr s p v hv hin
  · have e2 : relW W (s, p) = W := by unfold relW; rw [if_neg h]
    rw [e2]
    exact (rrel_out hr s p h).mono fun x H' ⟨h1, h2⟩ => ⟨r, h1, h2, rfl, hr⟩
theorem qrel_ok {W : List Bd} {o : Option Nat} {c : Nat} {tl : List Value} (own : Own o W.length c 3 (W.flatMap encBd) tl) (hl : W.length ≤ 128) (hn : (kys W).Nodup) (s : ByteArray) (p : Int) : Spec Try.prog 35 [slV o W.length c, .agg #[.string s, .int .i64 p]] [⟨o, cl (W.flatMap encBd ++ tl) 56⟩]
    (fun x H' => ∃ o2 c2 tl2, x = .tuple #[slV o2 (relW W (s, p)).length c2, .int .i64 (lookR W (s, p)).1, .int .i64 (lookR W (s, p)).2] ∧ Own o2 (relW W (s, p)).length c2 3 ((relW W (s, p)).flatMap encBd) tl2 ∧ H' = [⟨o2, cl ((relW W (s, p)).flatMap encBd ++ tl2) 56⟩]) := by
  by_cases h : (lookR W (s, p)).2 = 0
  · obtain ⟨hv, v, hin, e⟩ := look_zero hn h
    have e2 : relW W (s, p) = delL W (s, p) := by unfold relW; rw [if_pos h]
    rw [e, e2]
    obtain ⟨i, hi⟩ := List.mem_iff_getElem?.1 hin
    obtain ⟨wo, rfl⟩ := own.some_of (by have := (List.getElem?_eq_some_iff.1 hi).1; omega)
    exact (qrel_in own hl hn s p hv i v hi).cut fun x H' ⟨o2, c2, tl2, h1, h2, h3⟩ => ⟨[⟨o2, cl ((delL W (s, p)).flatMap encBd ++ tl2) 56⟩], [⟨some wo, cl (W.flatMap encBd ++ tl) 56⟩], by rw [h3]; exact .refl _, o2, c2, tl2, h1, h2, rfl⟩
  · have e2 : relW W (s, p) = W := by unfold relW; rw [if_neg h]
    rw [e2]
    refine (qrel_out own hl s p h fun hv hin => ?_).mono fun x H' ⟨h1, h2⟩ => ⟨o, c, tl, h1, own, h2⟩
    obtain ⟨⟨k, v⟩, hx, rfl⟩ := List.mem_map.1 hin
    exact h (by rw [look_in hn hv hx])
theorem binds_run {W : List Bd} {r : Rg} (hr : RgIs W r) (s : ByteArray) (p v : Int) (ws : ByteArray) (wp e : Int) (W2 : List Bd) (h : bndR W (s, p) v = (ws, wp) ∧ bndE W (s, p) v = e) (h2 : bndW W (s, p) v = W2) : Spec Try.prog 12 [ptrR r.p, .agg #[.string s, .int .i64 p], .int .i64 v, .agg #[.string ws, .int .i64 wp], .int .i64 e] (rgH r)
    (fun x H' => x = .bool true ∧ ∃ r', H' = rgH r' ∧ r'.p = r.p ∧ RgIs W2 r') := by
  subst h2
  exact (binds_ok hr s p v ws wp e).mono fun x H' ⟨r', h1, h3, h4, h5⟩ => ⟨by rw [h1, decide_eq_true h], r', h3, h4, h5⟩
theorem finds_run {W : List Bd} {r : Rg} (hr : RgIs W r) (s : ByteArray) (p want e : Int) (h : lookR W (s, p) = (want, e)) : Spec Try.prog 19 [ptrR r.p, .agg #[.string s, .int .i64 p], .int .i64 want, .int .i64 e] (rgH r) (fun x H' => x = .bool true ∧ H' = rgH r) :=
  (finds_ok hr s p want e).mono fun x H' ⟨h1, h2⟩ => ⟨by rw [h1, h, decide_eq_true ⟨rfl, rfl⟩], h2⟩
theorem free_run {W : List Bd} {r : Rg} (hr : RgIs W r) (name : ByteArray) (h : validN name = true) (n : Int) (hn : ((49152 + frN W name : Nat) : Int) = n) : Spec Try.prog 20 [ptrR r.p, .string name] (rgH r) (fun x H' => x = .tuple #[.int .i64 n, .int .i64 0] ∧ H' = rgH r) :=
  (rfree_ok hr name).mono fun x H' ⟨h1, h2⟩ => ⟨by rw [h1, if_pos h, hn], h2⟩
theorem free_bad {W : List Bd} {r : Rg} (hr : RgIs W r) (name : ByteArray) (h : validN name = false) : Spec Try.prog 20 [ptrR r.p, .string name] (rgH r) (fun x H' => x = .tuple #[.int .i64 0, .int .i64 2] ∧ H' = rgH r) :=
  (rfree_ok hr name).mono fun x H' ⟨h1, h2⟩ => ⟨by rw [h1, if_neg (by rw [h]; decide)], h2⟩
theorem rel_run {W : List Bd} {r : Rg} (hr : RgIs W r) (s : ByteArray) (p v e : Int) (W2 : List Bd) (h : lookR W (s, p) = (v, e)) (h2 : relW W (s, p) = W2) : Spec Try.prog 18 [ptrR r.p, .agg #[.string s, .int .i64 p]] (rgH r) (fun x H' => ∃ r', x = .tuple #[.int .i64 v, .int .i64 e] ∧ H' = rgH r' ∧ r'.p = r.p ∧ RgIs W2 r') := by
  subst h2
  exact (rrel_ok hr s p).mono fun x H' ⟨r', h1, h3⟩ => ⟨r', by rw [h1, h], h3⟩
abbrev wb : ByteArray := ⟨#[119, 101, 98]⟩
abbrev db : ByteArray := ⟨#[100, 98]⟩
def kr1 : List Bd := [((wb, 80), 7)]
def kr3 : List Bd := [((wb, 80), 7), ((wb, 49152), 9)]
def kr4 : List Bd := [((wb, 80), 7), ((wb, 49152), 9), ((wb, 49153), 5)]
def kr5 : List Bd := [((db, 49152), 1), ((wb, 80), 7), ((wb, 49152), 9), ((wb, 49153), 5)]
def kr6 : List Bd := [((db, 49152), 1), ((wb, 80), 7), ((wb, 49153), 5)]
def kr7 : List Bd := [((db, 49152), 1), ((wb, 80), 7), ((wb, 49152), 3), ((wb, 49153), 5)]
theorem kn1 : (bndR [] (wb, 80) 7 = (wb, 80) ∧ bndE [] (wb, 80) 7 = 0) ∧ bndW [] (wb, 80) 7 = kr1 := by decide +kernel
theorem kn2 : (bndR kr1 (wb, 80) 8 = (⟨#[]⟩, 0) ∧ bndE kr1 (wb, 80) 8 = 11) ∧ bndW kr1 (wb, 80) 8 = kr1 := by decide +kernel
theorem kn3 : (bndR kr1 (wb, 0) 9 = (wb, 49152) ∧ bndE kr1 (wb, 0) 9 = 0) ∧ bndW kr1 (wb, 0) 9 = kr3 := by decide +kernel
theorem kn4 : (bndR kr3 (wb, 0) 5 = (wb, 49153) ∧ bndE kr3 (wb, 0) 5 = 0) ∧ bndW kr3 (wb, 0) 5 = kr4 := by decide +kernel
theorem kn5 : (bndR kr4 (db, 0) 1 = (db, 49152) ∧ bndE kr4 (db, 0) 1 = 0) ∧ bndW kr4 (db, 0) 1 = kr5 := by decide +kernel
theorem kn6 : lookR kr5 (wb, 49152) = (9, 0) ∧ relW kr5 (wb, 49152) = kr6 := by decide +kernel
theorem kn6f : validN wb = true ∧ ((49152 + frN kr6 wb : Nat) : Int) = 49152 := by decide +kernel
theorem kn7 : (bndR kr6 (wb, 0) 3 = (wb, 49152) ∧ bndE kr6 (wb, 0) 3 = 0) ∧ bndW kr6 (wb, 0) 3 = kr7 := by decide +kernel
theorem kn8 : lookR kr7 (wb, 0) = (0, 9) ∧ lookR kr7 (wb, 49153) = (5, 0) := by decide +kernel
theorem kn9 : lookR kr7 (⟨#[97]⟩, 80) = (0, 9) ∧ relW kr7 (⟨#[97]⟩, 80) = kr7 ∧ validN ⟨#[]⟩ = false := by decide +kernel
theorem kn10 : (bndR kr7 (⟨#[49]⟩, 80) 7 = (⟨#[]⟩, 0) ∧ bndE kr7 (⟨#[49]⟩, 80) 7 = 2) ∧ bndW kr7 (⟨#[49]⟩, 80) 7 = kr7 := by decide +kernel
theorem kn11 : (bndR kr7 (⟨#[97]⟩, 80) (-1) = (⟨#[]⟩, 0) ∧ bndE kr7 (⟨#[97]⟩, 80) (-1) = 2) ∧ bndW kr7 (⟨#[97]⟩, 80) (-1) = kr7 := by decide +kernel

end Go.Proofs.Ytiomimjjdbijmaa
