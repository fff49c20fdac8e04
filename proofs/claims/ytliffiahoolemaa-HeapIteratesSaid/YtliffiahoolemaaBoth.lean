/-
  Chapter 02 (heap), part Both: contracts of functions that the laws call, each for the heap it names.
-/
import Derived.Test.YtliffiahoolemaaHeapS
set_option linter.unusedVariables false
set_option maxRecDepth 20000
namespace Go.Proofs.Ytliffiahoolemaa


structure Ac where
  what : Int
  hd : Int
  val : Int
  key : Nat
abbrev encA (a : Ac) : List Value := [.int .i64 a.what, .int .i64 a.hd, .int .i64 a.val, .int .u64 (a.key : Int)]
def OkA (a : Ac) : Prop := a.key < 18446744073709551616
theorem HIs.free {W : List WE} {g : HM} (hg : HIs W g) : ∃ f, IsFree W f ∧ f ≤ 1024 :=
  ⟨fr g.E, ⟨fun w hw e => hg.hp.fr_out (e ▸ hg.hp.inn hw), fun j hj => (hg.hp.mem j).1 (hg.hp.below hj)⟩, Nat.le_trans fr_le hg.hp.ecap⟩
theorem HIs.hd {W : List WE} {g : HM} (hg : HIs W g) : (hds W).Nodup := hg.hp.nodup
theorem HIs.len {W : List WE} {g : HM} (hg : HIs W g) : W.length ≤ 1024 := by rw [← hg.hp.len]; exact hg.hp.cap
def PushC (W : List WE) (n k : Nat) (v : Int) (a : Nat) (e : Int) (W' : List WE) : Prop :=
  (1024 ≤ W.length ∧ a = 0 ∧ e = 7 ∧ W' = W) ∨ (W.length < 1024 ∧ IsFree W a ∧ a ≤ 1024 ∧ e = 0 ∧ W' = W ++ [⟨a, v, k, n + 1⟩])
def ChgC (W : List WE) (i : Int) (k : Nat) (e : Int) (W' : List WE) : Prop := ((∀ w ∈ W, (w.h : Int) ≠ i) ∧ e = 9 ∧ W' = W) ∨ (∃ w ∈ W, (w.h : Int) = i ∧ e = 0 ∧ W' = wchange W w.h k)
def RemC (W : List WE) (i : Int) (e : Int) (W' : List WE) : Prop := ((∀ w ∈ W, (w.h : Int) ≠ i) ∧ e = 9 ∧ W' = W) ∨ (∃ w ∈ W, (w.h : Int) = i ∧ e = 0 ∧ W' = wremove W w.h)
def TopC (W : List WE) (a : Nat) (e : Int) : Prop := (W = [] ∧ a = 0 ∧ e = 9) ∨ (∃ w, IsMin W w ∧ a = w.h ∧ e = 0)
theorem hpush_any (g : HM) (W : List WE) (hg : HIs W g) (hb : g.n + 1 < 9000000000000000000) (k : Nat) (v : Int) : Spec Try.prog 10 [ptrH g.p, .int .u64 (k : Int), .int .i64 v] (gH g)
    (fun r H' => ∃ (g' : HM) (W' : List WE) (a : Nat) (e : Int), r = .tuple #[.int .i64 (a : Int), .int .i64 e] ∧ H' = gH g' ∧ g'.p = g.p ∧ g'.n ≤ g.n + 1 ∧ HIs W' g' ∧ PushC W g.n k v a e W') := by
  by_cases h : 1024 ≤ W.length
  · exact (hpush_no g W hg h k v).mono fun r H' ⟨e1, e2⟩ => ⟨g, W, 0, 7, e1, e2, rfl, by omega, hg, .inl ⟨h, rfl, rfl, rfl⟩⟩
  · obtain ⟨f, hf, hf2⟩ := hg.free
    exact (hpush_ok g W hg (by omega) hb f hf k v).mono fun r H' ⟨g', e1, e2, e3, e4, e5⟩ => ⟨g', _, f, 0, e1, e2, e3, by omega, e5, .inr ⟨by omega, hf, hf2, rfl, rfl⟩⟩
theorem hchg_any (g : HM) (W : List WE) (hg : HIs W g) (i : Int) (k : Nat) : Spec Try.prog 13 [ptrH g.p, .int .i64 i, .int .u64 (k : Int)] (gH g)
    (fun r H' => ∃ (g' : HM) (W' : List WE) (e : Int), r = .int .i64 e ∧ H' = gH g' ∧ g'.p = g.p ∧ g'.n ≤ g.n ∧ HIs W' g' ∧ ChgC W i k e W') := by
  by_cases h : ∃ w ∈ W, (w.h : Int) = i
  · obtain ⟨w, hw, rfl⟩ := h
    exact (hchg_w g W hg w hw k).mono fun r H' ⟨g', e1, e2, e3, e4, e5⟩ => ⟨g', _, 0, e1, e2, e3, by omega, e5, .inr ⟨w, hw, rfl, rfl, rfl⟩⟩
  · have hn : ∀ w ∈ W, (w.h : Int) ≠ i := fun w hw e => h ⟨w, hw, e⟩
    exact (hchg_no g W hg i k hn).mono fun r H' ⟨e1, e2⟩ => ⟨g, W, 9, e1, e2, rfl, by omega, hg, .inl ⟨hn, rfl, rfl⟩⟩
theorem hrem_any (g : HM) (W : List WE) (hg : HIs W g) (i : Int) : Spec Try.prog 12 [ptrH g.p, .int .i64 i] (gH g)
    (fun r H' => ∃ (g' : HM) (W' : List WE) (e : Int), r = .int .i64 e ∧ H' = gH g' ∧ g'.p = g.p ∧ g'.n ≤ g.n ∧ HIs W' g' ∧ RemC W i e W') := by
  by_cases h : ∃ w ∈ W, (w.h : Int) = i
  · obtain ⟨w, hw, rfl⟩ := h
    exact (hrem_w g W hg w hw).mono fun r H' ⟨g', e1, e2, e3, e4, e5⟩ => ⟨g', _, 0, e1, e2, e3, by omega, e5, .inr ⟨w, hw, rfl, rfl, rfl⟩⟩
  · have hn : ∀ w ∈ W, (w.h : Int) ≠ i := fun w hw e => h ⟨w, hw, e⟩
    exact (hrem_no g W hg i hn).mono fun r H' ⟨e1, e2⟩ => ⟨g, W, 9, e1, e2, rfl, by omega, hg, .inl ⟨hn, rfl, rfl⟩⟩
theorem HIs.min {W : List WE} {g : HM} (hg : HIs W g) (h : W ≠ []) : ∃ w, IsMin W w := by
  obtain ⟨w, hw, _⟩ := hg.top h
  exact ⟨w, hw⟩
theorem htop_any (g : HM) (W : List WE) (hg : HIs W g) : Spec Try.prog 14 [ptrH g.p] (gH g) (fun r H' => ∃ (a : Nat) (e : Int), r = .tuple #[.int .i64 (a : Int), .int .i64 e] ∧ TopC W a e ∧ H' = gH g) := by
  cases hW : W with
  | nil => subst hW; exact (htop_nil g hg).mono fun r H' ⟨e1, e2⟩ => ⟨0, 9, e1, .inl ⟨rfl, rfl, rfl⟩, e2⟩
  | cons x W2 =>
    rw [← hW]
    obtain ⟨w, hw⟩ := hg.min (by rw [hW]; exact fun h => by cases h)
    exact (htop_w g W hg w hw).mono fun r H' ⟨e1, e2⟩ => ⟨w.h, 0, e1, .inr ⟨w, hw, rfl, rfl⟩, e2⟩

end Go.Proofs.Ytliffiahoolemaa
