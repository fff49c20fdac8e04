/-
  Chapter 02 (heap), part RefC: contracts of functions that the laws call, each for the heap it names.
-/
import Derived.Test.YtliffiahoolemaaRef
import Derived.Test.YtliffiahoolemaaBoth
set_option linter.unusedVariables false
set_option maxRecDepth 20000
namespace Go.Proofs.Ytliffiahoolemaa


theorem rpush_c (W : List WE) (o : Option Nat) (c : Nat) (t : List Value) (ho : Own o W.length c 3 (W.flatMap encW) t) (hl : W.length ≤ 100000) (hd : (hds W).Nodup) (n k : Nat) (v : Int) (a : Nat) (e : Int) (W' : List WE) (hc : PushC W n k v a e W') : Spec Try.prog 33 [.agg #[slV o W.length c], .int .u64 (k : Int), .int .i64 v] [⟨o, cl (W.flatMap encW ++ t) 80⟩] (fun r H' => ∃ V', r = .tuple #[V', .int .i64 (a : Int), .int .i64 e] ∧ RIs W' V' H') := by
  rcases hc with ⟨h1, rfl, rfl, rfl⟩ | ⟨h1, h2, h3, rfl, rfl⟩
  · exact rpush_full W' o c t ho hl h1 k v
  · exact rpush_ok W o c t ho hl hd h1 a h2 h3 k v (n + 1)
theorem rchg_c (W : List WE) (o : Option Nat) (c : Nat) (t : List Value) (ho : Own o W.length c 3 (W.flatMap encW) t) (hl : W.length ≤ 100000) (hd : (hds W).Nodup) (i : Int) (k : Nat) (e : Int) (W' : List WE) (hc : ChgC W i k e W') : Spec Try.prog 34 [.agg #[slV o W.length c], .int .i64 i, .int .u64 (k : Int)] [⟨o, cl (W.flatMap encW ++ t) 80⟩] (fun r H' => ∃ V', r = .tuple #[V', .int .i64 e] ∧ RIs W' V' H') := by
  rcases hc with ⟨h1, rfl, rfl⟩ | ⟨w, h1, rfl, rfl, rfl⟩
  · exact rchg_no W' o c t ho hl i h1 k
  · obtain ⟨j, hj⟩ := List.getElem?_of_mem h1
    exact rchg_ok W o c t ho hl hd j w hj k
theorem rrem_c (W : List WE) (o : Option Nat) (c : Nat) (t : List Value) (ho : Own o W.length c 3 (W.flatMap encW) t) (hl : W.length ≤ 100000) (hd : (hds W).Nodup) (i : Int) (e : Int) (W' : List WE) (hc : RemC W i e W') : Spec Try.prog 35 [.agg #[slV o W.length c], .int .i64 i] [⟨o, cl (W.flatMap encW ++ t) 80⟩] (fun r H' => ∃ V', r = .tuple #[V', .int .i64 e] ∧ RIs W' V' H') := by
  rcases hc with ⟨h1, rfl, rfl⟩ | ⟨w, h1, rfl, rfl, rfl⟩
  · exact rrem_no W' o c t ho hl i h1
  · obtain ⟨j, hj⟩ := List.getElem?_of_mem h1
    exact rrem_ok W o c t ho hl hd j w hj
theorem rtop_c (W : List WE) (o : Option Nat) (c : Nat) (t : List Value) (ho : Own o W.length c 3 (W.flatMap encW) t) (hl : W.length ≤ 100000) (hinc : W.Pairwise (fun a b => a.s < b.s)) (a : Nat) (e : Int) (hc : TopC W a e) : Spec Try.prog 36 [.agg #[slV o W.length c]] [⟨o, cl (W.flatMap encW ++ t) 80⟩] (fun r H' => r = .tuple #[.int .i64 (a : Int), .int .i64 e] ∧ H' = [⟨o, cl (W.flatMap encW ++ t) 80⟩]) := by
  rcases hc with ⟨rfl, rfl, rfl⟩ | ⟨w, h1, rfl, rfl⟩
  · exact rtop_nil o c t
  · exact rtop_w W o c t ho hl hinc w h1

end Go.Proofs.Ytliffiahoolemaa
