/-
  A cut between two pieces of code that keeps what the first piece does not write, and the blocks that it does not turn.
-/
import Derived.Test.YteofigbgdbpjgaaZA
namespace Go.Proofs.Yteofigbgdbpjgaa
section
variable {X : Ctx} {p : Post} {E : Env} {H : Heap}
theorem WC_cutF {G : Type} {x y : Code} (ds : List Nat) (I : G → Prop) (EI : G → Env) (HI : G → Heap) (HK : Heap) {F : Heap} (_ : Pulls HK H F)
    (h : WC X x (Post.to (fun a w => ∃ g, I g ∧ AE X (EI g ++ dropE ds E) a ∧ HW X.H0 X.w0 (HI g ++ F) w) p) E H)
    (k : ∀ g, I g → WC X y p (EI g ++ dropE ds E) (HI g ++ F)) : WC X (.seq x y) p E H :=
  WC_cut I (fun g => EI g ++ dropE ds E) (fun g => HI g ++ F) h k
theorem WQ_cutF {G : Type} {ds : List Nat} {E0 : Env} {I : G → Prop} {EI : G → Env} {HI : G → Heap} {F0 F : Heap} (g : G) (hI : I g) (l : Lq (EI g) E) (hp : Pushed ds E0 E) (q : Pulls (HI g ++ F0) H F) :
    WQ X (fun a w => ∃ g, I g ∧ AE X (EI g ++ dropE ds E0) a ∧ HW X.H0 X.w0 (HI g ++ F0) w) E H :=
  WQ_cut (EI := fun g => EI g ++ dropE ds E0) (HI := fun g => HI g ++ F0) g hI (fun s v hs => by
    rw [get_append] at hs
    cases h : gtE (EI g) s with
    | some u => rw [h] at hs; simp at hs; subst hs; exact l s u h
    | none =>
      rw [h, get_dropE] at hs
      by_cases hm : s ∈ ds
      · simp [hm] at hs
      · simp only [hm, if_false, Option.none_or] at hs
        rw [hp.get s hm, hs]) q
end
end Go.Proofs.Yteofigbgdbpjgaa
