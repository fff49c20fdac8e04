/-
  The frame of a law: a law function that answers true and leaves every block of before as it was meets its row; arguments opened at flat types.
-/
import Derived.Test.YtiokpmgbabpikaaSLOps
import Derived.ProofKit
import Derived.OpenShut
import Derived.Carry
import Derived.ReadAgain
import Derived.Lib.SmallJoins
import Derived.Deep.Slices
namespace Go.Proofs.Ytiokpmgbabpikaa
open Go.ChangeShapes Go.WideShapes Go.ChangeAt Go.RowKit Go.Joins

theorem below_of {H0 H : Heap} {w0 w : World} (h0 : HOK H0 w0) (h : HW H0 w0 H w) (hk : ∀ x ∈ H0, x ∈ H) : Below w0.heap.size w0 w := by
  refine ⟨h.os, h.tape, h.output, h.size, fun k hlt => ?_⟩
  by_cases hm : k ∈ keys H0
  · obtain ⟨x, hx, hb⟩ := mem_keys.1 hm
    have e1 := h0.ok x hx
    have e2 := h.hok.ok x (hk x hx)
    unfold Ent.ok at e1 e2
    rw [hb] at e1 e2
    rw [e1, e2]
  · exact h.kept k hlt hm

section
variable {H : Type} {enc : TypeId × Value → H} {P : Program}
theorem again {ts : List TypeId} {vs : List Value} {ds : List (DataW H)} {p : List MemPlace} {W W' : World} (hl : laidOutB P = true) (hm : mapsRowed P = true)
    (hz : ∀ t e, t < P.types.size → P.underlying t = some (.slice e) → 0 < P.cellsOf e) (hts : ∀ t ∈ ts, t < P.types.size)
    (hA : DataW.TrodAll enc P W 0 (fun _ => true) true ts vs ds p) (hb : Below W.heap.size W W') (sp : Nat → Bool) (hsp : ∀ x ∈ p, sp x.block = true) :
    DataW.TrodAll enc P W' 0 sp true ts vs ds p := by
  have h1 := DataW.TrodAll.respare (kids_rows hl hm) hz hts hA hsp
  clear hA hsp
  have hlt := DataW.TrodAll.lt h1
  induction ts generalizing vs ds p with
  | nil =>
    obtain ⟨rfl, rfl, rfl⟩ := trodAll_nil h1
    exact trodAll_mk0
  | cons t ts ih =>
    obtain ⟨v, vs', d, ds', p1, q, rfl, rfl, rfl, ⟨n, hn⟩, r⟩ := trodAll_cons h1
    exact trodAll_cons_mk ⟨n, DataW.trod_carry n _ _ _ hn (fun x hx => hb.same (hlt x (List.mem_append_left _ hx)))⟩
      (ih (fun x hx => hts x (List.mem_cons_of_mem _ hx)) r (fun x hx => hlt x (List.mem_append_right _ hx)))

/-- The row's post, of a law that answers true and writes no old block. -/
theorem law_post {f : Func} {s : ChangeSpec} {apart fresh handsOn again' : Bool} {W W' : World} {args : Array Value} {ds gs : List (DataW H)} {before : List MemPlace}
    (hl : laidOutB P = true) (hm : mapsRowed P = true) (hz : ∀ t e, t < P.types.size → P.underlying t = some (.slice e) → 0 < P.cellsOf e) (hts : ∀ t ∈ f.params.toList, t < P.types.size)
    {tb : TypeId} (hres : f.resultTypes = #[tb]) (htb : P.underlying tb = some .bool) (hv : s.vars = [])
    (hW : DataW.Whole enc P f.params.toList s.vars apart W args.toList ds gs before)
    (hfn : s.fn H ds = { results := [.lit (.bool true)], args := ds })
    (hb : Below W.heap.size W W') : s.post enc P f apart fresh handsOn again' W args (.bool true) W' := by
  have hW0 := hW
  obtain ⟨p, q, hA, hV, rfl, hfz, hnd⟩ := hW
  rw [hv] at hV
  obtain ⟨rfl, rfl⟩ := trodVars_none hV
  have hfn' : s.fn H (ds ++ []) = { results := [.lit (.bool true)], args := ds } := by rw [List.append_nil]; exact hfn
  simp only [List.append_nil] at hW0 hfz hnd
  have hlt := hW0.lt
  have hsp : ∀ x ∈ p, (fun b => decide (b < W.heap.size)) x.block = true := fun x hx => by simpa using hlt x hx
  have ha : ∀ sp : Nat → Bool, (∀ x ∈ p, sp x.block = true) → DataW.TrodAll enc P W' 0 sp true f.params.toList args.toList ds p := fun sp h => again hl hm hz hts hA hb sp h
  have hr : ∀ (b : Nat) (sp : Nat → Bool) (hd : Bool), DataW.TrodAll enc P W' b sp hd f.resultTypes.toList ((Value.bool true).resultList f.resultTypes.size) [.lit (.bool true)] [] := fun b sp hd => by
    rw [hres]
    exact trodAll_mk1 (shut_bool htb _)
  refine ⟨ds, [], p, [], p, [], hW0, (by rw [hfn']; exact hr _ _ _), (by rw [hfn']; exact ha _ hsp), (by rw [hfn', hv]; rfl), World.keptBut_mono (fun x hx => ⟨hx, ?_⟩) (hb.frame (fun x => x ∈ p)), fun _ => ?_⟩
  · exact Or.inr (by simpa using hx)
  · refine ⟨ok_one hres rfl (okWide_bool_mk htb _), _, _, ([] ++ p) ++ [], ⟨[] ++ p, [], trodAll_append (ha _ (fun _ _ => rfl)) (hr 0 (fun _ => true) true), (show DataW.TrodVars enc P W' (fun _ => true) s.vars [] [] by rw [hv]; rfl), rfl, ?_, ?_⟩, ?_⟩
    · intro b off hp
      have hp' : MemPlace.cell b off ∈ p := by simpa using hp
      rw [hb.frozen (hlt _ hp')]
      exact hfz b off hp'
    · intro ha
      simpa using hnd ha
    · intro x hx _
      simpa using hx

/-- A contract whose heap comes back whole, as the row asks. -/
theorem Spec.row {f : FuncId} {args : List Value} {H0 : Heap} {W : World} (hs : Spec P f args H0 (fun r H' => r = .bool true ∧ ∀ x ∈ H0, x ∈ H')) (h0 : HOK H0 W) :
    Calls P f args.toArray W fun e W' => e = .returned (.bool true) ∧ Below W.heap.size W W' :=
  (callsIn_wide.1 (hs.calls W h0)).mono fun _ _ ⟨_, _, he, ⟨hv, hk⟩, hw⟩ => ⟨by rw [he, hv], below_of h0 hw hk⟩
end
end Go.Proofs.Ytiokpmgbabpikaa
