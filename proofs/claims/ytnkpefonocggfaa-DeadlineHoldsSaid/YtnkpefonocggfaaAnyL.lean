/-
  Chapter 10 (deadline), part AnyL: contracts of functions that the laws call, each for the heap it names.
-/
import Derived.Test.YtnkpefonocggfaaRefC
set_option linter.unusedVariables false
set_option maxRecDepth 20000
set_option maxHeartbeats 1000000
namespace Go.Proofs.Ytnkpefonocggfaa


theorem Spec.less {P : Program} {f : FuncId} {args : List Value} {H : Heap} {post : Value → Heap → Prop} (h : Spec P f args H (fun r H' => ∃ A B, H' = A ++ B ∧ post r A)) : Spec P f args H post :=
  ⟨h.enters, fun w hw => (h.calls w hw).mono fun e w' ⟨v, H', e1, ⟨A, B, e2, p⟩, r⟩ => ⟨v, A, e1, p, by subst e2; exact r.left⟩⟩
theorem spotE_nat {fd dir : Int} (h : spotE fd dir = 0) : ∃ a b : Nat, a < 128 ∧ b < 2 ∧ fd = (a : Int) ∧ dir = (b : Int) := by
  unfold spotE at h
  split at h
  · exact ⟨fd.toNat, dir.toNat, by omega, by omega, by omega, by omega⟩
  · omega
theorem spotE_two {fd dir : Int} (h : ¬ spotE fd dir = 0) : spotE fd dir = 2 := by
  unfold spotE at *; split <;> simp_all
theorem fileE_nat {fd : Int} (h : fileE fd = 0) : ∃ a : Nat, a < 128 ∧ fd = (a : Int) := by
  unfold fileE at h
  split at h
  · exact ⟨fd.toNat, by omega, by omega⟩
  · omega
theorem fileE_two {fd : Int} (h : ¬ fileE fd = 0) : fileE fd = 2 := by
  unfold fileE at *; split <;> simp_all
def pl (fd dir : Int) : Nat := 2 * fd.toNat + dir.toNat
theorem pl_nat (a b : Nat) : pl (a : Int) (b : Int) = 2 * a + b := by unfold pl; omega
def setF (f : Nat → Nat) (fd dir : Int) (k : Nat) : Nat → Nat := if spotE fd dir = 0 then updF f (pl fd dir) k else f
def clearF (f : Nat → Nat) (fd : Int) : Nat → Nat := if fileE fd = 0 then clrF f fd.toNat 2 else f
def getV (f : Nat → Nat) (fd dir : Int) : Nat := if spotE fd dir = 0 then f (pl fd dir) else 0
def advE (now to : Nat) : Int := if to = 18446744073709551615 then 2 else if to < now then 3 else 0
def advN (now to : Nat) : Nat := if advE now to = 0 then to else now
def LapR (f : Nat → Nat) (now to : Nat) (l : List Lp) : Prop := if advE now to = 0 then IsLap f now to l else l = []
theorem LapR.one {f : Nat → Nat} {now to : Nat} {A B : List Lp} (ha : LapR f now to A) (hb : LapR f now to B) : A = B := by
  unfold LapR at ha hb
  split at ha
  · rename_i e; rw [if_pos e] at hb; exact ha.one hb
  · rename_i e; rw [if_neg e] at hb; rw [ha, hb]
section
variable {f : Nat → Nat} {now : Nat}
theorem DRel.fle {L : List Tm} {S : List Sl} (h : DRel f now L S) {i : Nat} (hi : i < 256) : f i ≤ 18446744073709551615 :=
  (h.at_ i _ (List.getElem?_eq_getElem (show i < S.length by rw [h.len]; exact hi))).2
theorem dset_any (d : DM) (hd : DIs f now d) (fd dir : Int) (k : Nat) (hk : k ≤ 18446744073709551615) (hb : d.m.g.n + 1 < 9000000000000000000) : Spec Try.prog 17 [ptrH d.p, .agg #[.int .i64 (fd), .int .i64 (dir)], .int .u64 (k : Int)] (dlH now d)
    (fun r H' => ∃ d' : DM, r = .tuple #[.bool (decide (spotE fd dir = 0 ∧ k ≤ now)), .int .i64 (spotE fd dir)] ∧ H' = dlH now d' ∧ d'.p = d.p ∧ d'.m.g.n ≤ d.m.g.n + 1 ∧ DIs (setF f fd dir k) now d') := by
  unfold setF
  by_cases h : spotE fd dir = 0
  · obtain ⟨a, b, h1, h2, rfl, rfl⟩ := spotE_nat h
    rw [if_pos h, pl_nat, h]
    refine (dset_ok d hd a b h1 h2 k hk hb).mono fun r H' ⟨d', e1, e2⟩ => ⟨d', ?_, e2⟩
    rw [e1]; simp
  · have h2 := spotE_two h
    rw [if_neg h, h2]
    refine (dset_bad d hd fd dir h2 k).mono fun r H' ⟨e1, e2⟩ => ⟨d, ?_, e2, rfl, by omega, hd⟩
    rw [e1]; simp
theorem dget_any (d : DM) (hd : DIs f now d) (fd dir : Int) : Spec Try.prog 12 [ptrH d.p, .agg #[.int .i64 (fd), .int .i64 (dir)]] (dlH now d) (fun r H' => r = .tuple #[.int .u64 (getV f fd dir : Int), .int .i64 (spotE fd dir)] ∧ H' = dlH now d) := by
  unfold getV
  by_cases h : spotE fd dir = 0
  · obtain ⟨a, b, h1, h2, rfl, rfl⟩ := spotE_nat h
    rw [if_pos h, pl_nat, h]
    exact dget_ok d hd a b h1 h2
  · have h2 := spotE_two h
    rw [if_neg h, h2]
    exact dget_bad d hd fd dir h2
theorem dpass_any (d : DM) (hd : DIs f now d) (fd dir : Int) : Spec Try.prog 24 [ptrH d.p, .agg #[.int .i64 (fd), .int .i64 (dir)]] (dlH now d) (fun r H' => r = .tuple #[.bool (decide (spotE fd dir = 0 ∧ getV f fd dir ≤ now)), .int .i64 (spotE fd dir)] ∧ H' = dlH now d) := by
  unfold getV
  by_cases h : spotE fd dir = 0
  · obtain ⟨a, b, h1, h2, rfl, rfl⟩ := spotE_nat h
    rw [if_pos h, pl_nat, h]
    refine (dpass_ok d hd a b h1 h2).mono fun r H' ⟨e1, e2⟩ => ⟨?_, e2⟩
    rw [e1]; simp
  · have h2 := spotE_two h
    rw [if_neg h, h2]
    refine (dpass_bad d hd fd dir h2).mono fun r H' ⟨e1, e2⟩ => ⟨?_, e2⟩
    rw [e1]; simp
theorem dclear_any (d : DM) (hd : DIs f now d) (fd : Int) (hb : d.m.g.n + 2 < 9000000000000000000) : Spec Try.prog 25 [ptrH d.p, .int .i64 fd] (dlH now d)
    (fun r H' => ∃ d' : DM, r = .int .i64 (fileE fd) ∧ H' = dlH now d' ∧ d'.p = d.p ∧ d'.m.g.n ≤ d.m.g.n + 2 ∧ DIs (clearF f fd) now d') := by
  unfold clearF
  by_cases h : fileE fd = 0
  · obtain ⟨a, h1, rfl⟩ := fileE_nat h
    rw [if_pos h, h, Int.toNat_natCast]
    exact dclear_ok d hd a h1 hb
  · have h2 := fileE_two h
    rw [if_neg h, h2]
    exact (dclear_bad d hd fd h2).mono fun r H' ⟨e1, e2⟩ => ⟨d, e1, e2, rfl, by omega, hd⟩
theorem dadv_any (d : DM) (hd : DIs f now d) (to : Nat) (hto : to ≤ 18446744073709551615) : Spec Try.prog 19 [ptrH d.p, .int .u64 (to : Int)] (dlH now d)
    (fun r H' => ∃ (l : List Lp) (ob : Option Nat) (c : Nat) (tl : List Value) (d' : DM), r = .tuple #[slV ob l.length c, .int .i64 (advE now to)] ∧ Own ob l.length c 3 (l.flatMap encLp) tl ∧ LapR f now to l ∧ l.length ≤ 1024 ∧ H' = ⟨ob, cl (l.flatMap encLp ++ tl) 40⟩ :: dlH (advN now to) d' ∧ d'.p = d.p ∧ d'.m.g.n = d.m.g.n ∧ DIs f (advN now to) d') := by
  by_cases h1 : to = 18446744073709551615
  · subst h1
    have e : advE now 18446744073709551615 = 2 := by unfold advE; rw [if_pos rfl]
    unfold LapR advN
    rw [e, if_neg (by decide)]
    exact Spec.none 40 ((dadv_never d hd).mono fun r H' ⟨e1, e2⟩ => ⟨⟨none, cl [] 40⟩, ⟨rfl, rfl⟩, [], none, 0, [], d, e1, Own.empty 3, by rw [if_neg (by decide)], by simp, by rw [e2]; rfl, rfl, rfl, hd⟩)
  · by_cases h2 : to < now
    · have e : advE now to = 3 := by unfold advE; rw [if_neg h1, if_pos h2]
      unfold LapR advN
      rw [e, if_neg (by decide)]
      exact Spec.none 40 ((dadv_past d hd to h2).mono fun r H' ⟨e1, e2⟩ => ⟨⟨none, cl [] 40⟩, ⟨rfl, rfl⟩, [], none, 0, [], d, e1, Own.empty 3, by rw [if_neg (by decide)], by simp, by rw [e2]; rfl, rfl, rfl, hd⟩)
    · have e : advE now to = 0 := by unfold advE; rw [if_neg h1, if_neg h2]
      unfold LapR advN
      rw [e, if_pos rfl]
      exact (dadv_ok d hd to (by omega) (by omega)).mono fun r H' ⟨l, ob, c, tl, d', e1, e2, e3, e4, e5⟩ => ⟨l, ob, c, tl, d', e1, e2, by rw [if_pos rfl]; exact e3, e4, e5⟩
theorem rset_any (D : List Lp) (ob : Option Nat) (c : Nat) (tl : List Value) (hr : RD f D) (own : Own ob D.length c 3 (D.flatMap encLp) tl) (hnow : now < 18446744073709551615) (fd dir : Int) (k : Nat) (hk : k ≤ 18446744073709551615) : Spec Try.prog 18 [.agg #[.int .u64 (now : Int), slV ob D.length c], .agg #[.int .i64 (fd), .int .i64 (dir)], .int .u64 (k : Int)] [⟨ob, cl (D.flatMap encLp ++ tl) 40⟩]
    (fun r H' => ∃ (D' : List Lp) (ob' : Option Nat) (c' : Nat) (tl' : List Value), r = .tuple #[.agg #[.int .u64 (now : Int), slV ob' D'.length c'], .bool (decide (spotE fd dir = 0 ∧ k ≤ now)), .int .i64 (spotE fd dir)] ∧ Own ob' D'.length c' 3 (D'.flatMap encLp) tl' ∧ RD (setF f fd dir k) D' ∧ H' = [⟨ob', cl (D'.flatMap encLp ++ tl') 40⟩]) := by
  unfold setF
  by_cases h : spotE fd dir = 0
  · obtain ⟨a, b, h1, h2, rfl, rfl⟩ := spotE_nat h
    rw [if_pos h, pl_nat, h]
    refine Spec.less ((rset_ok D ob c tl hr own hnow a b h1 h2 k hk).mono fun r H' ⟨D', ob', c', tl', e1, e2, e3, e4⟩ => ⟨[⟨ob', cl (D'.flatMap encLp ++ tl') 40⟩], [⟨ob, cl (D.flatMap encLp ++ tl) 40⟩], e4, D', ob', c', tl', ?_, e2, e3, rfl⟩)
    rw [e1]
    have : decide (k ≠ 18446744073709551615 ∧ k ≤ now) = decide ((0 : Int) = 0 ∧ k ≤ now) := decide_eq_decide.2 (by omega)
    rw [this]
  · have h2 := spotE_two h
    rw [if_neg h, h2]
    refine (rset_bad D ob c tl hr own fd dir h2 k).mono fun r H' ⟨e1, e2⟩ => ⟨D, ob, c, tl, ?_, own, hr, e2⟩
    rw [e1]; simp
theorem rclear_any (D : List Lp) (ob : Option Nat) (c : Nat) (tl : List Value) (hr : RD f D) (own : Own ob D.length c 3 (D.flatMap encLp) tl) (hnow : now < 18446744073709551615) (fd : Int) : Spec Try.prog 51 [.agg #[.int .u64 (now : Int), slV ob D.length c], .int .i64 fd] [⟨ob, cl (D.flatMap encLp ++ tl) 40⟩]
    (fun r H' => ∃ (D' : List Lp) (ob' : Option Nat) (c' : Nat) (tl' : List Value), r = .tuple #[.agg #[.int .u64 (now : Int), slV ob' D'.length c'], .int .i64 (fileE fd)] ∧ Own ob' D'.length c' 3 (D'.flatMap encLp) tl' ∧ RD (clearF f fd) D' ∧ H' = [⟨ob', cl (D'.flatMap encLp ++ tl') 40⟩]) := by
  unfold clearF
  by_cases h : fileE fd = 0
  · obtain ⟨a, h1, rfl⟩ := fileE_nat h
    rw [if_pos h, h, Int.toNat_natCast]
    exact Spec.less ((rclear_ok D ob c tl hr own hnow a h1).mono fun r H' ⟨D', ob', c', tl', e1, e2, e3, e4⟩ => ⟨[⟨ob', cl (D'.flatMap encLp ++ tl') 40⟩], [⟨ob, cl (D.flatMap encLp ++ tl) 40⟩], e4, D', ob', c', tl', e1, e2, e3, rfl⟩)
  · have h2 := fileE_two h
    rw [if_neg h, h2]
    exact (rclear_bad D ob c tl hr own fd h2).mono fun r H' ⟨e1, e2⟩ => ⟨D, ob, c, tl, e1, own, hr, e2⟩
theorem rget_any (D : List Lp) (ob : Option Nat) (c : Nat) (tl : List Value) (hr : RD f D) (own : Own ob D.length c 3 (D.flatMap encLp) tl) (hf : ∀ i, i < 256 → f i ≤ 18446744073709551615) (fd dir : Int) : Spec Try.prog 49 [.agg #[.int .u64 (now : Int), slV ob D.length c], .agg #[.int .i64 (fd), .int .i64 (dir)]] [⟨ob, cl (D.flatMap encLp ++ tl) 40⟩] (fun r H' => r = .tuple #[.int .u64 (getV f fd dir : Int), .int .i64 (spotE fd dir)] ∧ H' = [⟨ob, cl (D.flatMap encLp ++ tl) 40⟩]) := by
  unfold getV
  by_cases h : spotE fd dir = 0
  · obtain ⟨a, b, h1, h2, rfl, rfl⟩ := spotE_nat h
    rw [if_pos h, pl_nat, h]
    exact rget_ok D ob c tl hr own a b h1 h2 (hf _ (by omega))
  · have h2 := spotE_two h
    rw [if_neg h, h2]
    exact rget_bad D ob c tl hr own fd dir h2
theorem rpass_any (D : List Lp) (ob : Option Nat) (c : Nat) (tl : List Value) (hr : RD f D) (own : Own ob D.length c 3 (D.flatMap encLp) tl) (hnow : now < 18446744073709551615) (hf : ∀ i, i < 256 → f i ≤ 18446744073709551615) (fd dir : Int) : Spec Try.prog 50 [.agg #[.int .u64 (now : Int), slV ob D.length c], .agg #[.int .i64 (fd), .int .i64 (dir)]] [⟨ob, cl (D.flatMap encLp ++ tl) 40⟩] (fun r H' => r = .tuple #[.bool (decide (spotE fd dir = 0 ∧ getV f fd dir ≤ now)), .int .i64 (spotE fd dir)] ∧ H' = [⟨ob, cl (D.flatMap encLp ++ tl) 40⟩]) := by
  unfold getV
  by_cases h : spotE fd dir = 0
  · obtain ⟨a, b, h1, h2, rfl, rfl⟩ := spotE_nat h
    rw [if_pos h, pl_nat, h]
    refine (rpass_ok D ob c tl hr own hnow a b h1 h2 (hf _ (by omega))).mono fun r H' ⟨e1, e2⟩ => ⟨?_, e2⟩
    rw [e1]; simp
  · have h2 := spotE_two h
    rw [if_neg h, h2]
    refine (rpass_bad D ob c tl hr own fd dir h2).mono fun r H' ⟨e1, e2⟩ => ⟨?_, e2⟩
    rw [e1]; simp
theorem radv_any (D : List Lp) (ob : Option Nat) (c : Nat) (tl : List Value) (hr : RD f D) (own : Own ob D.length c 3 (D.flatMap encLp) tl) (hnow : now < 18446744073709551615) (to : Nat) (hto : to ≤ 18446744073709551615) : Spec Try.prog 20 [.agg #[.int .u64 (now : Int), slV ob D.length c], .int .u64 (to : Int)] [⟨ob, cl (D.flatMap encLp ++ tl) 40⟩]
    (fun r H' => ∃ (l : List Lp) (o2 : Option Nat) (c2 : Nat) (t2 : List Value), r = .tuple #[.agg #[.int .u64 ((advN now to : Nat) : Int), slV ob D.length c], slV o2 l.length c2, .int .i64 (advE now to)] ∧ Own o2 l.length c2 3 (l.flatMap encLp) t2 ∧ LapR f now to l ∧ H' = [⟨o2, cl (l.flatMap encLp ++ t2) 40⟩, ⟨ob, cl (D.flatMap encLp ++ tl) 40⟩]) := by
  by_cases h1 : to = 18446744073709551615
  · subst h1
    have e : advE now 18446744073709551615 = 2 := by unfold advE; rw [if_pos rfl]
    unfold LapR advN
    rw [e, if_neg (by decide)]
    exact Spec.none 40 ((radv_never D ob c tl hr own).mono fun r H' ⟨e1, e2⟩ => ⟨⟨none, cl [] 40⟩, ⟨rfl, rfl⟩, [], none, 0, [], e1, Own.empty 3, by rw [if_neg (by decide)], by rw [e2]; rfl⟩)
  · by_cases h2 : to < now
    · have e : advE now to = 3 := by unfold advE; rw [if_neg h1, if_pos h2]
      unfold LapR advN
      rw [e, if_neg (by decide)]
      exact Spec.none 40 ((radv_past D ob c tl hr own hnow to h2).mono fun r H' ⟨e1, e2⟩ => ⟨⟨none, cl [] 40⟩, ⟨rfl, rfl⟩, [], none, 0, [], e1, Own.empty 3, by rw [if_neg (by decide)], by rw [e2]; rfl⟩)
    · have e : advE now to = 0 := by unfold advE; rw [if_neg h1, if_neg h2]
      unfold LapR advN
      rw [e, if_pos rfl]
      exact (radv_ok D ob c tl hr own to (by omega) (by omega)).mono fun r H' ⟨l, o2, c2, t2, e1, e2, e3, e4⟩ => ⟨l, o2, c2, t2, e1, e2, by rw [if_pos rfl]; exact e3, e4⟩
end

end Go.Proofs.Ytnkpefonocggfaa
