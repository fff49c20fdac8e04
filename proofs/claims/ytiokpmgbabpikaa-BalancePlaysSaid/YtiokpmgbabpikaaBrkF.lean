/-
  Chapter 48 (balance), part BrkF: contracts of functions that the laws call, each for the heap it names.
-/
import Derived.Test.YtiokpmgbabpikaaRows
import Derived.Test.YtiokpmgbabpikaaZSLOpt
import Derived.Test.YtiokpmgbabpikaaTab
import Derived.Test.YtiokpmgbabpikaaBrkB
set_option linter.unusedVariables false
set_option maxRecDepth 20000
namespace Go.Proofs.Ytiokpmgbabpikaa


theorem may_le {b : Br} {now : Nat} (h : mayE b now = 0) (hn : now ≤ 18446744073709551615) : b.last ≤ now ∧ now ≤ 18446744073709551614 := by
  unfold mayE at h; split at h <;> omega
theorem Fit.l {b : Br} (h : Fit b) : 1 ≤ b.limit := h.lim.1
theorem Fit.g {b : Br} (h : Fit b) : b.gen ≤ 1000000 ∧ 0 ≤ b.gen := ⟨h.gen.2, h.gen.1⟩
theorem Fit.a {b : Br} (h : Fit b) : 0 ≤ b.allowed ∧ b.allowed ≤ 1000 := by
  obtain ⟨lim, prb, opn, tm, gen, cl, op, hf, st⟩ := h
  omega
theorem Fit.f {b : Br} (h : Fit b) : 0 ≤ b.failed ∧ b.failed ≤ 1000 := by
  obtain ⟨lim, prb, opn, tm, gen, cl, op, hf, st⟩ := h
  omega
theorem Fit.gd {b : Br} (h : Fit b) : 0 ≤ b.good ∧ b.good ≤ 1000 := by
  obtain ⟨lim, prb, opn, tm, gen, cl, op, hf, st⟩ := h
  omega
abbrev DnQ (b : Br) (now : Nat) (g : Int) (good : Bool) (b' : Br) (e : Int) : Prop := (mayE b now ≠ 0 ∧ e = mayE b now ∧ b' = b) ∨ (mayE b now = 0 ∧ (g < 0 ∨ b.gen < g) ∧ e = 9 ∧ b' = b) ∨ (mayE b now = 0 ∧ ¬ (g < 0 ∨ b.gen < g) ∧ g < b.gen ∧ e = 0 ∧ b' = ⟨b.limit, b.probes, b.opn, now, b.gen, b.st, b.opened, b.failed, b.allowed, b.good⟩) ∨ (mayE b now = 0 ∧ g = b.gen ∧ e = 0 ∧ b' = dnB b now good)
theorem fit_last {b : Br} (hf : Fit b) {now : Nat} (h : b.last ≤ now ∧ now ≤ 18446744073709551614) : Fit ⟨b.limit, b.probes, b.opn, now, b.gen, b.st, b.opened, b.failed, b.allowed, b.good⟩ := by
  obtain ⟨lim, prb, opn, tm, gen, cl, op, hf, st⟩ := hf
  exact ⟨lim, prb, opn, ⟨by dsimp only; omega, h.2⟩, gen, cl, op, hf, st⟩
theorem fit_al {b : Br} (hf : Fit b) (hg : b.gen ≤ 900000) {now : Nat} (h : b.last ≤ now ∧ now ≤ 18446744073709551614) (h2 : rdB b now) : Fit (alB b now) ∧ (alB b now).gen ≤ b.gen + 1 := by
  obtain ⟨lim, prb, opn, tm, gen, cl, op, hf, st⟩ := hf
  unfold rdB at h2
  unfold alB
  have hs : stB b now = 2 ∨ stB b now = b.st := by unfold stB; split <;> simp
  split
  · split
    · exact ⟨⟨lim, prb, opn, ⟨by simp, h.2⟩, by dsimp only; omega, fun h => by dsimp only at h; omega, fun h => by dsimp only at h; omega, fun h => by dsimp only; omega, .inr (.inr rfl)⟩, by dsimp only; omega⟩
    · have h2 : b.st = 2 := by rename_i h3 h4; unfold stB at h3; split at h3 <;> omega
      exact ⟨⟨lim, prb, opn, ⟨by dsimp only; omega, h.2⟩, gen, fun h => by dsimp only at h; omega, fun h => by dsimp only at h; omega, fun h => by dsimp only; omega, st⟩, by dsimp only; omega⟩
  · exact ⟨⟨lim, prb, opn, ⟨by dsimp only; omega, h.2⟩, gen, cl, op, hf, st⟩, by dsimp only; omega⟩
theorem fit_dn {b : Br} (hf : Fit b) (hg : b.gen ≤ 900000) {now : Nat} (h : b.last ≤ now ∧ now ≤ 18446744073709551614) (good : Bool) : Fit (dnB b now good) ∧ (dnB b now good).gen ≤ b.gen + 1 := by
  have h0 := fit_last hf h
  obtain ⟨lim, prb, opn, tm, gen, cl, op, hf, st⟩ := hf
  have hop : Fit ⟨b.limit, b.probes, b.opn, now, b.gen + 1, 1, now, 0, 0, 0⟩ := ⟨lim, prb, opn, ⟨Nat.le_refl _, h.2⟩, by dsimp only; omega, fun h => by dsimp only at h; omega, fun h => ⟨rfl, rfl, rfl⟩, fun h => by dsimp only at h; omega, .inr (.inl rfl)⟩
  unfold dnB
  split
  · split
    · exact ⟨⟨lim, prb, opn, ⟨by dsimp only; omega, h.2⟩, gen, fun h => by dsimp only; omega, fun h => by dsimp only at h; omega, fun h => by dsimp only at h; omega, st⟩, by dsimp only; omega⟩
    · split
      · exact ⟨hop, by dsimp only; omega⟩
      · exact ⟨⟨lim, prb, opn, ⟨by dsimp only; omega, h.2⟩, gen, fun h => by dsimp only; omega, fun h => by dsimp only at h; omega, fun h => by dsimp only at h; omega, st⟩, by dsimp only; omega⟩
  · split
    · split
      · split
        · exact ⟨⟨lim, prb, opn, ⟨by simp, h.2⟩, by dsimp only; omega, fun h => by dsimp only; omega, fun h => by dsimp only at h; omega, fun h => by dsimp only at h; omega, .inl rfl⟩, by dsimp only; omega⟩
        · exact ⟨⟨lim, prb, opn, ⟨by dsimp only; omega, h.2⟩, gen, fun h => by dsimp only at h; omega, fun h => by dsimp only at h; omega, fun h => by dsimp only; omega, st⟩, by dsimp only; omega⟩
      · exact ⟨hop, by dsimp only; omega⟩
    · exact ⟨h0, by dsimp only; omega⟩
theorem fit_alQ {b b' : Br} {n e : Int} {now : Nat} (hf : Fit b) (hg : b.gen ≤ 900000) (hn : now ≤ 18446744073709551615) (h : AlQ b now b' n e) : Fit b' ∧ b'.gen ≤ b.gen + 1 := by
  rcases h with ⟨_, _, _, rfl⟩ | ⟨_, _, _, _, rfl⟩ | ⟨h1, h2, _, _, rfl⟩
  · exact ⟨hf, by omega⟩
  · exact ⟨hf, by omega⟩
  · exact fit_al hf hg (may_le h1 hn) h2
theorem fit_dnQ {b b' : Br} {g e : Int} {good : Bool} {now : Nat} (hf : Fit b) (hg : b.gen ≤ 900000) (hn : now ≤ 18446744073709551615) (h : DnQ b now g good b' e) : Fit b' ∧ b'.gen ≤ b.gen + 1 := by
  rcases h with ⟨_, _, rfl⟩ | ⟨_, _, _, rfl⟩ | ⟨h1, _, _, _, rfl⟩ | ⟨h1, _, _, rfl⟩
  · exact ⟨hf, by omega⟩
  · exact ⟨hf, by omega⟩
  · exact ⟨fit_last hf (may_le h1 hn), by dsimp only; omega⟩
  · exact fit_dn hf hg (may_le h1 hn) good

end Go.Proofs.Ytiokpmgbabpikaa
