/-
  Chapter 17 (registry), part HoldL: contracts of functions that the laws call, each for the heap it names.
-/
import Derived.Test.YtiomimjjdbijmaaLaw5
import Derived.Test.YtiomimjjdbijmaaFullL
set_option linter.unusedVariables false
set_option maxRecDepth 20000
namespace Go.Proofs.Ytiomimjjdbijmaa


theorem srtB_eq : ∀ {l l2 : List Bd}, l.Perm l2 → SrtB l → SrtB l2 → l = l2
  | [], l2, hp, _, _ => by rw [List.nil_perm.1 hp]
  | a :: r, [], hp, _, _ => by have := hp.length_eq; simp at this
  | a :: r, b :: r2, hp, h1, h2 => by
    obtain ⟨h1a, h1b⟩ := List.pairwise_cons.1 h1
    obtain ⟨h2a, h2b⟩ := List.pairwise_cons.1 h2
    have e : a = b := by
      have hb : b ∈ a :: r := hp.mem_iff.2 (List.mem_cons_self ..)
      have ha : a ∈ b :: r2 := hp.mem_iff.1 (List.mem_cons_self ..)
      rcases List.mem_cons.1 ha with h | h
      · exact h
      · rcases List.mem_cons.1 hb with h3 | h3
        · exact h3.symm
        · exact absurd (adLt_trans (h2a a h) (h1a b h3)) (adLt_irrefl _)
    subst e
    rw [srtB_eq (List.Perm.cons_inv hp) h1b h2b]
def onN (name : ByteArray) (W : List Bd) : List Bd := W.filter (fun x => decide (x.1.1 = name))
theorem onN_srt {name : ByteArray} {W : List Bd} (h : SrtB W) : SrtB (onN name W) := h.filter _
theorem onN_len (name : ByteArray) (W : List Bd) : (onN name W).length ≤ W.length := List.length_filter_le _ _
theorem onN_mem {name : ByteArray} {W : List Bd} {x : Bd} : x ∈ onN name W ↔ x ∈ W ∧ x.1.1 = name := by unfold onN; rw [List.mem_filter, decide_eq_true_iff]
theorem onN_kys {name : ByteArray} {W : List Bd} {a : Ad} : a ∈ kys (onN name W) ↔ a ∈ kys W ∧ a.1 = name := by
  constructor
  · intro h
    obtain ⟨x, hx, rfl⟩ := List.mem_map.1 h
    obtain ⟨h1, h2⟩ := onN_mem.1 hx
    exact ⟨List.mem_map_of_mem h1, h2⟩
  · rintro ⟨h1, h2⟩
    obtain ⟨x, hx, rfl⟩ := List.mem_map.1 h1
    exact List.mem_map_of_mem (onN_mem.2 ⟨hx, h2⟩)
theorem onN_look {name : ByteArray} {W : List Bd} (h : SrtB W) {a : Ad} (ha : a.1 = name) : lookR (onN name W) a = lookR W a := by
  cases hv : validA a with
  | false => rw [look_bad hv, look_bad hv]
  | true =>
    rcases look_or W a with ⟨v, hin⟩ | hout
    · rw [look_in (srt_nodup h) hv hin, look_in (srt_nodup (onN_srt h)) hv (onN_mem.2 ⟨hin, ha⟩)]
    · rw [look_out hv hout, look_out hv (fun h9 => hout (onN_kys.1 h9).1)]
theorem onN_rel {name : ByteArray} {W : List Bd} (h : SrtB W) {a : Ad} (ha : a.1 = name) : relW (onN name W) a = onN name (relW W a) := by
  unfold relW
  rw [onN_look h ha]
  split
  · unfold onN delL
    rw [List.filter_filter, List.filter_filter]
    congr 1; funext x; exact Bool.and_comm _ _
  · rfl
theorem onN_rel_ne {name : ByteArray} {W : List Bd} {a : Ad} (ha : ¬ a.1 = name) : onN name (relW W a) = onN name W := by
  unfold relW
  split
  · unfold onN delL
    rw [List.filter_filter]
    congr 1; funext x
    by_cases h : x.1.1 = name
    · have : x.1 ≠ a := fun e => ha (by rw [← e]; exact h)
      simp [h, this]
    · simp [h]
  · rfl
theorem onN_fr (name : ByteArray) (W : List Bd) : frN (onN name W) name = frN W name := by
  have key : ∀ n k, frA (onN name W) name n k = frA W name n k := fun n => by
    induction n with
    | zero => intro k; rfl
    | succ n ih =>
      intro k
      unfold frA
      have e : (fpt name k ∈ kys (onN name W)) ↔ (fpt name k ∈ kys W) := by rw [onN_kys]; simp
      by_cases h : fpt name k ∈ kys W
      · rw [if_pos (any_iff.2 h), if_pos (any_iff.2 (e.2 h)), ih]
      · rw [if_neg (fun q => h (any_iff.1 q)), if_neg (fun q => h (e.1 (any_iff.1 q)))]
  exact key 129 0
theorem bndA_fst (W : List Bd) (a : Ad) : (bndA W a).1 = a.1 := by unfold bndA; split <;> rfl
theorem onN_bndA {name : ByteArray} {W : List Bd} {a : Ad} (ha : a.1 = name) : bndA (onN name W) a = bndA W a := by
  unfold bndA
  rw [ha, onN_fr]
theorem onN_bndE {name : ByteArray} {W : List Bd} {a : Ad} {v : Int} (ha : a.1 = name) (hl : W.length < 128) : bndE (onN name W) a v = bndE W a v := by
  have h1 := onN_len name W
  unfold bndE
  rw [onN_bndA ha, if_neg (show ¬ 128 ≤ (onN name W).length by omega), if_neg (show ¬ 128 ≤ W.length by omega)]
  have e : (bndA W a ∈ kys (onN name W)) ↔ (bndA W a ∈ kys W) := by rw [onN_kys, bndA_fst]; simp [ha]
  by_cases h : bndA W a ∈ kys W
  · rw [if_pos (any_iff.2 h), if_pos (any_iff.2 (e.2 h))]
  · rw [if_neg (fun q => h (any_iff.1 q)), if_neg (fun q => h (e.1 (any_iff.1 q)))]
theorem onN_bndR {name : ByteArray} {W : List Bd} {a : Ad} {v : Int} (ha : a.1 = name) (hl : W.length < 128) : bndR (onN name W) a v = bndR W a v := by
  unfold bndR; rw [onN_bndE ha hl, onN_bndA ha]
theorem bndE_zero {W : List Bd} {a : Ad} {v : Int} (h : bndE W a v = 0) : validA a = true ∧ ¬ v < 0 ∧ bndA W a ∉ kys W ∧ ¬ 128 ≤ W.length := by
  unfold bndE at h
  split at h
  · cases h
  · rename_i h1
    split at h
    · cases h
    · rename_i h2
      split at h
      · cases h
      · rename_i h3
        refine ⟨?_, fun hv => h1 (.inr hv), fun q => h2 (any_iff.2 q), h3⟩
        cases hv : validA a with
        | true => rfl
        | false => exact absurd (.inl hv) h1
theorem bndW_srt {W : List Bd} (h : SrtB W) (a : Ad) (v : Int) : SrtB (bndW W a v) := by
  unfold bndW; split
  · rename_i e; exact insB_srt h (bndE_zero e).2.2.1
  · exact h
theorem onN_bndW {name : ByteArray} {W : List Bd} (h : SrtB W) {a : Ad} {v : Int} (ha : a.1 = name) (hl : W.length < 128) : bndW (onN name W) a v = onN name (bndW W a v) := by
  refine srtB_eq ?_ (bndW_srt (onN_srt h) a v) (onN_srt (bndW_srt h a v))
  unfold bndW
  rw [onN_bndE ha hl, onN_bndA ha]
  split
  · refine (insB_perm _ _).symm.trans (List.Perm.trans ?_ ((insB_perm (bndA W a, v) W).filter _))
    rw [List.filter_cons_of_pos (by rw [bndA_fst]; exact decide_eq_true ha)]
    exact .refl _
  · exact .refl _
theorem onN_bndW_ne {name : ByteArray} {W : List Bd} (h : SrtB W) {a : Ad} {v : Int} (ha : ¬ a.1 = name) : onN name (bndW W a v) = onN name W := by
  refine srtB_eq ?_ (onN_srt (bndW_srt h a v)) (onN_srt h)
  unfold bndW
  split
  · refine ((insB_perm (bndA W a, v) W).filter _).symm.trans ?_
    rw [List.filter_cons_of_neg (by rw [bndA_fst]; simpa using ha)]
    exact .refl _
  · exact .refl _
/-! what was released is bound again, and released again -/
theorem rel_again {W : List Bd} (h : SrtB W) (hl : W.length ≤ 100) (hp : ∀ a ∈ kys W, a.2 ≠ 0) {a : Ad} (hk : (lookR W a).2 = 0) :
    lookR (relW W a) a = (0, 9) ∧ (bndR (relW W a) a 5 = a ∧ bndE (relW W a) a 5 = 0) ∧ lookR (bndW (relW W a) a 5) a = (5, 0) ∧ relW (bndW (relW W a) a 5) a = relW W a := by
  obtain ⟨hv, v, hin, e⟩ := look_zero (srt_nodup h) hk
  have e2 : relW W a = delL W a := by unfold relW; rw [if_pos hk]
  rw [e2]
  have hs := delL_srt h a
  have hout : a ∉ kys (delL W a) := by
    intro h9
    obtain ⟨x, hx, rfl⟩ := List.mem_map.1 h9
    unfold delL at hx
    rw [List.mem_filter] at hx
    exact absurd hx.2 (by simp)
  have hne := hp a (in_kys hin)
  have hA : bndA (delL W a) a = a := by unfold bndA; rw [if_neg hne]
  have hlen : (delL W a).length ≤ W.length := List.length_filter_le _ _
  obtain ⟨b1, b2, b3⟩ := bnd_ok (v := 5) hv (by omega) (by rw [hA]; exact hout) (by omega)
  rw [hA] at b2 b3
  have hin2 : (a, (5 : Int)) ∈ bndW (delL W a) a 5 := by rw [b2]; exact (insB_perm _ _).mem_iff.1 (List.mem_cons_self ..)
  have hk2 := look_in (srt_nodup (bndW_srt hs a 5)) hv hin2
  refine ⟨look_out hv hout, ⟨b3, b1⟩, hk2, ?_⟩
  have e3 : relW (bndW (delL W a) a 5) a = delL (bndW (delL W a) a 5) a := by unfold relW; rw [if_pos (by rw [hk2])]
  rw [e3]
  refine srtB_eq ?_ (delL_srt (bndW_srt hs a 5) a) hs
  rw [b2]
  unfold delL
  refine ((insB_perm (a, (5 : Int)) (W.filter _)).filter _).symm.trans ?_
  rw [List.filter_cons_of_neg (by simp), List.filter_filter]
  simp only [Bool.and_self]
  exact .refl _
/-! Bind, three ways -/
def freeR (W : List Bd) (s : ByteArray) : Int × Int := if validN s = true then (((49152 + frN W s : Nat) : Int), 0) else (0, 2)
theorem bind3 {W : List Bd} (h : SrtB W) (s : ByteArray) (p v : Int) : bndE W (s, p) v ≠ 0 ∨ (bndE W (s, p) v = 0 ∧ freeR W s = (((49152 + frN W s : Nat) : Int), 0) ∧ ((p = 0 ∧ bndR W (s, p) v = (s, ((49152 + frN W s : Nat) : Int)) ∧ lookR (bndW W (s, p) v) (s, ((49152 + frN W s : Nat) : Int)) = (v, 0)) ∨ (p ≠ 0 ∧ bndR W (s, p) v = (s, p) ∧ lookR (bndW W (s, p) v) (s, p) = (v, 0)))) := by
  by_cases he : bndE W (s, p) v = 0
  · right
    obtain ⟨h1, h2, h3, h4⟩ := bndE_zero he
    obtain ⟨b1, b2, b3⟩ := bnd_ok h1 h2 h3 h4
    have hvn : validN s = true := by
      unfold validA at h1
      rw [Bool.and_eq_true] at h1
      exact h1.1
    have hin : (bndA W (s, p), v) ∈ bndW W (s, p) v := by rw [b2]; exact (insB_perm _ _).mem_iff.1 (List.mem_cons_self ..)
    have hvA : validA (bndA W (s, p)) = true := by
      by_cases h0 : p = 0
      · rw [bndA_0 h0]
        have h5 : frN W s ≤ 129 := by
          have : ∀ n k, frA W s n k ≤ k + n := fun n => by
            induction n with
            | zero => intro k; exact Nat.le_refl _
            | succ n ih =>
              intro k; unfold frA; split
              · have := ih (k + 1); omega
              · omega
          have := this 129 0
          unfold frN; omega
        unfold validA
        rw [hvn, decide_eq_true (show (0 : Int) ≤ (fpt s (frN W s)).2 by dsimp only; omega), decide_eq_true (show (fpt s (frN W s)).2 ≤ 65535 by dsimp only; omega)]; rfl
      · rw [bndA_p h0]; exact h1
    have hk := look_in (srt_nodup (bndW_srt h (s, p) v)) hvA hin
    refine ⟨b1, by unfold freeR; rw [if_pos hvn], ?_⟩
    by_cases h0 : p = 0
    · rw [bndA_0 h0] at b3 hk
      exact .inl ⟨h0, b3, hk⟩
    · rw [bndA_p h0] at b3 hk
      exact .inr ⟨h0, b3, hk⟩
  · exact .inl he
structure HlIs (i : Nat) (W : List Bd) : Prop where
  len : W.length ≤ i
  pos : ∀ a ∈ kys W, a.2 ≠ 0
theorem HlIs.rel {i : Nat} {W : List Bd} (h : HlIs i W) (a : Ad) : HlIs (i + 1) (relW W a) := by
  refine ⟨by have := relW_len W a; have := h.len; omega, fun b hb => h.pos b ?_⟩
  unfold relW at hb
  split at hb
  · obtain ⟨x, hx, rfl⟩ := List.mem_map.1 hb
    exact List.mem_map_of_mem (List.mem_filter.1 hx).1
  · exact hb
theorem HlIs.bind {i : Nat} {W : List Bd} (h : HlIs i W) (a : Ad) (v : Int) : HlIs (i + 1) (bndW W a v) := by
  have hl := h.len
  unfold bndW
  split
  · refine ⟨by rw [insB_len]; omega, fun b hb => ?_⟩
    rcases kys_ins.1 hb with rfl | hb
    · dsimp only; unfold bndA
      split
      · dsimp only; omega
      · assumption
    · exact h.pos b hb
  · exact ⟨by omega, h.pos⟩

end Go.Proofs.Ytiomimjjdbijmaa
