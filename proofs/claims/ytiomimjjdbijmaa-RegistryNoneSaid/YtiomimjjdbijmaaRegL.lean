/-
  Chapter 17 (registry), part RegL: contracts of functions that the laws call, each for the heap it names.
-/
import Derived.Test.YtiomimjjdbijmaaAddrL
import Derived.Test.YtiomimjjdbijmaaSLMapJ
set_option linter.unusedVariables false
set_option maxRecDepth 20000
namespace Go.Proofs.Ytiomimjjdbijmaa


abbrev Bd := Ad × Int
abbrev evI (v : Int) : Value := .int .i64 v
abbrev encBd (x : Bd) : List Value := [.string x.1.1, .int .i64 x.1.2, .int .i64 x.2]
theorem encBd3 (x : Bd) : (encBd x).length = 3 := rfl
theorem encBd_one (W : List Bd) : (W.flatMap encBd).all Value.oneCell' = true := fm_all (fun _ => rfl) W
abbrev kys (W : List Bd) : List Ad := W.map (·.1)
abbrev SrtB (W : List Bd) : Prop := W.Pairwise (fun a b => adLt a.1 b.1)
theorem srt_nodup {W : List Bd} (h : SrtB W) : (kys W).Nodup := by
  unfold kys
  rw [List.nodup_iff_pairwise_ne, List.pairwise_map]
  exact List.Pairwise.imp (S := fun a b : Bd => a.1 ≠ b.1) (fun {a b} hab e => adLt_irrefl b.1 (by rw [e] at hab; exact hab)) h
theorem look_or (W : List Bd) (a : Ad) : (∃ v, (a, v) ∈ W) ∨ a ∉ kys W := by
  by_cases h : a ∈ kys W
  · obtain ⟨⟨k, v⟩, hx, rfl⟩ := List.mem_map.1 h
    exact .inl ⟨v, hx⟩
  · exact .inr h
theorem in_kys {W : List Bd} {a : Ad} {v : Int} (h : (a, v) ∈ W) : a ∈ kys W := List.mem_map.2 ⟨_, h, rfl⟩
def lookR (W : List Bd) (a : Ad) : Int × Int := if validA a = true then (match W.find? (fun x => decide (x.1 = a)) with | some x => (x.2, 0) | none => (0, 9)) else (0, 2)
theorem find_in {W : List Bd} (hn : (kys W).Nodup) {a : Ad} {v : Int} (h : (a, v) ∈ W) : W.find? (fun x => decide (x.1 = a)) = some (a, v) := by
  cases e : W.find? (fun x => decide (x.1 = a)) with
  | none => exact absurd (List.find?_eq_none.1 e _ h) (by simp)
  | some x =>
    have h1 := List.find?_some e
    have h2 := List.mem_of_find?_eq_some e
    obtain ⟨k, u⟩ := x
    obtain rfl : k = a := by simpa using h1
    rw [key_uniq hn h2 h]
theorem find_out {W : List Bd} {a : Ad} (h : a ∉ kys W) : W.find? (fun x => decide (x.1 = a)) = none := List.find?_eq_none.2 fun x hx => by
  have : x.1 ≠ a := fun e => h (by rw [← e]; exact List.mem_map_of_mem hx)
  simpa using this
theorem look_in {W : List Bd} (hn : (kys W).Nodup) {a : Ad} {v : Int} (hv : validA a = true) (h : (a, v) ∈ W) : lookR W a = (v, 0) := by unfold lookR; rw [if_pos hv, find_in hn h]
theorem look_out {W : List Bd} {a : Ad} (hv : validA a = true) (h : a ∉ kys W) : lookR W a = (0, 9) := by unfold lookR; rw [if_pos hv, find_out h]
theorem look_bad {W : List Bd} {a : Ad} (hv : validA a = false) : lookR W a = (0, 2) := by unfold lookR; rw [if_neg (by rw [hv]; decide)]
/-! The free port of a name -/
abbrev fpt (name : ByteArray) (k : Nat) : Ad := (name, ((49152 + k : Nat) : Int))
def frA (W : List Bd) (name : ByteArray) : Nat → Nat → Nat
  | 0, k => k
  | n + 1, k => if (kys W).any (fun x => decide (x = fpt name k)) = true then frA W name n (k + 1) else k
def frN (W : List Bd) (name : ByteArray) : Nat := frA W name 129 0
theorem any_iff {l : List Ad} {a : Ad} : l.any (fun x => decide (x = a)) = true ↔ a ∈ l := by
  rw [List.any_eq_true]
  exact ⟨fun ⟨x, hx, e⟩ => by rw [← of_decide_eq_true e]; exact hx, fun h => ⟨a, h, decide_eq_true rfl⟩⟩
theorem frA_eq {W : List Bd} {name : ByteArray} {i : Nat} (hn : fpt name i ∉ kys W) : ∀ (n k : Nat), k ≤ i → i < k + n → (∀ j, k ≤ j → j < i → fpt name j ∈ kys W) → frA W name n k = i
  | 0, k, h1, h2, _ => by omega
  | n + 1, k, h1, h2, hj => by
    unfold frA
    by_cases e : k = i
    · subst e; rw [if_neg (fun e => hn (any_iff.1 e))]
    · rw [if_pos (any_iff.2 (hj k (Nat.le_refl _) (by omega)))]
      exact frA_eq hn n (k + 1) (by omega) (by omega) fun j h3 h4 => hj j (by omega) h4
theorem frN_eq {W : List Bd} {name : ByteArray} {i : Nat} (h : i < 129) (hj : ∀ j, j < i → fpt name j ∈ kys W) (hn : fpt name i ∉ kys W) : frN W name = i := frA_eq hn 129 0 (Nat.zero_le _) (by omega) fun j _ h4 => hj j h4
theorem pigeonA {α : Type} [DecidableEq α] : ∀ (ks m : List α), ks.Nodup → (∀ k ∈ ks, k ∈ m) → ks.length ≤ m.length
  | [], _, _, _ => Nat.zero_le _
  | k :: ks, m, hn, h => by
    have hk : k ∈ m := h k (List.mem_cons_self ..)
    obtain ⟨hk1, hn1⟩ := List.nodup_cons.1 hn
    have := pigeonA ks (m.erase k) hn1 (fun x hx => (List.mem_erase_of_ne (by intro e; subst e; exact hk1 hx)).2 (h x (List.mem_cons_of_mem _ hx)))
    rw [List.length_erase_of_mem hk] at this
    have hp : 0 < m.length := List.length_pos_of_mem hk
    simp only [List.length_cons]
    omega
theorem fpt_inj {name : ByteArray} {i j : Nat} (h : fpt name i = fpt name j) : i = j := by
  have : ((49152 + i : Nat) : Int) = ((49152 + j : Nat) : Int) := congrArg Prod.snd h
  omega
theorem fr_room {W : List Bd} (hl : W.length ≤ 128) {name : ByteArray} (h : ∀ j, j < 129 → fpt name j ∈ kys W) : False := by
  have := pigeonA ((List.range 129).map (fpt name)) (kys W) (by
    rw [List.nodup_iff_pairwise_ne, List.pairwise_map]
    exact List.Pairwise.imp (S := fun a b : Nat => fpt name a ≠ fpt name b) (fun {a b} hab e => hab (fpt_inj e)) (List.nodup_iff_pairwise_ne.1 List.nodup_range)) (fun k hk => by
      obtain ⟨j, hj, rfl⟩ := List.mem_map.1 hk
      exact h j (List.mem_range.1 hj))
  rw [List.length_map, List.length_range] at this
  unfold kys at this
  rw [List.length_map] at this
  omega
structure Rg where
  p : Nat
  mb : Nat
  es : Array MapEntry
  c : Nat
abbrev rgE1 (r : Rg) : Ent := ⟨some r.p, cl [.map (some r.mb)] 60⟩
abbrev rgE2 (r : Rg) : Ent := ⟨some r.mb, .map r.es r.c⟩
abbrev rgH (r : Rg) : Heap := [rgE1 r, rgE2 r]
abbrev ptrR (p : Nat) : Value := .pointer (some ⟨p, 0, none⟩)
structure RgIs (W : List Bd) (r : Rg) : Prop where
  mp : Mk adV evI r.es r.c W
  srt : SrtB W
  len : W.length ≤ 128
theorem RgIs.nd {W : List Bd} {r : Rg} (h : RgIs W r) : (kys W).Nodup := srt_nodup h.srt
theorem RgIs.new (p mb : Nat) : RgIs [] ⟨p, mb, #[], 0⟩ := ⟨Mk.empty, .nil, Nat.zero_le _⟩
theorem delL_srt {W : List Bd} (h : SrtB W) (a : Ad) : SrtB (delL W a) := h.filter _
theorem RgIs.del {W : List Bd} {r : Rg} (h : RgIs W r) {a : Ad} {es' : Array MapEntry} (hM : Mk adV evI es' r.c (delL W a)) : RgIs (delL W a) ⟨r.p, r.mb, es', r.c⟩ :=
  ⟨hM, delL_srt h.srt a, Nat.le_trans (List.length_filter_le _ _) h.len⟩

end Go.Proofs.Ytiomimjjdbijmaa
