/-
  Chapter 46 (pool), part FifoL: contracts of functions that the laws call, each for the heap it names.
-/
import Derived.Test.YteofigbgdbpjgaaZB
set_option linter.unusedVariables false
set_option maxRecDepth 20000
namespace Go.Proofs.Yteofigbgdbpjgaa


structure Nd where
  v : Int
  before : Nat
  next : Nat
abbrev ekQ (n : Nat) : Value := .int .u64 (n : Int)
abbrev evQ (x : Nd) : Value := .agg #[.int .i64 x.v, .int .u64 (x.before : Int), .int .u64 (x.next : Int)]
theorem ekQ_key (k : Nat) : MapKept.IsKey (.int .u64) (ekQ k) := rfl
theorem ekQ_inj (a b : Nat) (h : ekQ a = ekQ b) : a = b := by
  simp only [ekQ, Value.int.injEq] at h; omega
/-- The first and the last ticket. -/
def hd (q : Nat) : List (Nat × Int) → Nat
  | [] => q
  | (t, _) :: _ => t
def lst (p : Nat) : List (Nat × Int) → Nat
  | [] => p
  | (t, _) :: r => lst t r
/-- The nodes of a part of a queue, between the tickets p and q. -/
def nds (p q : Nat) : List (Nat × Int) → List (Nat × Nd)
  | [] => []
  | (t, v) :: r => (t, ⟨v, p, hd q r⟩) :: nds t q r
theorem hd_append (q : Nat) : ∀ (A B : List (Nat × Int)), hd q (A ++ B) = hd (hd q B) A
  | [], _ => rfl
  | (_, _) :: _, _ => rfl
theorem lst_append (p : Nat) : ∀ (A B : List (Nat × Int)), lst p (A ++ B) = lst (lst p A) B
  | [], _ => rfl
  | (t, _) :: r, B => lst_append t r B
theorem nds_append (q : Nat) : ∀ (A B : List (Nat × Int)) (p : Nat), nds p q (A ++ B) = nds p (hd q B) A ++ nds (lst p A) q B
  | [], _, _ => rfl
  | (t, v) :: r, B, p => by
    simp only [List.cons_append, nds, lst, nds_append q r B t, hd_append]
theorem nds_keys (q : Nat) : ∀ (l : List (Nat × Int)) (p : Nat), (nds p q l).map (·.1) = l.map (·.1)
  | [], _ => rfl
  | (t, v) :: r, p => by simp only [nds, List.map_cons, nds_keys q r t]
theorem nds_len (p q : Nat) (l : List (Nat × Int)) : (nds p q l).length = l.length := by
  have := congrArg List.length (nds_keys q l p)
  simpa using this
theorem lst_mem : ∀ (l : List (Nat × Int)) (p : Nat), l ≠ [] → lst p l ∈ l.map (·.1)
  | [], _, h => absurd rfl h
  | [(t, v)], p, _ => by simp [lst]
  | (t, v) :: x :: r, p, _ => by
    have := lst_mem (x :: r) t (by simp)
    exact List.mem_cons_of_mem _ this
theorem lst_in (q : Nat) : ∀ (l : List (Nat × Int)) (p : Nat), l ≠ [] → ∃ w bq, (lst p l, (⟨w, bq, q⟩ : Nd)) ∈ nds p q l
  | [], _, h => absurd rfl h
  | [(t, v)], p, _ => ⟨v, p, List.mem_cons_self ..⟩
  | (t, v) :: x :: r, p, _ => by
    obtain ⟨w, bq, h⟩ := lst_in q (x :: r) t (by simp)
    exact ⟨w, bq, List.mem_cons_of_mem _ h⟩
theorem hd_in (q : Nat) (p : Nat) : ∀ (l : List (Nat × Int)), l ≠ [] → ∃ w nq, (hd q l, (⟨w, p, nq⟩ : Nd)) ∈ nds p q l
  | [], h => absurd rfl h
  | (t, v) :: r, _ => ⟨v, hd q r, List.mem_cons_self ..⟩
theorem setL_append {A B : List (Nat × Nd)} (k : Nat) (a : Nd) : setL (A ++ B) k a = setL A k a ++ setL B k a := List.map_append
theorem setL_out {A : List (Nat × Nd)} {k : Nat} {a : Nd} (h : k ∉ A.map (·.1)) : setL A k a = A := setL_same fun x hx e => h (List.mem_map.2 ⟨x, hx, e⟩)
theorem setL_last (q q' : Nat) : ∀ (l : List (Nat × Int)) (p : Nat) (w : Int) (bq : Nat), l ≠ [] → (l.map (·.1)).Nodup → (lst p l, (⟨w, bq, q⟩ : Nd)) ∈ nds p q l → setL (nds p q l) (lst p l) ⟨w, bq, q'⟩ = nds p q' l
  | [], _, _, _, h, _, _ => absurd rfl h
  | [(t, v)], p, w, bq, _, _, hm => by
    simp only [nds, lst, hd, List.mem_singleton, Prod.mk.injEq, Nd.mk.injEq, true_and, and_true] at hm
    obtain ⟨rfl, rfl⟩ := hm
    simp [nds, lst, hd, setL]
  | (t, v) :: x :: r, p, w, bq, _, hn, hm => by
    rw [List.map_cons, List.nodup_cons] at hn
    have hne : t ≠ lst t (x :: r) := fun e => hn.1 (by
      have := lst_mem (x :: r) t (by simp)
      rw [← e] at this; exact this)
    have hm2 : (lst t (x :: r), (⟨w, bq, q⟩ : Nd)) ∈ nds t q (x :: r) := by
      rcases List.mem_cons.1 hm with e | h
      · exact absurd (congrArg Prod.fst e).symm hne
      · exact h
    have ih := setL_last q q' (x :: r) t w bq (by simp) hn.2 hm2
    show setL ((t, ⟨v, p, hd q (x :: r)⟩) :: nds t q (x :: r)) (lst t (x :: r)) ⟨w, bq, q'⟩ = (t, ⟨v, p, hd q' (x :: r)⟩) :: nds t q' (x :: r)
    have e1 : ∀ Y, setL ((t, (⟨v, p, hd q (x :: r)⟩ : Nd)) :: Y) (lst t (x :: r)) ⟨w, bq, q'⟩ = (t, ⟨v, p, hd q (x :: r)⟩) :: setL Y (lst t (x :: r)) ⟨w, bq, q'⟩ := fun Y => by
      show (if t = lst t (x :: r) then _ else _) :: _ = _
      rw [if_neg hne]; rfl
    rw [e1, ih]
    rfl
theorem setL_head (p p' q : Nat) (l : List (Nat × Int)) (w : Int) (nq : Nat) (hl : l ≠ []) (hn : (l.map (·.1)).Nodup) (hm : (hd q l, (⟨w, p, nq⟩ : Nd)) ∈ nds p q l) : setL (nds p q l) (hd q l) ⟨w, p', nq⟩ = nds p' q l := by
  cases l with
  | nil => exact absurd rfl hl
  | cons x r =>
    obtain ⟨t, v⟩ := x
    rw [List.map_cons, List.nodup_cons] at hn
    have hnr : t ∉ (nds t q r).map (·.1) := by rw [nds_keys]; exact hn.1
    have e : v = w ∧ hd q r = nq := by
      rcases List.mem_cons.1 hm with e | h
      · have := congrArg Prod.snd e
        simp only [Nd.mk.injEq] at this
        exact ⟨this.1.symm, this.2.2.symm⟩
      · exact absurd (List.mem_map.2 ⟨_, h, rfl⟩) hnr
    obtain ⟨rfl, rfl⟩ := e
    show (if t = t then _ else _) :: setL (nds t q r) t _ = _
    rw [if_pos rfl, setL_out hnr]
    rfl
theorem delL_mid (A B : List (Nat × Int)) (t : Nat) (v : Int) (hn : ((A ++ (t, v) :: B).map (·.1)).Nodup) : delL (nds 0 0 (A ++ (t, v) :: B)) t = nds 0 t A ++ nds t 0 B := by
  have hA : ∀ x ∈ nds 0 t A, x.1 ≠ t := fun x hx e => by
    have h1 : x.1 ∈ A.map (·.1) := by rw [← nds_keys t A 0]; exact List.mem_map.2 ⟨x, hx, rfl⟩
    rw [e] at h1
    rw [List.map_append, List.map_cons, List.nodup_append] at hn
    exact hn.2.2 t h1 t (List.mem_cons_self ..) rfl
  have hB : ∀ x ∈ nds t 0 B, x.1 ≠ t := fun x hx e => by
    have h1 : x.1 ∈ B.map (·.1) := by rw [← nds_keys 0 B t]; exact List.mem_map.2 ⟨x, hx, rfl⟩
    rw [e] at h1
    rw [List.map_append, List.map_cons, List.nodup_append] at hn
    exact (List.nodup_cons.1 hn.2.1).1 h1
  rw [nds_append]
  unfold delL
  rw [List.filter_append]
  show List.filter _ (nds 0 t A) ++ List.filter _ ((t, _) :: nds t 0 B) = _
  rw [List.filter_cons_of_neg (by simp), List.filter_eq_self.2 (fun x hx => by simpa using hA x hx), List.filter_eq_self.2 (fun x hx => by simpa using hB x hx)]
theorem hd_ne {q q' : Nat} {l : List (Nat × Int)} (h : l ≠ []) : hd q l = hd q' l := by
  cases l with
  | nil => exact absurd rfl h
  | cons x r => rfl
theorem lst_ne {q q' : Nat} {l : List (Nat × Int)} (h : l ≠ []) : lst q l = lst q' l := by
  cases l with
  | nil => exact absurd rfl h
  | cons x r => rfl
/-- The tickets of a queue. -/
structure Qk (l : List (Nat × Int)) (g : Nat) : Prop where
  pos : ∀ x ∈ l, 1 ≤ x.1 ∧ x.1 ≤ g
  ord : l.Pairwise fun a b => a.1 < b.1
theorem Qk.empty (g : Nat) : Qk [] g := ⟨fun x h => (by cases h), .nil⟩
theorem Qk.nodup {l : List (Nat × Int)} {g : Nat} (h : Qk l g) : (l.map (·.1)).Nodup := by
  rw [List.Nodup, List.pairwise_map]
  exact h.ord.imp fun h => Nat.ne_of_lt h
theorem Qk.push {l : List (Nat × Int)} {g : Nat} (h : Qk l g) (v : Int) : Qk (l ++ [(g + 1, v)]) (g + 1) := by
  refine ⟨fun x hx => ?_, List.pairwise_append.2 ⟨h.ord, by simp, fun a ha b hb => ?_⟩⟩
  · rcases List.mem_append.1 hx with hx | hx
    · have := h.pos x hx; omega
    · rw [List.mem_singleton] at hx; subst hx; dsimp only; omega
  · rw [List.mem_singleton] at hb; subst hb
    have := h.pos a ha; dsimp only; omega
theorem Qk.rem {A B : List (Nat × Int)} {x : Nat × Int} {g : Nat} (h : Qk (A ++ x :: B) g) : Qk (A ++ B) g := by
  refine ⟨fun y hy => h.pos y ?_, h.ord.sublist (List.Sublist.append_left (List.sublist_cons_self x B) A)⟩
  rcases List.mem_append.1 hy with hy | hy
  · exact List.mem_append_left _ hy
  · exact List.mem_append_right _ (List.mem_cons_of_mem _ hy)
theorem Qk.hd0 {l : List (Nat × Int)} {g : Nat} (h : Qk l g) : hd 0 l = 0 ↔ l = [] := by
  cases l with
  | nil => simp [hd]
  | cons x r =>
    have := (h.pos x (List.mem_cons_self ..)).1
    obtain ⟨t, v⟩ := x
    simp only [hd]
    constructor
    · intro e; dsimp only at this; omega
    · intro e; cases e
theorem Qk.lst0 {l : List (Nat × Int)} {g : Nat} (h : Qk l g) : lst 0 l = 0 ↔ l = [] := by
  by_cases e : l = []
  · subst e; simp [lst]
  · have hm := lst_mem l 0 e
    obtain ⟨x, hx, hx2⟩ := List.mem_map.1 hm
    have := (h.pos x hx).1
    constructor
    · intro e2; omega
    · intro e2; exact absurd e2 e
theorem Qk.left {A B : List (Nat × Int)} {g : Nat} (h : Qk (A ++ B) g) : Qk A g := ⟨fun x hx => h.pos x (List.mem_append_left _ hx), (List.pairwise_append.1 h.ord).1⟩
theorem Qk.right {A B : List (Nat × Int)} {g : Nat} (h : Qk (A ++ B) g) : Qk B g := ⟨fun x hx => h.pos x (List.mem_append_right _ hx), (List.pairwise_append.1 h.ord).2.1⟩
theorem Qk.tail {x : Nat × Int} {B : List (Nat × Int)} {g : Nat} (h : Qk (x :: B) g) : Qk B g := ⟨fun y hy => h.pos y (List.mem_cons_of_mem _ hy), (List.pairwise_cons.1 h.ord).2⟩
theorem Qk.new {l : List (Nat × Int)} {g : Nat} (h : Qk l g) : g + 1 ∉ (nds 0 0 l).map (·.1) := by
  rw [nds_keys]
  intro hm
  obtain ⟨x, hx, e⟩ := List.mem_map.1 hm
  have := (h.pos x hx).2
  omega
theorem push_list {l : List (Nat × Int)} {g : Nat} (h : Qk l g) (v : Int) {w : Int} {bq : Nat} (hl : l ≠ []) (hin : (lst 0 l, (⟨w, bq, 0⟩ : Nd)) ∈ nds 0 0 l) :
    (setL ((g + 1, ⟨v, lst 0 l, 0⟩) :: nds 0 0 l) (lst 0 l) ⟨w, bq, g + 1⟩).Perm (nds 0 0 (l ++ [(g + 1, v)])) := by
  have hne : g + 1 ≠ lst 0 l := fun e => h.new (by rw [nds_keys, e]; exact lst_mem l 0 hl)
  have e1 : setL ((g + 1, (⟨v, lst 0 l, 0⟩ : Nd)) :: nds 0 0 l) (lst 0 l) ⟨w, bq, g + 1⟩ = (g + 1, ⟨v, lst 0 l, 0⟩) :: setL (nds 0 0 l) (lst 0 l) ⟨w, bq, g + 1⟩ := by
    show (if g + 1 = lst 0 l then _ else _) :: _ = _
    rw [if_neg hne]; rfl
  rw [e1, setL_last 0 (g + 1) l 0 w bq hl h.nodup hin, nds_append]
  exact (List.perm_append_comm (l₁ := [(g + 1, (⟨v, lst 0 l, 0⟩ : Nd))]))

end Go.Proofs.Yteofigbgdbpjgaa
