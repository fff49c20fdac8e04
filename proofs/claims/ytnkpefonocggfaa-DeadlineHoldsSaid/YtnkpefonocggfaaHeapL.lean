/-
  Chapter 10 (deadline), part HeapL: contracts of functions that the laws call, each for the heap it names.
-/
import Derived.Test.YtnkpefonocggfaaRows
import Derived.Test.YtnkpefonocggfaaSLPhase
import Derived.Test.YtnkpefonocggfaaSLInt
import Derived.Test.YtnkpefonocggfaaTab
set_option linter.unusedVariables false
set_option maxRecDepth 20000
namespace Go.Proofs.Ytnkpefonocggfaa


/-- An element of the heap's memory. -/
structure El where
  key : Nat
  value : Int
  seq : Nat
  pos : Int
abbrev encEl (x : El) : List Value := [.int .u64 (x.key : Int), .int .i64 x.value, .int .u64 (x.seq : Int), .int .i64 x.pos]
theorem encEl4 (x : El) : (encEl x).length = 4 := rfl
abbrev encI (x : Int) : List Value := [.int .i64 x]
theorem encI1 (x : Int) : (encI x).length = 1 := rfl
abbrev ivs (l : List Int) : List Value := l.flatMap encI
abbrev encN (x : Nat) : List Value := [.int .i64 (x : Int)]
theorem encN1 (x : Nat) : (encN x).length = 1 := rfl
abbrev ivn (l : List Nat) : List Value := l.flatMap encN
abbrev BIG : Nat := 18446744073709551616
/-- What an element is ordered by. -/
def rk (E : List El) (h : Nat) : Nat := match E[h]? with
  | some x => x.key * 18446744073709551616 + x.seq
  | none => 0
theorem rk_of {E : List El} {h : Nat} {x : El} (hx : E[h]? = some x) : rk E h = x.key * 18446744073709551616 + x.seq := by rw [rk, hx]
theorem rk_lt {a b c d : Nat} (hb : b < 18446744073709551616) (hd : d < 18446744073709551616) : a * 18446744073709551616 + b < c * 18446744073709551616 + d ↔ a < c ∨ (a = c ∧ b < d) := by omega
def gt0 (l : List Nat) (i : Nat) : Nat := (l[i]?).getD 0
theorem gt0_of {l : List Nat} {i h : Nat} (hx : l[i]? = some h) : gt0 l i = h := by rw [gt0, hx]; rfl
abbrev rkl (E : List El) (l : List Nat) (i : Nat) : Nat := rk E (gt0 l i)
/-! the order of a tree with four children to one -/
def HOk (F : Nat → Nat) (n : Nat) : Prop := ∀ j, 0 < j → j < n → F ((j - 1) / 4) ≤ F j
def HGp (F : Nat → Nat) (n i : Nat) : Prop := 0 < i → ∀ c, c < n → 0 < c → (c - 1) / 4 = i → F ((i - 1) / 4) ≤ F c
structure HFix (F : Nat → Nat) (n i : Nat) : Prop where
  e : ∀ j, 0 < j → j < n → j ≠ i → (j - 1) / 4 ≠ i → F ((j - 1) / 4) ≤ F j
  gp : HGp F n i
structure HUp (F : Nat → Nat) (n i : Nat) : Prop where
  e : ∀ j, 0 < j → j < n → j ≠ i → F ((j - 1) / 4) ≤ F j
  gp : HGp F n i
structure HDown (F : Nat → Nat) (n i : Nat) : Prop where
  e : ∀ j, 0 < j → j < n → (j - 1) / 4 ≠ i → F ((j - 1) / 4) ≤ F j
  gp : HGp F n i
structure Swapped (F F' : Nat → Nat) (a b : Nat) : Prop where
  fa : F' a = F b
  fb : F' b = F a
  o : ∀ j, j ≠ a → j ≠ b → F' j = F j
theorem HUp.fix {F : Nat → Nat} {n i : Nat} (h : HUp F n i) : HFix F n i := ⟨fun j h1 h2 h3 _ => h.e j h1 h2 h3, h.gp⟩
theorem HOk.down {F : Nat → Nat} {n : Nat} (h : HOk F n) (i : Nat) (hi : i < n) : HDown F n i :=
  ⟨fun j h1 h2 _ => h j h1 h2, fun h0 c h1 h2 h3 => by
    have a := h i h0 hi
    have b := h c h2 h1
    rw [h3] at b; omega⟩
theorem up_step {F F' : Nat → Nat} {n i p : Nat} (h : HFix F n i) (hi : 0 < i) (hin : i < n) (hp : p = (i - 1) / 4) (hlt : F i < F p) (hs : Swapped F F' i p) : HUp F' n p := by
  have hpi : p < i := by omega
  have hpp : 0 < p → F ((p - 1) / 4) ≤ F p := fun h0 => h.e p h0 (by omega) (by omega) (by omega)
  constructor
  · intro j h1 h2 h3
    by_cases hj : j = i
    · subst hj
      rw [← hp, hs.fb, hs.fa]; omega
    · rw [hs.o j hj h3]
      by_cases hq : (j - 1) / 4 = i
      · rw [hq, hs.fa]
        have := h.gp hi j h2 h1 hq
        rw [← hp] at this; exact this
      · by_cases hq2 : (j - 1) / 4 = p
        · rw [hq2, hs.fb]
          have := h.e j h1 h2 hj hq
          rw [hq2] at this; omega
        · rw [hs.o _ hq hq2]; exact h.e j h1 h2 hj hq
  · intro h0 c h1 h2 h3
    have e1 : F' ((p - 1) / 4) = F ((p - 1) / 4) := hs.o _ (by omega) (by omega)
    have e2 := hpp h0
    rw [e1]
    by_cases hc : c = i
    · subst hc; rw [hs.fa]; exact e2
    · rw [hs.o c hc (by omega)]
      have := h.e c h2 h1 hc (by omega)
      rw [h3] at this; omega
theorem up_done {F : Nat → Nat} {n i i0 : Nat} (h : HFix F n i) (h0 : i = i0 ∨ HUp F n i) (hi0 : i0 < n) (hx : i = 0 ∨ F ((i - 1) / 4) ≤ F i) : HDown F n i0 := by
  rcases h0 with rfl | h0
  · exact ⟨fun j h1 h2 h3 => by
      by_cases hj : j = i
      · subst hj; rcases hx with hx | hx
        · omega
        · exact hx
      · exact h.e j h1 h2 hj h3, h.gp⟩
  · have hok : HOk F n := fun j h1 h2 => by
      by_cases hj : j = i
      · subst hj; rcases hx with hx | hx
        · omega
        · exact hx
      · exact h0.e j h1 h2 hj
    exact hok.down i0 hi0
theorem down_step {F F' : Nat → Nat} {n i m : Nat} (h : HDown F n i) (hm : m < n) (hc : 0 < m) (hcm : (m - 1) / 4 = i) (hlt : F m ≤ F i) (hmin : ∀ c, c < n → 0 < c → (c - 1) / 4 = i → F m ≤ F c) (hs : Swapped F F' i m) : HDown F' n m := by
  constructor
  · intro j h1 h2 h3
    by_cases hj : j = m
    · subst hj; rw [hcm, hs.fa, hs.fb]; omega
    · by_cases hji : j = i
      · subst hji
        rw [hs.fa, hs.o _ (by omega) h3]
        exact h.gp h1 m hm hc hcm
      · rw [hs.o j hji hj]
        by_cases hq : (j - 1) / 4 = i
        · rw [hq, hs.fa]; exact hmin j h2 h1 hq
        · rw [hs.o _ hq h3]; exact h.e j h1 h2 hq
  · intro h0 c h1 h2 h3
    rw [hcm, hs.fa, hs.o c (by omega) (by omega)]
    have := h.e c h2 h1 (by omega)
    rw [h3] at this; exact this
theorem down_done {F : Nat → Nat} {n i : Nat} (h : HDown F n i) (hmin : ∀ c, c < n → 0 < c → (c - 1) / 4 = i → F i ≤ F c) : HOk F n := fun j h1 h2 => by
  by_cases hq : (j - 1) / 4 = i
  · rw [hq]; exact hmin j h2 h1 hq
  · exact h.e j h1 h2 hq
theorem HOk.top {F : Nat → Nat} {n : Nat} (h : HOk F n) : ∀ j, j < n → F 0 ≤ F j := fun j => by
  induction j using Nat.strongRecOn with
  | ind j ih =>
    intro hj
    by_cases h0 : j = 0
    · subst h0; exact Nat.le_refl _
    · have := ih ((j - 1) / 4) (by omega) (by omega)
      have := h j (by omega) hj
      omega
theorem cut_fix {F F' : Nat → Nat} {n i : Nat} (h : HOk F (n + 1)) (hi : i < n) (hs : Swapped F F' i n) : HFix F' n i :=
  ⟨fun j h1 h2 h3 h4 => by rw [hs.o j h3 (by omega), hs.o _ h4 (by omega)]; exact h j h1 (by omega),
   fun h0 c h1 h2 h3 => by
    rw [hs.o c (by omega) (by omega), hs.o _ (by omega) (by omega)]
    have a := h i h0 (by omega)
    have b := h c h2 (by omega)
    rw [h3] at b; omega⟩
theorem add_fix {F F' : Nat → Nat} {n : Nat} (h : HOk F n) (hs : ∀ j, j < n → F' j = F j) : HFix F' (n + 1) n :=
  ⟨fun j h1 h2 h3 _ => by rw [hs j (by omega), hs _ (by omega)]; exact h j h1 (by omega), fun h0 c h1 h2 h3 => by omega⟩
theorem add_ok {F : Nat → Nat} {n : Nat} (h : HDown F (n + 1) n) : HOk F (n + 1) := down_done h (fun c h1 h2 h3 => by omega)
theorem key_fix {F F' : Nat → Nat} {n i : Nat} (h : HOk F n) (hi : i < n) (hs : ∀ j, j ≠ i → F' j = F j) : HFix F' n i :=
  ⟨fun j h1 h2 h3 h4 => by rw [hs j h3, hs _ h4]; exact h j h1 h2, fun h0 c h1 h2 h3 => by
    rw [hs c (by omega), hs _ (by omega)]
    have a := h i h0 hi
    have b := h c h2 h1
    rw [h3] at b; omega⟩
theorem HOk.cong {F F' : Nat → Nat} {n : Nat} (h : HOk F n) (e : ∀ j, j < n → F' j = F j) : HOk F' n := fun j h1 h2 => by rw [e j h2, e _ (by omega)]; exact h j h1 h2
theorem HFix.cong {F F' : Nat → Nat} {n i : Nat} (h : HFix F n i) (hi : i < n) (e : ∀ j, j < n → F' j = F j) : HFix F' n i :=
  ⟨fun j h1 h2 h3 h4 => by rw [e j h2, e _ (by omega)]; exact h.e j h1 h2 h3 h4, fun h0 c h1 h2 h3 => by rw [e c h1, e _ (by omega)]; exact h.gp h0 c h1 h2 h3⟩
/-! where elements are -/
def setp (E : List El) (h : Nat) (i : Int) : List El := E.modify h (fun x => { x with pos := i })
theorem setp_of {E : List El} {h : Nat} {x : El} (hx : E[h]? = some x) (i : Int) : E.set h { x with pos := i } = setp E h i := by
  apply List.ext_getElem?
  intro k
  rw [setp, List.getElem?_modify, List.getElem?_set]
  by_cases e : h = k
  · subst e
    rw [if_pos rfl, if_pos (List.getElem?_eq_some_iff.1 hx).1, hx]
    simp
  · simp [e]
theorem setp_len (E : List El) (h : Nat) (i : Int) : (setp E h i).length = E.length := by rw [setp, List.length_modify]
theorem setp_get {E : List El} {h k : Nat} {x : El} {i : Int} (hx : E[k]? = some x) : (setp E h i)[k]? = some (if h = k then { x with pos := i } else x) := by
  rw [setp, List.getElem?_modify, hx]
  by_cases e : h = k <;> simp [e]
theorem setp_back {E : List El} {h k : Nat} {x : El} {i : Int} (hx : (setp E h i)[k]? = some x) : ∃ y, E[k]? = some y ∧ x = (if h = k then { y with pos := i } else y) := by
  cases hy : E[k]? with
  | none => rw [setp, List.getElem?_modify, hy] at hx; by_cases e : h = k <;> simp [e] at hx
  | some y => rw [setp_get hy] at hx; exact ⟨y, rfl, (Option.some.inj hx).symm⟩
def sw (l : List Nat) (a b : Nat) : List Nat := (l.set a (gt0 l b)).set b (gt0 l a)
theorem sw_len (l : List Nat) (a b : Nat) : (sw l a b).length = l.length := by rw [sw, List.length_set, List.length_set]
theorem sw_get {l : List Nat} {a b : Nat} (ha : a < l.length) (hb : b < l.length) (i : Nat) : (sw l a b)[i]? = if i = b then some (gt0 l a) else if i = a then some (gt0 l b) else l[i]? := by
  rw [sw, List.getElem?_set, List.getElem?_set, List.length_set]
  by_cases e1 : b = i
  · subst e1; simp [hb]
  · by_cases e2 : a = i
    · subst e2; simp [e1, Ne.symm e1, ha]
    · simp [e1, e2, Ne.symm e1, Ne.symm e2]
theorem sw_swapped (F : Nat → Nat) {l : List Nat} {a b : Nat} (ha : a < l.length) (hb : b < l.length) : Swapped (fun i => F (gt0 l i)) (fun i => F (gt0 (sw l a b) i)) a b := by
  refine ⟨?_, ?_, ?_⟩
  · rw [show gt0 (sw l a b) a = gt0 l b from by
      rw [gt0, sw_get ha hb]
      by_cases e : a = b
      · subst e; simp
      · simp [e]]
  · rw [gt0, sw_get ha hb]; simp
  · intro j h1 h2; rw [gt0, sw_get ha hb]; simp [h1, h2, gt0]
theorem set_cnt {l : List Nat} {i x : Nat} (h : l[i]? = some x) (y z : Nat) : (l.set i y).count z + (if x = z then 1 else 0) = l.count z + (if y = z then 1 else 0) := by
  induction l generalizing i with
  | nil => simp at h
  | cons w l ih =>
    cases i with
    | zero =>
      simp only [List.getElem?_cons_zero, Option.some.injEq] at h
      subst h
      simp only [List.set_cons_zero, List.count_cons, beq_iff_eq]; omega
    | succ i =>
      have := ih (i := i) (by simpa using h)
      simp only [List.set_cons_succ, List.count_cons, beq_iff_eq]; omega
theorem sw_perm {l : List Nat} {a b : Nat} (ha : a < l.length) (hb : b < l.length) : (sw l a b).Perm l := by
  rw [List.perm_iff_count]
  intro z
  have h1 := set_cnt (l := l) (i := a) (x := gt0 l a) (by rw [gt0, List.getElem?_eq_getElem ha]; rfl) (gt0 l b) z
  have h2 := set_cnt (l := l.set a (gt0 l b)) (i := b) (x := gt0 l b) (by
    rw [List.getElem?_set]
    by_cases e : a = b
    · subst e; simp [ha]
    · rw [if_neg e, gt0, List.getElem?_eq_getElem hb]; rfl) (gt0 l a) z
  rw [sw]; omega
/-- The elements E0 with the places of l. -/
structure St (E0 E : List El) (l : List Nat) : Prop where
  len : E.length = E0.length
  same : ∀ (h : Nat) (x0 : El), E0[h]? = some x0 → ∃ x, E[h]? = some x ∧ x.key = x0.key ∧ x.value = x0.value ∧ x.seq = x0.seq ∧ (h ∉ l → x.pos = x0.pos)
  pos : ∀ (i h : Nat), l[i]? = some h → ∃ x, E[h]? = some x ∧ x.pos = (i : Int)
  sq : ∀ (h : Nat) (x : El), E[h]? = some x → x.seq < 18446744073709551616
theorem St.nodup {E0 E : List El} {l : List Nat} (s : St E0 E l) : l.Nodup := by
  rw [List.Nodup, List.pairwise_iff_getElem]
  intro i j hi hj hij e
  obtain ⟨x, hx, px⟩ := s.pos j _ (List.getElem?_eq_getElem hj)
  obtain ⟨y, hy, py⟩ := s.pos i _ (List.getElem?_eq_getElem hi)
  rw [e] at hy
  rw [hx] at hy
  have := Option.some.inj hy
  subst this
  omega
theorem St.rk {E0 E : List El} {l : List Nat} (s : St E0 E l) (h : Nat) : rk E h = rk E0 h := by
  cases hx : E0[h]? with
  | none =>
    have : E0.length ≤ h := List.getElem?_eq_none_iff.1 hx
    have hy : E[h]? = none := List.getElem?_eq_none_iff.2 (by rw [s.len]; exact this)
    rw [Go.Proofs.Ytnkpefonocggfaa.rk, Go.Proofs.Ytnkpefonocggfaa.rk, hx, hy]
  | some x0 =>
    obtain ⟨x, h1, h2, _, h4, _⟩ := s.same h x0 hx
    rw [rk_of h1, rk_of hx, h2, h4]
theorem St.get {E0 E : List El} {l : List Nat} (s : St E0 E l) {i : Nat} (hi : i < l.length) : ∃ h x, l[i]? = some h ∧ gt0 l i = h ∧ E[h]? = some x ∧ x.pos = (i : Int) := by
  obtain ⟨h, hh⟩ : ∃ h, l[i]? = some h := ⟨_, List.getElem?_eq_getElem hi⟩
  obtain ⟨x, hx, px⟩ := s.pos i h hh
  exact ⟨h, x, hh, gt0_of hh, hx, px⟩
theorem St.self {E0 E : List El} {l l2 : List Nat} (s : St E0 E l) (h : ∀ (i h : Nat), l2[i]? = some h → l[i]? = some h) : St E E l2 :=
  ⟨rfl, fun h x hx => ⟨x, hx, rfl, rfl, rfl, fun _ => rfl⟩, fun i k hk => s.pos i k (h i k hk), s.sq⟩
theorem sw_mem {l : List Nat} {a b : Nat} (ha : a < l.length) (hb : b < l.length) (h : Nat) : h ∈ sw l a b ↔ h ∈ l := (sw_perm ha hb).mem_iff
theorem st_swap {E0 E : List El} {l : List Nat} {a b : Nat} (s : St E0 E l) (ha : a < l.length) (hb : b < l.length) : St E0 (setp (setp E (gt0 l b) a) (gt0 l a) b) (sw l a b) := by
  obtain ⟨x, ex, hx, gx, hex, px⟩ := s.get ha
  obtain ⟨y, ey, hy, gy, hey, py⟩ := s.get hb
  rw [gx, gy]
  have hne : a ≠ b → x ≠ y := fun e1 e2 => by
    subst e2
    rw [hex] at hey
    have := Option.some.inj hey
    subst this
    omega
  refine ⟨by rw [setp_len, setp_len, s.len], fun h x0 h0 => ?_, fun i h hh => ?_, fun h z hz => ?_⟩
  · obtain ⟨z, h1, h2, h3, h4, h5⟩ := s.same h x0 h0
    refine ⟨_, setp_get (setp_get h1), ?_⟩
    by_cases e1 : x = h
    · subst e1
      rw [if_pos rfl]
      by_cases e2 : y = x
      · rw [if_pos e2]; exact ⟨h2, h3, h4, fun h9 => absurd ((sw_mem ha hb _).2 (List.mem_of_getElem? hx)) h9⟩
      · rw [if_neg e2]; exact ⟨h2, h3, h4, fun h9 => absurd ((sw_mem ha hb _).2 (List.mem_of_getElem? hx)) h9⟩
    · rw [if_neg e1]
      by_cases e2 : y = h
      · subst e2
        rw [if_pos rfl]; exact ⟨h2, h3, h4, fun h9 => absurd ((sw_mem ha hb _).2 (List.mem_of_getElem? hy)) h9⟩
      · rw [if_neg e2]; exact ⟨h2, h3, h4, fun h9 => h5 (fun h8 => h9 ((sw_mem ha hb _).2 h8))⟩
  · rw [sw_get ha hb, gx, gy] at hh
    by_cases e1 : i = b
    · rw [if_pos e1] at hh
      have := Option.some.inj hh
      subst this
      exact ⟨_, setp_get (setp_get hex), by rw [if_pos rfl, e1]⟩
    · rw [if_neg e1] at hh
      by_cases e2 : i = a
      · rw [if_pos e2] at hh
        have := Option.some.inj hh
        subst this
        exact ⟨_, setp_get (setp_get hey), by rw [if_neg (hne (by omega)), if_pos rfl, e2]⟩
      · rw [if_neg e2] at hh
        obtain ⟨z, hz, pz⟩ := s.pos i h hh
        refine ⟨_, setp_get (setp_get hz), ?_⟩
        have n1 : x ≠ h := fun e => by
          subst e; rw [hex] at hz
          have := Option.some.inj hz
          subst this; omega
        have n2 : y ≠ h := fun e => by
          subst e; rw [hey] at hz
          have := Option.some.inj hz
          subst this; omega
        rw [if_neg n1, if_neg n2]; exact pz
  · obtain ⟨u, hu, rfl⟩ := setp_back hz
    obtain ⟨v, hv, rfl⟩ := setp_back hu
    have := s.sq h v hv
    by_cases e1 : x = h <;> by_cases e2 : y = h <;> simp [e1, e2] <;> exact this
theorem st_add {E : List El} {l : List Nat} {h : Nat} {x : El} (s : St E E l) (hh : E[h]? = some x) (hn : h ∉ l) : St E (setp E h (l.length : Int)) (l ++ [h]) := by
  refine ⟨setp_len .., fun k x0 h0 => ?_, fun i k hk => ?_, fun k z hz => ?_⟩
  · refine ⟨_, setp_get h0, ?_⟩
    by_cases e : h = k
    · subst e; rw [if_pos rfl]; exact ⟨rfl, rfl, rfl, fun h9 => absurd (List.mem_append_right _ (List.mem_singleton.2 rfl)) h9⟩
    · rw [if_neg e]; exact ⟨rfl, rfl, rfl, fun _ => rfl⟩
  · by_cases hi : i < l.length
    · rw [List.getElem?_append_left hi] at hk
      obtain ⟨z, hz, pz⟩ := s.pos i k hk
      refine ⟨_, setp_get hz, ?_⟩
      rw [if_neg (fun e => hn (by rw [e]; exact List.mem_of_getElem? hk))]; exact pz
    · have hi2 := (List.getElem?_eq_some_iff.1 hk).1
      rw [List.length_append, List.length_singleton] at hi2
      have e1 : i = l.length := by omega
      subst e1
      rw [List.getElem?_append_right (Nat.le_refl _), Nat.sub_self] at hk
      have := Option.some.inj hk
      subst this
      exact ⟨_, setp_get hh, by rw [if_pos rfl]⟩
  · obtain ⟨u, hu, rfl⟩ := setp_back hz
    have := s.sq k u hu
    by_cases e : h = k <;> simp [e] <;> exact this

end Go.Proofs.Ytnkpefonocggfaa
