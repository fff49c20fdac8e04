/-
  Chapter 07 (slot), part HoldL: contracts of functions that the laws call, each for the heap it names.
-/
import Derived.Test.YtnolalkkdigcbaaRows
import Derived.Test.YtnolalkkdigcbaaSLArr
import Derived.Test.YtnolalkkdigcbaaTab
import Derived.Test.YtnolalkkdigcbaaPlay
set_option linter.unusedVariables false
set_option maxRecDepth 20000
namespace Go.Proofs.Ytnolalkkdigcbaa


/-- Each name of a number counts the ones before it. -/
def Gens (L : List Fl) : Prop := ∀ (a : Nat) (y : Fl), L[a]? = some y → y.gen = (cntTo L y.n a : Int)
structure Ok (T : List Pl) (L : List Fl) : Prop where
  alike : Alike T L
  gens : Gens L
theorem cntTo_mono (L : List Fl) (n : Int) (a : Nat) : ∀ d, cntTo L n a ≤ cntTo L n (a + d)
  | 0 => Nat.le_refl _
  | d + 1 => by
    have := cntTo_mono L n a d
    rw [← Nat.add_assoc]
    simp only [cntTo]
    omega
theorem cntTo_lt {L : List Fl} {n : Int} {a b : Nat} {y : Fl} (h : L[a]? = some y) (e : y.n = n) (hab : a < b) : cntTo L n a < cntTo L n b := by
  have h1 := cntTo_succ (n := n) h
  rw [if_pos e] at h1
  have h2 := cntTo_mono L n (a + 1) (b - (a + 1))
  rw [show a + 1 + (b - (a + 1)) = b from by omega] at h2
  omega
theorem Gens.inj {L : List Fl} (h : Gens L) {a b : Nat} {y z : Fl} (hy : L[a]? = some y) (hz : L[b]? = some z) (hn : y.n = z.n) (hg : y.gen = z.gen) : a = b := by
  have h1 := h a y hy
  have h2 := h b z hz
  rw [hg, h2, hn] at h1
  rcases Nat.lt_trichotomy a b with hlt | rfl | hlt
  · have := cntTo_lt hy hn hlt; omega
  · rfl
  · have := cntTo_lt hz rfl hlt; omega
theorem Ok.num {T : List Pl} {L : List Fl} (h : Ok T L) {a : Nat} {y : Fl} (hy : L[a]? = some y) (hc : y.closed = false) : ∃ (i : Nat) (x : Pl), OpenAt T y.n y.gen i x ∧ x.value = y.value ∧ Open1 L (i : Int) a ⟨i, x.given - 1, x.value, false⟩ ∧ y = ⟨i, x.given - 1, x.value, false⟩ := by
  have hr : ¬ (y.n < 0 ∨ (T.length : Int) ≤ y.n) := fun hr => by
    have := h.alike.out y.n hr a y hy rfl
    rw [this] at hc; cases hc
  obtain ⟨i, hi⟩ := Int.eq_ofNat_of_zero_le (show 0 ≤ y.n by omega)
  obtain ⟨x, hx⟩ := ex_of (T := T) (i := i) (by omega)
  cases ho : x.opn with
  | false =>
    have := h.alike.no i x hx ho a y hy hi
    rw [this] at hc; cases hc
  | true =>
    obtain ⟨j, hj⟩ := h.alike.yes i x hx ho
    obtain rfl := hj.one a y hy hi hc
    have e : y = ⟨i, x.given - 1, x.value, false⟩ := Option.some.inj (hy.symm.trans hj.at_)
    exact ⟨i, x, ⟨hi, hx, ho, by rw [e]⟩, by rw [e], hj, e⟩
theorem Ok.shut {T : List Pl} {L : List Fl} (h : Ok T L) {a : Nat} {y : Fl} (hy : L[a]? = some y) (hc : y.closed = true) : NoneAt T y.n y.gen := by
  rintro i x ⟨h1, h2, h3, h4⟩
  obtain ⟨j, hj⟩ := h.alike.yes i x h2 h3
  have := h.gens.inj hy hj.at_ h1 h4
  subst this
  rw [hj.at_] at hy
  cases hy; cases hc
theorem Ok.new {T : List Pl} {L : List Fl} (h : Ok T L) {i : Nat} {x : Pl} (hx : T[i]? = some x) {a : Nat} {y : Fl} (hy : L[a]? = some y) (hn : y.n = (i : Int)) : y.gen ≠ x.given := by
  have h1 := h.gens a y hy
  have h2 := h.alike.cnt i x hx
  have hl : a < L.length := (List.getElem?_eq_some_iff.1 hy).1
  have h3 := cntTo_lt (n := (i : Int)) hy hn hl
  rw [h1, h2, hn]
  have h4 : cnt L (i : Int) = cntTo L (i : Int) L.length := rfl
  omega
theorem gens_app {L : List Fl} (h : Gens L) (n v : Int) (c : Bool) : Gens (L ++ [⟨n, cnt L n, v, c⟩]) := by
  intro a y hy
  rw [List.getElem?_append] at hy
  split at hy
  · rename_i hl
    rw [cntTo_app L _ _ _ (by omega)]
    exact h a y hy
  · rw [List.getElem?_singleton] at hy
    split at hy
    · cases hy
      obtain rfl : a = L.length := by omega
      rw [cntTo_app L _ _ _ (Nat.le_refl _)]
    · cases hy
theorem gens_set {L : List Fl} (h : Gens L) {j : Nat} {f f' : Fl} (hj : L[j]? = some f) (hn : f'.n = f.n) (hg : f'.gen = f.gen) : Gens (L.set j f') := by
  intro a y hy
  rw [cntTo_set hj hn]
  by_cases e : j = a
  · subst e
    have hl : j < L.length := (List.getElem?_eq_some_iff.1 hj).1
    have : (L.set j f')[j]? = some f' := by simp [hl]
    rw [this] at hy
    cases hy
    rw [hg, hn]; exact h j f hj
  · rw [List.getElem?_set, if_neg e] at hy
    exact h a y hy
/-- The list with the first a places turned by f. -/
def midL (f : Fl → Fl) (L : List Fl) (a : Nat) : List Fl := (L.take a).map f ++ L.drop a
theorem midL_zero (f : Fl → Fl) (L : List Fl) : midL f L 0 = L := by simp [midL]
theorem midL_all (f : Fl → Fl) (L : List Fl) : midL f L L.length = L.map f := by simp [midL]
theorem midL_len (f : Fl → Fl) (L : List Fl) (a : Nat) : (midL f L a).length = L.length := by simp [midL]; omega
theorem midL_at {f : Fl → Fl} {L : List Fl} {a : Nat} {y : Fl} (h : L[a]? = some y) : (midL f L a)[a]? = some y := by
  have hl : a < L.length := (List.getElem?_eq_some_iff.1 h).1
  rw [midL, List.getElem?_append_right (by simp; omega)]
  simp [Nat.min_eq_left (Nat.le_of_lt hl), h]
theorem midL_succ {f : Fl → Fl} {L : List Fl} {a : Nat} {y : Fl} (h : L[a]? = some y) : midL f L (a + 1) = (midL f L a).set a (f y) := by
  have hl : a < L.length := (List.getElem?_eq_some_iff.1 h).1
  have e : L.drop a = y :: L.drop (a + 1) := by
    rw [List.drop_eq_getElem_cons hl]
    congr 1
    exact (List.getElem?_eq_some_iff.1 h).2
  have e2 : L.take (a + 1) = L.take a ++ [y] := by
    rw [List.take_add_one, h]; rfl
  unfold midL
  rw [e, e2, List.map_append, List.append_assoc, List.set_append_right _ _ (by simp; omega)]
  simp [Nat.min_eq_left (Nat.le_of_lt hl)]
theorem midL_same {f : Fl → Fl} {L : List Fl} {a : Nat} {y : Fl} (h : L[a]? = some y) (e : f y = y) : midL f L (a + 1) = midL f L a := by
  rw [midL_succ h, e]
  have hl : a < (midL f L a).length := (List.getElem?_eq_some_iff.1 (midL_at (f := f) h)).1
  apply List.ext_getElem?
  intro x
  by_cases hx : a = x
  · subst hx
    rw [midL_at h]
    simp [hl]
  · rw [List.getElem?_set, if_neg hx]
/-- Is z the open entry of a name? -/
def hit (n g : Int) (z : Fl) : Bool := decide (z.n = n) && decide (z.gen = g) && !z.closed
theorem hit_iff {n g : Int} {z : Fl} : hit n g z = true ↔ z.n = n ∧ z.gen = g ∧ z.closed = false := by simp [hit, and_assoc]
def mark (n g : Int) (z : Fl) : Fl := if hit n g z then { z with closed := true } else z
def upd (n g v : Int) (z : Fl) : Fl := if hit n g z then { z with value := v } else z
theorem map_one {L : List Fl} {f : Fl → Fl} {j : Nat} {y : Fl} (hy : L[j]? = some y) (h : ∀ (a : Nat) (z : Fl), a ≠ j → L[a]? = some z → f z = z) : L.map f = L.set j (f y) := by
  have hl : j < L.length := (List.getElem?_eq_some_iff.1 hy).1
  apply List.ext_getElem?
  intro a
  by_cases e : j = a
  · subst e; rw [List.getElem?_map, hy]; simp [hl]
  · rw [List.getElem?_set, if_neg e, List.getElem?_map]
    cases hz : L[a]? with
    | none => rfl
    | some z => simp [h a z (Ne.symm e) hz]
theorem map_none {L : List Fl} {f : Fl → Fl} (h : ∀ (a : Nat) (z : Fl), L[a]? = some z → f z = z) : L.map f = L := by
  apply List.ext_getElem?
  intro a
  rw [List.getElem?_map]
  cases hz : L[a]? with
  | none => rfl
  | some z => simp [h a z hz]
/-- A name that is open: the one entry; else none is hit. -/
theorem Ok.find {T : List Pl} {L : List Fl} (h : Ok T L) (n g : Int) :
    (∃ i x j, OpenAt T n g i x ∧ L[j]? = some ⟨n, g, x.value, false⟩ ∧ Open1 L (i : Int) j ⟨i, x.given - 1, x.value, false⟩ ∧ ∀ (a : Nat) (z : Fl), a ≠ j → L[a]? = some z → hit n g z = false) ∨
    (NoneAt T n g ∧ ∀ (a : Nat) (z : Fl), L[a]? = some z → hit n g z = false) := by
  by_cases hx : ∃ i x, OpenAt T n g i x
  · left
    obtain ⟨i, x, ho⟩ := hx
    obtain ⟨j, hj, hg⟩ := h.alike.some ho
    have hn : n = (i : Int) := ho.1
    subst hn
    refine ⟨i, x, j, ho, by rw [hj.at_, hg], hj, fun a z ha hz => ?_⟩
    cases hh : hit (i : Int) g z with
    | false => rfl
    | true =>
      obtain ⟨h1, h2, h3⟩ := hit_iff.1 hh
      exact absurd (hj.one a z hz h1 h3) ha
  · right
    have hno : NoneAt T n g := fun i x e => hx ⟨i, x, e⟩
    refine ⟨hno, fun a z hz => ?_⟩
    cases hh : hit n g z with
    | false => rfl
    | true =>
      obtain ⟨h1, h2, h3⟩ := hit_iff.1 hh
      obtain ⟨i, x, ho, _⟩ := h.num hz h3
      rw [h1, h2] at ho
      exact absurd ho (hno i x)

theorem ok_upd {T : List Pl} {L : List Fl} (h : Ok T L) {i : Nat} {x y : Pl} (hx : T[i]? = some x) (ho : x.opn = true) {j : Nat} (hj : Open1 L (i : Int) j ⟨i, x.given - 1, x.value, false⟩) (hy : y.given = x.given) {f : Fl}
    (hf : f = ⟨i, y.given - 1, y.value, !y.opn⟩) : Ok (T.set i y) (L.set j f) :=
  ⟨alike_upd h.alike hx ho hj hy hf, gens_set h.gens hj.at_ (by rw [hf]) (by rw [hf, hy])⟩
theorem hclose (p pb c : Nat) (tl : List Value) (T : List Pl) (hT : Fine T) (L : List Fl) (ho : Ok T L) (hlen : L.length ≤ 999) (n g : Int) : Spec Try.prog 17 [ptr p, fdV n g] (tabH p pb c tl T)
    (fun r H' => ∃ v e T', r = .tuple #[.int .i64 v, .int .i64 e] ∧ H' = tabH p pb c tl T' ∧ T'.length = T.length ∧ Fine T' ∧ Ok T' (L.map (mark n g)) ∧ ∀ z ∈ L, hit n g z = true → e = 0) := by
  rcases ho.find n g with ⟨i, x, j, h, hj, hj1, hh⟩ | ⟨h, hh⟩
  · refine (close_yes p pb c tl T hT n g i x h).mono fun r H' hp => ?_
    have hm : L.map (mark n g) = L.set j ⟨n, g, x.value, true⟩ := by
      rw [map_one hj (fun a z ha hz => by rw [mark, hh a z ha hz]; rfl)]
      simp [mark, hit]
    refine ⟨_, _, T.set i { x with opn := false }, hp.1, hp.2, List.length_set, fine_set hT i _ (show 0 ≤ x.given ∧ x.given ≤ 1000000 from hT.bd h.2.1), ?_, fun _ _ _ => rfl⟩
    rw [hm]
    obtain ⟨rfl, h2, h3, rfl⟩ := h
    exact ok_upd (y := { x with opn := false }) ho h2 h3 hj1 rfl rfl
  · refine (close_no p pb c tl T hT n g h).mono fun r H' hp => ?_
    refine ⟨_, _, T, hp.1, hp.2, rfl, hT, ?_, fun z hz hit => ?_⟩
    · rw [map_none (fun a z hz => by rw [mark, hh a z hz]; rfl)]; exact ho
    · obtain ⟨a, ha⟩ := List.mem_iff_getElem?.1 hz
      rw [hh a z ha] at hit; cases hit
theorem hset (p pb c : Nat) (tl : List Value) (T : List Pl) (hT : Fine T) (L : List Fl) (ho : Ok T L) (hlen : L.length ≤ 999) (n g v : Int) : Spec Try.prog 16 [ptr p, fdV n g, .int .i64 v] (tabH p pb c tl T)
    (fun r H' => ∃ e T', r = .int .i64 e ∧ H' = tabH p pb c tl T' ∧ T'.length = T.length ∧ Fine T' ∧ Ok T' (L.map (upd n g v)) ∧ ∀ z ∈ L, hit n g z = true → e = 0) := by
  rcases ho.find n g with ⟨i, x, j, h, hj, hj1, hh⟩ | ⟨h, hh⟩
  · refine (set_yes p pb c tl T hT n g v i x h).mono fun r H' hp => ?_
    have hm : L.map (upd n g v) = L.set j ⟨n, g, v, false⟩ := by
      rw [map_one hj (fun a z ha hz => by rw [upd, hh a z ha hz]; rfl)]
      simp [upd, hit]
    refine ⟨_, T.set i { x with value := v }, hp.1, hp.2, List.length_set, fine_set hT i _ (show 0 ≤ x.given ∧ x.given ≤ 1000000 from hT.bd h.2.1), ?_, fun _ _ _ => rfl⟩
    rw [hm]
    obtain ⟨rfl, h2, h3, rfl⟩ := h
    exact ok_upd (y := { x with value := v }) ho h2 h3 hj1 rfl (by simp [h3])
  · refine (set_no p pb c tl T hT n g v h).mono fun r H' hp => ?_
    refine ⟨_, T, hp.1, hp.2, rfl, hT, ?_, fun z hz hit => ?_⟩
    · rw [map_none (fun a z hz => by rw [upd, hh a z hz]; rfl)]; exact ho
    · obtain ⟨a, ha⟩ := List.mem_iff_getElem?.1 hz
      rw [hh a z ha] at hit; cases hit
theorem hget (p pb c : Nat) (tl : List Value) (T : List Pl) (hT : Fine T) (L : List Fl) (ho : Ok T L) (hlen : L.length ≤ 999) (a : Nat) (y : Fl) (hy : L[a]? = some y) : Spec Try.prog 18 [ptr p, fdV y.n y.gen] (tabH p pb c tl T)
    (fun r H' => ∃ v e, r = .tuple #[.int .i64 v, .int .i64 e] ∧ H' = tabH p pb c tl T ∧ (y.closed = true → e = 9) ∧ (y.closed = false → v = y.value ∧ e = 0)) := by
  cases hc : y.closed with
  | true => exact (get_no p pb c tl T hT _ _ (ho.shut hy hc)).mono fun r H' hp => ⟨_, _, hp.1, hp.2, fun _ => rfl, fun e => Bool.noConfusion e⟩
  | false =>
    obtain ⟨i, x, h, hv, _, _⟩ := ho.num hy hc
    exact (get_yes p pb c tl T hT _ _ i x h).mono fun r H' hp => ⟨x.value, 0, hp.1, hp.2, fun e => Bool.noConfusion e, fun _ => ⟨hv, rfl⟩⟩
theorem hopen (p pb c : Nat) (tl : List Value) (T : List Pl) (hT : Fine T) (L : List Fl) (ho : Ok T L) (hlen : L.length ≤ 999) (v : Int) : Spec Try.prog 14 [ptr p, .int .i64 v] (tabH p pb c tl T)
    (fun r H' => ∃ n g e T', r = .tuple #[fdV n g, .int .i64 e] ∧ H' = tabH p pb c tl T' ∧ T'.length = T.length ∧ Fine T' ∧ ((e = 7 ∧ Ok T' L) ∨ (e = 0 ∧ 0 ≤ n ∧ n < (T.length : Int) ∧ (∀ z ∈ L, ¬ (n = z.n ∧ g = z.gen)) ∧ Ok T' (L ++ [⟨n, g, v, false⟩])))) := by
  rcases closed_or T with h | ⟨i, x, hx, hxo, hl⟩
  · exact (open_full p pb c tl T hT v h).mono fun r H' hp => ⟨0, 0, 7, T, hp.1, hp.2, rfl, hT, .inl ⟨rfl, ho⟩⟩
  · refine (open_at p pb c tl T hT v i x hx hxo hl).mono fun r H' hp => ?_
    have hi := lt_of hx
    have hg := ho.alike.cnt i x hx
    have hle : cnt L (i : Int) ≤ L.length := cntTo_le L (i : Int) L.length
    refine ⟨i, x.given, 0, _, hp.1, hp.2, List.length_set, fine_set hT i _ (by dsimp only; omega), .inr ⟨rfl, by omega, by omega, fun z hz hc => ?_, ?_, ?_⟩⟩
    · obtain ⟨a, ha⟩ := List.mem_iff_getElem?.1 hz
      exact ho.new hx ha hc.1.symm hc.2.symm
    · rw [hg]
      have := alike_open ho.alike hx hxo v
      rw [hg] at this
      exact this
    · rw [hg]; exact gens_app ho.gens _ _ _
/-- The name that At gives, and what comes of it. -/
theorem hat_any (p pb c : Nat) (tl : List Value) (T : List Pl) (hT : Fine T) (n : Int) : Spec Try.prog 15 [ptr p, .int .i64 n] (tabH p pb c tl T) (fun r H' => ∃ a b e, r = .tuple #[fdV a b, .int .i64 e] ∧ H' = tabH p pb c tl T) := by
  by_cases h : ∃ (i : Nat) (x : Pl), n = (i : Int) ∧ T[i]? = some x ∧ x.opn = true
  · obtain ⟨i, x, rfl, hx, ho⟩ := h
    exact (at_yes p pb c tl T hT i x hx ho).mono fun r H' hp => ⟨_, _, _, hp.1, hp.2⟩
  · exact (at_no p pb c tl T hT n (fun i x e hx => by
      cases ho : x.opn with
      | false => rfl
      | true => exact absurd ⟨i, x, e, hx, ho⟩ h)).mono fun r H' hp => ⟨_, _, _, hp.1, hp.2⟩

end Go.Proofs.Ytnolalkkdigcbaa
