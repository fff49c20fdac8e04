/-
  Chapter 48 (balance), part BalP: contracts of functions that the laws call, each for the heap it names.
-/
import Derived.Test.YtiokpmgbabpikaaBal3
set_option linter.unusedVariables false
set_option maxRecDepth 20000
namespace Go.Proofs.Ytiokpmgbabpikaa


theorem alB_last (b : Br) (now : Nat) : (alB b now).last = now := by unfold alB; split <;> (try split) <;> rfl
theorem alB_gen (b : Br) (now : Nat) : b.gen ≤ (alB b now).gen := by unfold alB; split <;> (try split) <;> (dsimp only; omega)
theorem dnK_last (b : Br) (now : Nat) (gn : Int) (good : Bool) : (dnK b now gn good).last = now := by unfold dnK dnB; (repeat' split) <;> rfl
theorem dnK_gen (b : Br) (now : Nat) (gn : Int) (good : Bool) : b.gen ≤ (dnK b now gn good).gen := by unfold dnK dnB; (repeat' split) <;> first | exact Int.le_refl _ | (dsimp only; omega)
theorem fit_dnK {b : Br} (hf : Fit b) (hg : b.gen ≤ 900000) {now : Nat} (h : b.last ≤ now ∧ now ≤ 18446744073709551614) (gn : Int) (good : Bool) : Fit (dnK b now gn good) ∧ (dnK b now gn good).gen ≤ b.gen + 1 := by
  unfold dnK
  split
  · exact fit_dn hf hg h good
  · exact ⟨fit_last hf h, by dsimp only; omega⟩
theorem turnN_lt {n : Nat} {i : Int} (h0 : 0 ≤ i) (h : i < n) : turnN n i < n := by unfold turnN; split <;> omega
theorem set_mem {α : Type} {L : List α} {i : Nat} {y x : α} (h : x ∈ L.set i y) : x = y ∨ x ∈ L := by
  obtain ⟨j, hj⟩ := List.mem_iff_getElem?.1 h
  rw [List.getElem?_set] at hj
  split at hj
  · split at hj
    · exact .inl (Option.some.inj hj).symm
    · cases hj
  · exact .inr (List.mem_of_getElem? hj)
theorem pickS_len (k : Nat) (L : List Bk) (now : Nat) (l : List Int) (i : Nat) : (pickS k L now l i).length = L.length := by unfold pickS; rw [List.length_set, pickL_len]
theorem BalIs.pick {N : Nat} {m : Bm} {C : List Cl} (hm : BalIs N m C) (hN : N ≤ 9000) {now : Nat} (h1 : m.last ≤ now) (h2 : now ≤ 18446744073709551614) {i : Nat} {x : Bk} (hx : m.L[i]? = some x) (hr : rdB x.b now)
    (hne : cand m.L now ≠ []) {es : Array MapEntry} {mc : Nat} (mp : Mp (.int .i64) ekI evC es ((((m.gv + 1 : Nat) : Int), ((i : Int), (alB x.b now).gen)) :: C)) :
    BalIs (N + 1) { m with L := pickS m.k m.L now (cand m.L now) i, nx := pickN m.k m.n m.nx (cand m.L now), gv := m.gv + 1, last := now, es := es, mc := mc } ((((m.gv + 1 : Nat) : Int), ((i : Int), (alB x.b now).gen)) :: C) := by
  have hin : ∀ a ∈ cand m.L now, ∃ (i : Nat) (x : Bk), a = (i : Int) ∧ m.L[i]? = some x := fun a ha => by
    obtain ⟨i, x, h1, h2, _⟩ := cand_mem ha
    exact ⟨i, x, h1, h2⟩
  have hlb : (cand m.L now).length ≤ 64 := Nat.le_trans (candK_len _ _ _) (by rw [hm.hn]; exact hm.n.2)
  have hil := (List.getElem?_eq_some_iff.1 hx).1
  have hfx := hm.fit x (List.mem_of_getElem? hx)
  have hal := fit_al hfx.1 (by have := hfx.2.2; omega) ⟨Nat.le_trans hfx.2.1 h1, h2⟩ hr
  have hag := alB_gen x.b now
  have key : ∀ {j : Nat} {z : Bk}, (pickS m.k m.L now (cand m.L now) i)[j]? = some z → ∃ y, m.L[j]? = some y ∧ z.w = y.w ∧ y.sh - 6400 ≤ z.sh ∧ z.sh ≤ y.sh + 6400 ∧ y.act ≤ z.act ∧ z.act ≤ y.act + 1 ∧ (z.b = y.b ∨ (y = x ∧ z.b = alB x.b now)) := by
    intro j z hz
    unfold pickS at hz
    obtain ⟨y9, hy9⟩ := getE (T := pickL m.k m.L (cand m.L now)) (i := i) (by rw [pickL_len]; exact hil)
    obtain ⟨x', hx', e1, b1, b2⟩ := pickL_get hm.w hin hy9
    obtain rfl : x' = x := by rw [hx] at hx'; exact (Option.some.inj hx').symm
    rw [gB_at hy9, gB_at hx, List.getElem?_set] at hz
    split at hz
    · rename_i e
      subst e
      split at hz
      · obtain rfl := Option.some.inj hz
        refine ⟨x', hx, ?_, by dsimp only; omega, by dsimp only; omega, by dsimp only; omega, by dsimp only; omega, .inr ⟨rfl, rfl⟩⟩
        dsimp only; rw [e1]
      · cases hz
    · obtain ⟨y, hy, e2, c1, c2⟩ := pickL_get hm.w hin hz
      exact ⟨y, hy, by rw [e2], by omega, by omega, by rw [e2]; exact Int.le_refl _, by rw [e2]; dsimp only; omega, .inl (by rw [e2])⟩
  have keym : ∀ z ∈ pickS m.k m.L now (cand m.L now) i, ∃ y ∈ m.L, z.w = y.w ∧ y.sh - 6400 ≤ z.sh ∧ z.sh ≤ y.sh + 6400 ∧ y.act ≤ z.act ∧ z.act ≤ y.act + 1 ∧ (z.b = y.b ∨ (y = x ∧ z.b = alB x.b now)) := fun z hz => by
    obtain ⟨j, hj⟩ := List.mem_iff_getElem?.1 hz
    obtain ⟨y, hy, h⟩ := key hj
    exact ⟨y, List.mem_of_getElem? hy, h⟩
  refine ⟨by dsimp only; rw [pickS_len]; exact hm.hn, own_L hm.own (pickS_len ..), mp, hm.k, hm.n, ?_, ?_, ?_, ?_, ?_, ?_, ?_, ?_, ?_, ?_, h2⟩
  · intro z hz
    obtain ⟨y, hy, _, _, _, _, _, hb⟩ := keym z hz
    have hfy := hm.fit y hy
    rcases hb with hb | ⟨_, hb⟩
    · rw [hb]; exact ⟨hfy.1, Nat.le_trans hfy.2.1 h1, by have := hfy.2.2; omega⟩
    · rw [hb, alB_last]; exact ⟨hal.1, Nat.le_refl _, by have := hfx.2.2; have := hal.2; omega⟩
  · intro z hz
    obtain ⟨y, hy, e, _⟩ := keym z hz
    rw [e]; exact hm.w y hy
  · intro z hz
    obtain ⟨y, hy, _, b1, b2, _⟩ := keym z hz
    have := hm.sh y hy
    omega
  · intro z hz
    obtain ⟨y, hy, _, _, _, b1, b2, _⟩ := keym z hz
    have := hm.act y hy
    omega
  · show pickN m.k m.n m.nx (cand m.L now) < m.n
    unfold pickN
    split
    · obtain ⟨j, z, e, hz, _⟩ := cand_mem (turn_mem (nx := m.nx) hne)
      have := (List.getElem?_eq_some_iff.1 hz).1
      rw [hm.hn] at this
      exact turnN_lt (by omega) (by omega)
    · exact hm.nx
  · have := hm.gv; dsimp only; omega
  · have := hm.cl; rw [List.length_cons]; omega
  · intro c hc
    rcases List.mem_cons.1 hc with rfl | hc
    · dsimp only; omega
    · have := hm.ky c hc; dsimp only; omega
  · intro c hc
    rcases List.mem_cons.1 hc with rfl | hc
    · dsimp only; rw [← hm.hn]; omega
    · exact hm.bk c hc
  · intro c hc
    rcases List.mem_cons.1 hc with rfl | hc
    · refine ⟨by have := hfx.1.gen; dsimp only; omega, fun z hz => ?_⟩
      dsimp only at hz ⊢
      rw [Int.toNat_natCast] at hz
      obtain ⟨y, hy, _, _, _, _, _, hb⟩ := key hz
      obtain rfl : y = x := by rw [hx] at hy; exact (Option.some.inj hy).symm
      unfold pickS at hz
      obtain ⟨y9, hy9⟩ := getE (T := pickL m.k m.L (cand m.L now)) (i := i) (by rw [pickL_len]; exact hil)
      rw [List.getElem?_set, if_pos rfl, if_pos (by rw [pickL_len]; exact hil), gB_at hx] at hz
      obtain rfl := Option.some.inj hz
      exact Int.le_refl _
    · refine ⟨(hm.gn c hc).1, fun z hz => ?_⟩
      obtain ⟨y, hy, _, _, _, _, _, hb⟩ := key hz
      have := (hm.gn c hc).2 y hy
      rcases hb with hb | ⟨rfl, hb⟩ <;> rw [hb] <;> omega
theorem delL_mem {C : List Cl} {n : Int} {c : Cl} (h : c ∈ delL C n) : c ∈ C := (List.mem_filter.1 h).1
theorem doneS_len (L : List Bk) (now j : Nat) (gn : Int) (good : Bool) : (doneS L now j gn good).length = L.length := by unfold doneS; rw [List.length_set]
theorem BalIs.done {N : Nat} {m : Bm} {C : List Cl} (hm : BalIs N m C) (hN : N ≤ 9000) {now : Nat} (h1 : m.last ≤ now) (h2 : now ≤ 18446744073709551614) {n : Int} {j : Nat} {gn : Int} {good : Bool} {x : Bk} (hx : m.L[j]? = some x)
    {es : Array MapEntry} {mc : Nat} (mp : Mp (.int .i64) ekI evC es (delL C n)) : BalIs (N + 1) { m with L := doneS m.L now j gn good, last := now, es := es, mc := mc } (delL C n) := by
  have hfx := hm.fit x (List.mem_of_getElem? hx)
  have hal := fit_dnK hfx.1 (by have := hfx.2.2; omega) ⟨Nat.le_trans hfx.2.1 h1, h2⟩ gn good
  have hag := dnK_gen x.b now gn good
  have key : ∀ {i : Nat} {z : Bk}, (doneS m.L now j gn good)[i]? = some z → ∃ y, m.L[i]? = some y ∧ z.w = y.w ∧ z.sh = y.sh ∧ y.act - 1 ≤ z.act ∧ z.act ≤ y.act ∧ (z.b = y.b ∨ (y = x ∧ z.b = dnK x.b now gn good)) := by
    intro i z hz
    unfold doneS at hz
    rw [gB_at hx, List.getElem?_set] at hz
    split at hz
    · rename_i e
      subst e
      split at hz
      · obtain rfl := Option.some.inj hz
        exact ⟨x, hx, rfl, rfl, by dsimp only; omega, by dsimp only; omega, .inr ⟨rfl, rfl⟩⟩
      · cases hz
    · exact ⟨z, hz, rfl, rfl, by omega, by omega, .inl rfl⟩
  have keym : ∀ z ∈ doneS m.L now j gn good, ∃ y ∈ m.L, z.w = y.w ∧ z.sh = y.sh ∧ y.act - 1 ≤ z.act ∧ z.act ≤ y.act ∧ (z.b = y.b ∨ (y = x ∧ z.b = dnK x.b now gn good)) := fun z hz => by
    obtain ⟨i, hi⟩ := List.mem_iff_getElem?.1 hz
    obtain ⟨y, hy, h⟩ := key hi
    exact ⟨y, List.mem_of_getElem? hy, h⟩
  refine ⟨by dsimp only; rw [doneS_len]; exact hm.hn, own_L hm.own (doneS_len ..), mp, hm.k, hm.n, ?_, ?_, ?_, ?_, hm.nx, Nat.le_succ_of_le hm.gv, ?_, fun c hc => hm.ky c (delL_mem hc), fun c hc => hm.bk c (delL_mem hc), ?_, h2⟩
  · intro z hz
    obtain ⟨y, hy, _, _, _, _, hb⟩ := keym z hz
    have hfy := hm.fit y hy
    rcases hb with hb | ⟨_, hb⟩
    · rw [hb]; exact ⟨hfy.1, Nat.le_trans hfy.2.1 h1, by have := hfy.2.2; omega⟩
    · rw [hb, dnK_last]; exact ⟨hal.1, Nat.le_refl _, by have := hfx.2.2; have := hal.2; omega⟩
  · intro z hz
    obtain ⟨y, hy, e, _⟩ := keym z hz
    rw [e]; exact hm.w y hy
  · intro z hz
    obtain ⟨y, hy, _, e, _⟩ := keym z hz
    have := hm.sh y hy
    rw [e]; omega
  · intro z hz
    obtain ⟨y, hy, _, _, b1, b2, _⟩ := keym z hz
    have := hm.act y hy
    omega
  · exact Nat.le_trans (List.length_filter_le _ _) (Nat.le_succ_of_le hm.cl)
  · intro c hc
    refine ⟨(hm.gn c (delL_mem hc)).1, fun z hz => ?_⟩
    obtain ⟨y, hy, _, _, _, _, hb⟩ := key hz
    have := (hm.gn c (delL_mem hc)).2 y hy
    rcases hb with hb | ⟨rfl, hb⟩ <;> rw [hb] <;> omega
theorem BalIs.setup {N : Nat} {m : Bm} {C : List Cl} (hm : BalIs N m C) {i : Nat} {x : Bk} (hx : m.L[i]? = some x) (up : Bool) : BalIs N { m with L := m.L.set i { x with up := up } } C := by
  have key : ∀ {j : Nat} {z : Bk}, (m.L.set i { x with up := up })[j]? = some z → ∃ y, m.L[j]? = some y ∧ z = { y with up := z.up } := by
    intro j z hz
    rw [List.getElem?_set] at hz
    split at hz
    · rename_i e
      subst e
      split at hz
      · obtain rfl := Option.some.inj hz; exact ⟨x, hx, rfl⟩
      · cases hz
    · exact ⟨z, hz, rfl⟩
  have keym : ∀ z ∈ m.L.set i { x with up := up }, ∃ y ∈ m.L, z = { y with up := z.up } := fun z hz => by
    obtain ⟨j, hj⟩ := List.mem_iff_getElem?.1 hz
    obtain ⟨y, hy, h⟩ := key hj
    exact ⟨y, List.mem_of_getElem? hy, h⟩
  refine ⟨by dsimp only; rw [List.length_set]; exact hm.hn, own_L hm.own List.length_set, hm.mp, hm.k, hm.n, ?_, ?_, ?_, ?_, hm.nx, hm.gv, hm.cl, hm.ky, hm.bk, ?_, hm.last⟩
  · intro z hz; obtain ⟨y, hy, e⟩ := keym z hz; rw [e]; exact hm.fit y hy
  · intro z hz; obtain ⟨y, hy, e⟩ := keym z hz; rw [e]; exact hm.w y hy
  · intro z hz; obtain ⟨y, hy, e⟩ := keym z hz; rw [e]; exact hm.sh y hy
  · intro z hz; obtain ⟨y, hy, e⟩ := keym z hz; rw [e]; exact hm.act y hy
  · intro c hc
    refine ⟨(hm.gn c hc).1, fun z hz => ?_⟩
    obtain ⟨y, hy, e⟩ := key hz
    rw [e]; exact (hm.gn c hc).2 y hy
theorem BalIs.le {N N2 : Nat} {m : Bm} {C : List Cl} (hm : BalIs N m C) (h : N ≤ N2) : BalIs N2 m C :=
  ⟨hm.hn, hm.own, hm.mp, hm.k, hm.n, fun x hx => ⟨(hm.fit x hx).1, (hm.fit x hx).2.1, by have := (hm.fit x hx).2.2; omega⟩, hm.w, fun x hx => by have := hm.sh x hx; omega, fun x hx => by have := hm.act x hx; omega, hm.nx, Nat.le_trans hm.gv h, Nat.le_trans hm.cl h, hm.ky, hm.bk, hm.gn, hm.last⟩

end Go.Proofs.Ytiokpmgbabpikaa
