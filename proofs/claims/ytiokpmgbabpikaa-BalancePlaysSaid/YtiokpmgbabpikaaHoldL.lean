/-
  Chapter 48 (balance), part HoldL: contracts of functions that the laws call, each for the heap it names.
-/
import Derived.Test.YtiokpmgbabpikaaBalV
set_option linter.unusedVariables false
set_option maxRecDepth 20000
namespace Go.Proofs.Ytiokpmgbabpikaa


def tot : List Int → Int
  | [] => 0
  | x :: r => x + tot r
theorem tot_append : ∀ (a b : List Int), tot (a ++ b) = tot a + tot b
  | [], b => by simp [tot]
  | x :: r, b => by simp only [List.cons_append, tot, tot_append r b]; omega
theorem tot_next {l : List Int} {k : Nat} {x : Int} (h : l[k]? = some x) : tot (l.take (k + 1)) = tot (l.take k) + x := by
  rw [take_next h, tot_append]; simp [tot]
/-- All backends are ready. -/
def Up (V : List Vw) : Prop := ∀ v ∈ V, v.2.2.2.1 = true ∧ v.2.2.2.2.st = 0
theorem un_get {V : List Vw} {i : Nat} {x : Bk} (h : (un V)[i]? = some x) : ∃ v, V[i]? = some v ∧ x = ⟨v.1, v.2.1, v.2.2.1, v.2.2.2.1, 0, v.2.2.2.2⟩ := by
  unfold un at h
  rw [List.getElem?_map] at h
  cases hv : V[i]? with
  | none => rw [hv] at h; cases h
  | some v => rw [hv] at h; exact ⟨v, rfl, (Option.some.inj h).symm⟩
theorem st0 {b : Br} {now : Nat} (h : b.st = 0) : stB b now = 0 := by unfold stB; rw [if_neg (by omega)]; exact h
theorem Up.ok {V : List Vw} (h : Up V) (now : Nat) {i : Nat} (hi : i < V.length) : okAt (un V) now i = true := by
  obtain ⟨x, hx⟩ := getE (T := un V) (i := i) (by rw [un_len]; exact hi)
  obtain ⟨v, hv, rfl⟩ := un_get hx
  have := h v (List.mem_of_getElem? hv)
  unfold okAt
  rw [hx]
  simp only [this.1, Bool.true_and, decide_eq_true_eq]
  exact .inl (st0 this.2)
abbrev rng (n : Nat) : List Int := (List.range n).map (fun i : Nat => (i : Int))
theorem Up.cand {V : List Vw} (h : Up V) (now : Nat) : Go.Proofs.Ytiokpmgbabpikaa.cand (un V) now = rng V.length := by
  unfold Go.Proofs.Ytiokpmgbabpikaa.cand candK
  rw [un_len, List.filter_eq_self.2]
  intro i hi
  exact h.ok now (List.mem_range.1 hi)
theorem rng_get {n i : Nat} (h : i < n) : (rng n)[i]? = some (i : Int) := by
  unfold rng
  rw [List.getElem?_map, List.getElem?_range h]; rfl
theorem rng_mem {n : Nat} {a : Int} (h : a ∈ rng n) : ∃ i : Nat, a = (i : Int) ∧ i < n := by
  obtain ⟨i, hi, rfl⟩ := List.mem_map.1 h
  exact ⟨i, rfl, List.mem_range.1 hi⟩
theorem rng_len (n : Nat) : (rng n).length = n := by simp
theorem rng_ne {n : Nat} (h : 1 ≤ n) : rng n ≠ [] := fun e => by have := congrArg List.length e; rw [rng_len] at this; simp at this; omega
theorem rng_succ (n : Nat) : rng (n + 1) = rng n ++ [(n : Int)] := by
  unfold rng; rw [List.range_succ, List.map_append]; rfl
/-! turns -/
theorem idxF_ge (nx : Nat) : ∀ (l : List Int) (s : Nat), (∀ (j : Nat) (a : Int), l[j]? = some a → a = ((s + j : Nat) : Int)) → s ≤ nx → nx < s + l.length → idxF (fun i => decide ((nx : Int) ≤ i)) l = ((nx - s : Nat) : Int)
  | [], s, _, h1, h2 => by simp at h2; omega
  | a :: r, s, h, h1, h2 => by
    have ha := h 0 a rfl
    have ih := idxF_ge nx r (s + 1) (fun j b hb => by rw [h (j + 1) b (by simpa using hb)]; omega)
    unfold idxF
    by_cases e : nx = s
    · rw [if_pos (decide_eq_true (by omega)), e]; omega
    · rw [List.length_cons] at h2
      rw [if_neg (by rw [decide_eq_false (by omega)]; simp), ih (by omega) (by omega), if_neg (by omega)]; omega
theorem turn_rng {n nx : Nat} (h : nx < n) : turnI nx (rng n) = (nx : Int) := by
  unfold turnI
  rw [idxF_ge nx (rng n) 0 (fun j a ha => by
    have hj : j < n := by have := (List.getElem?_eq_some_iff.1 ha).1; rw [rng_len] at this; exact this
    rw [rng_get hj] at ha
    rw [Nat.zero_add]; exact (Option.some.inj ha).symm) (Nat.zero_le _) (by rw [rng_len]; omega)]
  rw [show (max 0 (((nx - 0 : Nat)) : Int)).toNat = nx by omega, rng_get h]; rfl
/-! what stays when one is picked -/
theorem alB_st {b : Br} {now : Nat} (h : b.st = 0) : alB b now = ⟨b.limit, b.probes, b.opn, now, b.gen, b.st, b.opened, b.failed, b.allowed, b.good⟩ := by
  unfold alB; rw [if_neg (by rw [st0 h]; omega)]
theorem set_vw {V : List Vw} (h : Up V) {i : Nat} {v : Vw} (h1 : v.2.2.2.1 = true) (h2 : v.2.2.2.2.st = 0) : Up (V.set i v) := fun u hu => by
  rcases set_mem hu with rfl | hu
  · exact ⟨h1, h2⟩
  · exact h u hu
theorem Up.bump1 {L : List Bk} (h : Up (L.map vw)) (a : Int) : Up ((Go.Proofs.Ytiokpmgbabpikaa.bump1 L a).map vw) := fun u hu => by
  obtain ⟨x, hx, rfl⟩ := List.mem_map.1 hu
  obtain ⟨j, hj⟩ := List.mem_iff_getElem?.1 hx
  obtain ⟨y, hy, e, _⟩ := bump1_get hj
  have := h (vw y) (List.mem_map_of_mem (List.mem_of_getElem? hy))
  rw [e]; exact this
theorem Up.bump (l : List Int) : ∀ {L : List Bk}, Up (L.map vw) → Up ((Go.Proofs.Ytiokpmgbabpikaa.bump L l).map vw) := by
  induction l with
  | nil => intro L h; exact h
  | cons a r ih => intro L h; exact ih (h.bump1 a)
theorem Up.pickL {L : List Bk} (h : Up (L.map vw)) (k : Nat) (l : List Int) : Up ((Go.Proofs.Ytiokpmgbabpikaa.pickL k L l).map vw) := by
  unfold Go.Proofs.Ytiokpmgbabpikaa.pickL
  split
  · unfold drop1
    intro u hu
    rw [List.map_set] at hu
    have hb := Up.bump l h
    by_cases hlt : (weiI (Go.Proofs.Ytiokpmgbabpikaa.bump L l) l).toNat < (Go.Proofs.Ytiokpmgbabpikaa.bump L l).length
    · rcases set_mem hu with rfl | hu
      · obtain ⟨y, hy⟩ := getE hlt
        have hg : gB (Go.Proofs.Ytiokpmgbabpikaa.bump L l) (weiI (Go.Proofs.Ytiokpmgbabpikaa.bump L l) l) = y := by unfold gB; rw [hy]; rfl
        have := hb (vw y) (List.mem_map_of_mem (List.mem_of_getElem? hy))
        rw [hg]; exact this
      · exact hb u hu
    · rw [List.set_eq_of_length_le (by rw [List.length_map]; omega)] at hu
      exact hb u hu
  · exact h
theorem Up.pick {s : BS} (h : Up s.V) (key : ByteArray) (now : Nat) (h1 : 1 ≤ s.V.length) : Up (s.pick key now).V := by
  have hu : Up ((un s.V).map vw) := by rw [vw_un]; exact h
  have hp := hu.pickL s.k (s.cand now)
  have hc := h.cand now
  obtain ⟨i, x, hi, hx, _⟩ := cand_mem (pickI_mem s.k (un s.V) s.nx key (l := s.cand now) (by show Go.Proofs.Ytiokpmgbabpikaa.cand _ _ ≠ []; rw [hc]; exact rng_ne h1))
  have hi2 : s.pickI key now = (i : Int) := hi
  show Up ((pickS s.k (un s.V) now (s.cand now) (s.pickI key now).toNat).map vw)
  rw [hi2, Int.toNat_natCast]
  unfold pickS
  rw [List.map_set]
  obtain ⟨v, hv, rfl⟩ := un_get hx
  have hvu := h v (List.mem_of_getElem? hv)
  obtain ⟨y, hy⟩ := getE (T := Go.Proofs.Ytiokpmgbabpikaa.pickL s.k (un s.V) (s.cand now)) (i := i) (by rw [pickL_len]; exact (List.getElem?_eq_some_iff.1 hx).1)
  have hyu := hp (vw y) (List.mem_map_of_mem (List.mem_of_getElem? hy))
  refine set_vw hp ?_ ?_
  · show (gB _ _).up = true
    rw [gB_at hy]; exact hyu.1
  · show (alB (gB (un s.V) (i : Int)).b now).st = 0
    rw [gB_at hx, alB_st hvu.2]; exact hvu.2
theorem pick_len (s : BS) (key : ByteArray) (now : Nat) : (s.pick key now).V.length = s.V.length := by
  show ((pickS _ _ _ _ _).map vw).length = _
  rw [List.length_map, pickS_len, un_len]
/-! turns -/
structure TurnOk (n : Nat) (s : BS) (i : Nat) : Prop where
  k : s.k = 1
  n : s.V.length = n
  up : Up s.V
  nx : s.nx = i
  last : s.last = 0
theorem TurnOk.hit {n : Nat} {s : BS} {i : Nat} (h : TurnOk n s i) (hi : i < n) (key : ByteArray) : s.pickI key 0 = (i : Int) ∧ s.cand 0 ≠ [] ∧ TurnOk n (s.pick key 0) (turnN n (i : Int)) := by
  have hc : s.cand 0 = rng n := by rw [← h.n]; exact h.up.cand 0
  have hp : s.pickI key 0 = (i : Int) := by
    show pickI s.k (un s.V) s.nx key (s.cand 0) = _
    unfold pickI
    rw [if_pos h.k, hc, h.nx, turn_rng hi]
  refine ⟨hp, by rw [hc]; exact rng_ne (by omega), h.k, by rw [pick_len]; exact h.n, h.up.pick key 0 (by rw [h.n]; omega), ?_, rfl⟩
  show pickN s.k s.V.length s.nx (s.cand 0) = _
  unfold pickN
  rw [if_pos h.k, hc, h.nx, turn_rng hi, h.n]
/-! by weights -/
theorem sel_max (f : Int → Int) (q : Int → Int → Bool) (h1 : ∀ a b, q a b = true → f b ≤ f a) (h2 : ∀ a b, q a b = false → f a ≤ f b) : ∀ (l : List Int) (a : Int), a ∈ l → f a ≤ f (sel q l) := by
  have key : ∀ (r : List Int) (x : Int), f x ≤ f (r.foldl (fun m a => if q a m = true then a else m) x) ∧ ∀ a ∈ r, f a ≤ f (r.foldl (fun m a => if q a m = true then a else m) x) := by
    intro r
    induction r with
    | nil => intro x; exact ⟨Int.le_refl _, fun a ha => by cases ha⟩
    | cons y r ih =>
      intro x
      rw [List.foldl_cons]
      obtain ⟨i1, i2⟩ := ih (if q y x = true then y else x)
      have hx : f x ≤ f (if q y x = true then y else x) ∧ f y ≤ f (if q y x = true then y else x) := by
        by_cases e : q y x = true
        · rw [if_pos e]; exact ⟨h1 _ _ e, Int.le_refl _⟩
        · rw [if_neg e]; exact ⟨Int.le_refl _, h2 _ _ (by simpa using e)⟩
      refine ⟨Int.le_trans hx.1 i1, fun a ha => ?_⟩
      rcases List.mem_cons.1 ha with rfl | ha
      · exact Int.le_trans hx.2 i1
      · exact i2 a ha
  intro l a ha
  cases l with
  | nil => cases ha
  | cons x r =>
    obtain ⟨i1, i2⟩ := key r x
    rcases List.mem_cons.1 ha with rfl | ha
    · exact i1
    · exact i2 a ha
theorem wei_pos {L : List Bk} {a b : Int} : 0 < weiQ L a b ↔ (gB L b).sh < (gB L a).sh ∨ ((gB L a).sh = (gB L b).sh ∧ a < b) := by
  unfold weiQ orL cmpI orL orL
  (repeat' split) <;> omega
theorem weiI_max (L : List Bk) (l : List Int) (a : Int) (h : a ∈ l) : (gB L a).sh ≤ (gB L (weiI L l)).sh := by
  refine sel_max (fun a => (gB L a).sh) _ (fun a b h => ?_) (fun a b h => ?_) l a h
  · have := wei_pos.1 (of_decide_eq_true h); omega
  · have := mt wei_pos.2 (of_decide_eq_false h); omega
def bumpF (x : Bk) : Bk := { x with sh := x.sh + x.w }
theorem bump_all (L : List Bk) : ∀ k, k ≤ L.length → bump L (rng k) = (L.take k).map bumpF ++ L.drop k
  | 0, _ => rfl
  | k + 1, h => by
    have ih := bump_all L k (by omega)
    obtain ⟨x, hx⟩ := getE (T := L) (i := k) (by omega)
    have hb : (bump L (rng k))[k]? = some x := by
      rw [ih, List.getElem?_append_right (by rw [List.length_map, List.length_take]; omega), List.length_map, List.length_take, show k - min k L.length = 0 by omega, List.getElem?_drop]; exact hx
    have e : bump L (rng (k + 1)) = bump1 (bump L (rng k)) (k : Int) := by
      rw [rng_succ]; unfold bump; rw [List.foldl_append]; rfl
    have hd : L.drop k = x :: L.drop (k + 1) := by
      obtain ⟨h1, h2⟩ := List.getElem?_eq_some_iff.1 hx
      rw [List.drop_eq_getElem_cons h1, h2]
    rw [e, bump1_at hb, ih, hd, take_next hx, List.map_append, List.append_assoc]
    have hl : k = ((L.take k).map bumpF).length := by rw [List.length_map, List.length_take]; omega
    conv => lhs; rw [hl]
    rw [← hl]
    have := set_at (A := (L.take k).map bumpF) (B := L.drop (k + 1)) (x := x) (y := bumpF x)
    rw [← hl] at this
    exact this
theorem sumW_all (L : List Bk) : ∀ k, k ≤ L.length → sumW L (rng k) = tot ((L.take k).map (·.w))
  | 0, _ => rfl
  | k + 1, h => by
    have ih := sumW_all L k (by omega)
    obtain ⟨x, hx⟩ := getE (T := L) (i := k) (by omega)
    have e : sumW L (rng (k + 1)) = sumW L (rng k) + (gB L (k : Int)).w := by
      rw [rng_succ]; unfold sumW; rw [List.foldl_append]; rfl
    rw [e, ih, gB_at hx, take_next hx, List.map_append, tot_append]; simp [tot]
theorem tot_bump (L : List Bk) : tot ((L.map bumpF).map (·.sh)) = tot (L.map (·.sh)) + tot (L.map (·.w)) := by
  induction L with
  | nil => rfl
  | cons x r ih => simp only [List.map_cons, tot, ih]; show x.sh + x.w + _ = _; omega
theorem tot_set {L : List Bk} {i : Nat} {x : Bk} (hx : L[i]? = some x) (y : Bk) : tot ((L.set i y).map (·.sh)) = tot (L.map (·.sh)) - x.sh + y.sh := by
  obtain ⟨A, B, rfl, rfl⟩ := split_at hx
  rw [set_at, List.map_append, List.map_append, List.map_cons, List.map_cons, tot_append, tot_append]
  simp only [tot]; omega
theorem tot_neg : ∀ (L : List Bk), (∀ x ∈ L, x.sh ≤ 0) → tot (L.map (·.sh)) ≤ 0
  | [], _ => by simp [tot]
  | x :: r, h => by
    have h1 := h x (by simp)
    have h2 := tot_neg r (fun y hy => h y (by simp [hy]))
    simp only [List.map_cons, tot]; omega
theorem tot_zero : ∀ (L : List Bk), (∀ x ∈ L, 0 ≤ x.sh) → tot (L.map (·.sh)) ≤ 0 → ∀ x ∈ L, x.sh = 0
  | [], _, _, x, hx => by cases hx
  | y :: r, h, h0, x, hx => by
    have h1 := h y (by simp)
    have h2 : 0 ≤ tot (r.map (·.sh)) := by
      have key : ∀ (r : List Bk), (∀ z ∈ r, 0 ≤ z.sh) → 0 ≤ tot (r.map (·.sh)) := by
        intro r
        induction r with
        | nil => intro _; simp [tot]
        | cons z r ih => intro hr; have := hr z (by simp); have := ih (fun u hu => hr u (by simp [hu])); simp only [List.map_cons, tot]; omega
      exact key r (fun z hz => h z (by simp [hz]))
    simp only [List.map_cons, tot] at h0
    rcases List.mem_cons.1 hx with rfl | hx
    · omega
    · exact tot_zero r (fun z hz => h z (by simp [hz])) (by omega) x hx
structure WrrOk (W : List Int) (s : BS) (t : Nat) (G : List Int) : Prop where
  k : s.k = 3
  w : s.V.map (·.1) = W
  up : Up s.V
  last : s.last = 0
  gl : G.length = W.length
  cb : ∀ c ∈ G, 0 ≤ c ∧ c ≤ (t : Int)
  sh : ∀ (i : Nat) (v : Vw), s.V[i]? = some v → ∃ c, G[i]? = some c ∧ v.2.1 = t * v.1 - tot W * c ∧ -tot W < v.2.1
  sum : tot (s.V.map (fun v => v.2.1)) = 0
theorem un_sh (V : List Vw) : (un V).map (·.sh) = V.map (fun v => v.2.1) := by unfold un; rw [List.map_map]; rfl
theorem un_w (V : List Vw) : (un V).map (·.w) = V.map (·.1) := by unfold un; rw [List.map_map]; rfl
theorem map_vw_sh (L : List Bk) : (L.map vw).map (fun v => v.2.1) = L.map (·.sh) := by rw [List.map_map]; rfl
theorem map_vw_w (L : List Bk) : (L.map vw).map (·.1) = L.map (·.w) := by rw [List.map_map]; rfl
theorem WrrOk.hit {W : List Int} {s : BS} {t : Nat} {G : List Int} (h : WrrOk W s t G) (hW : 1 ≤ W.length) (hpos : 0 < tot W) (hpw : ∀ v ∈ s.V, 0 ≤ v.1) (key : ByteArray) : ∃ i : Nat, ∃ c : Int, s.pickI key 0 = (i : Int) ∧ i < W.length ∧ s.cand 0 ≠ [] ∧ G[i]? = some c ∧ WrrOk W (s.pick key 0) (t + 1) (G.set i (c + 1)) := by
  have hn : s.V.length = W.length := by rw [← h.w, List.length_map]
  have hc : s.cand 0 = rng W.length := by rw [← hn]; exact h.up.cand 0
  have hul : (un s.V).length = W.length := by rw [un_len, hn]
  have hba : bump (un s.V) (rng W.length) = (un s.V).map bumpF := by
    rw [bump_all _ _ (by omega), List.take_of_length_le (by omega), List.drop_eq_nil_of_le (by omega), List.append_nil]
  have hsw : sumW (un s.V) (rng W.length) = tot W := by
    rw [sumW_all _ _ (by omega), List.take_of_length_le (by omega), un_w, h.w]
  have hne : s.cand 0 ≠ [] := by rw [hc]; exact rng_ne hW
  obtain ⟨i, x, hi, hx, _⟩ := cand_mem (pickI_mem s.k (un s.V) s.nx key hne)
  have hpi : s.pickI key 0 = (i : Int) := hi
  have hwi : weiI ((un s.V).map bumpF) (rng W.length) = (i : Int) := by
    rw [← hba, ← hc]
    have : s.pickI key 0 = weiI (bump (un s.V) (s.cand 0)) (s.cand 0) := by
      show pickI s.k (un s.V) s.nx key (s.cand 0) = _
      unfold pickI
      rw [if_neg (by rw [h.k]; decide), if_neg (by rw [h.k]; decide), if_pos h.k]
    rw [← this]; exact hpi
  have hil : i < W.length := by rw [← hul]; exact (List.getElem?_eq_some_iff.1 hx).1
  have hxb : ((un s.V).map bumpF)[i]? = some (bumpF x) := by rw [List.getElem?_map, hx]; rfl
  obtain ⟨v, hv, hxv⟩ := un_get hx
  obtain ⟨c, hgc, hsh, hlow⟩ := h.sh i v hv
  have hbt : tot (((un s.V).map bumpF).map (·.sh)) = tot W := by
    rw [tot_bump, un_sh, un_w, h.sum, h.w]; omega
  have hbest : 0 < (bumpF x).sh := by
    refine Int.not_le.1 fun hle => ?_
    have : ∀ y ∈ (un s.V).map bumpF, y.sh ≤ 0 := fun y hy => by
      obtain ⟨j, hj⟩ := List.mem_iff_getElem?.1 hy
      have hjl : j < W.length := by have := (List.getElem?_eq_some_iff.1 hj).1; rw [List.length_map] at this; omega
      have hm := weiI_max ((un s.V).map bumpF) (rng W.length) (j : Int) (List.mem_of_getElem? (rng_get hjl))
      rw [hwi, gB_at hj, gB_at hxb] at hm
      omega
    have := tot_neg _ this
    omega
  have hpL : pickL s.k (un s.V) (s.cand 0) = ((un s.V).map bumpF).set i { bumpF x with sh := (bumpF x).sh - tot W } := by
    unfold pickL
    rw [if_pos h.k, hc, hba, hsw]
    unfold drop1
    rw [hwi, gB_at hxb, Int.toNat_natCast]
  have hV : (s.pick key 0).V = (((un s.V).map bumpF).set i { bumpF x with sh := (bumpF x).sh - tot W, act := x.act + 1, b := alB x.b 0 }).map vw := by
    show (pickS s.k (un s.V) 0 (s.cand 0) (s.pickI key 0).toNat).map vw = _
    rw [hpi, Int.toNat_natCast]
    unfold pickS
    rw [hpL, gB_at hx, gB_at (x := { bumpF x with sh := (bumpF x).sh - tot W }) (by rw [List.getElem?_set, if_pos rfl, if_pos (by rw [List.length_map]; omega)]), List.set_set]
  refine ⟨i, c, hpi, hil, hne, hgc, h.k, ?_, h.up.pick key 0 (by omega), rfl, by rw [List.length_set]; exact h.gl, ?_, ?_, ?_⟩
  · rw [hV, map_vw_w, List.map_set, List.map_map]
    have : ((un s.V).map ((fun x : Bk => x.w) ∘ bumpF)) = W := by rw [← h.w, ← un_w]; rfl
    rw [this]
    refine set_same ?_
    rw [← h.w, List.getElem?_map, hv, hxv]; rfl
  · intro d hd
    rcases set_mem hd with rfl | hd
    · have := h.cb c (List.mem_of_getElem? hgc); omega
    · have := h.cb d hd; omega
  · intro j u hu
    rw [hV, List.getElem?_map] at hu
    rw [List.getElem?_set] at hu
    split at hu
    · rename_i e
      subst e
      rw [if_pos (by rw [List.length_map]; omega)] at hu
      obtain rfl := Option.some.inj hu
      refine ⟨c + 1, by rw [List.getElem?_set, if_pos rfl, if_pos (by rw [h.gl]; exact hil)], ?_, ?_⟩
      · show (bumpF x).sh - tot W = ((t + 1 : Nat) : Int) * x.w - tot W * (c + 1)
        rw [hxv]
        show v.2.1 + v.1 - tot W = ((t + 1 : Nat) : Int) * v.1 - tot W * (c + 1)
        rw [hsh, Int.mul_add, Int.natCast_add, Int.add_mul]; omega
      · show -tot W < (bumpF x).sh - tot W
        omega
    · rename_i e
      rw [List.getElem?_map] at hu
      cases hz : (un s.V)[j]? with
      | none => rw [hz] at hu; cases hu
      | some z =>
        rw [hz] at hu
        obtain rfl := Option.some.inj hu
        obtain ⟨v2, hv2, hz2⟩ := un_get hz
        obtain ⟨c2, g1, g2, g3⟩ := h.sh j v2 hv2
        have hw2 : 0 ≤ v2.1 ∨ v2.1 < 0 := by omega
        refine ⟨c2, by rw [List.getElem?_set, if_neg (fun e2 => e e2)]; exact g1, ?_, ?_⟩
        · show (bumpF z).sh = ((t + 1 : Nat) : Int) * z.w - tot W * c2
          rw [hz2]
          show v2.2.1 + v2.1 = ((t + 1 : Nat) : Int) * v2.1 - tot W * c2
          rw [g2, Int.natCast_add, Int.add_mul]; omega
        · show -tot W < (bumpF z).sh
          rw [hz2]
          show -tot W < v2.2.1 + v2.1
          have := hpw v2 (List.mem_of_getElem? hv2)
          omega
  · rw [hV, map_vw_sh, tot_set hxb, hbt]
    show tot W - (bumpF x).sh + ((bumpF x).sh - tot W) = 0
    omega

theorem turnN_nat (n i : Nat) : turnN n (i : Int) = if i + 1 = n then 0 else i + 1 := by
  unfold turnN; (repeat' split) <;> omega
theorem bs0_up (k : Nat) (W : List Int) (limit : Int) (op : Nat) : Up (bs0 k W limit op).V := fun v hv => by
  obtain ⟨w, _, rfl⟩ := List.mem_map.1 hv
  exact ⟨rfl, rfl⟩
theorem bs0_len (k : Nat) (W : List Int) (limit : Int) (op : Nat) : (bs0 k W limit op).V.length = W.length := List.length_map _
theorem turn_start (W : List Int) : TurnOk W.length (bs0 1 W 1 1) 0 := ⟨rfl, bs0_len .., bs0_up _ _ _ _, rfl, rfl⟩
theorem tot_pos : ∀ (W : List Int), (∀ w ∈ W, 1 ≤ w ∧ w ≤ 100) → (W.length : Int) ≤ tot W ∧ tot W ≤ 100 * W.length
  | [], _ => by simp [tot]
  | w :: r, h => by
    have h1 := h w (by simp)
    have h2 := tot_pos r (fun x hx => h x (by simp [hx]))
    simp only [tot, List.length_cons]; omega
theorem tot_take {W : List Int} (h : ∀ w ∈ W, 1 ≤ w ∧ w ≤ 100) (k : Nat) (hk : W.length ≤ 8) : 0 ≤ tot (W.take k) ∧ tot (W.take k) ≤ 800 := by
  have := tot_pos (W.take k) (fun x hx => h x (List.mem_of_mem_take hx))
  rw [List.length_take] at this
  omega
theorem wrr_start (W : List Int) (hp : 0 < tot W) : WrrOk W (bs0 3 W 1 1) 0 (List.replicate W.length 0) := by
  refine ⟨rfl, ?_, bs0_up _ _ _ _, rfl, by simp, fun c hc => ?_, ?_, ?_⟩
  · show (W.map _).map _ = W
    rw [List.map_map]; exact List.map_id W
  · rw [List.eq_of_mem_replicate hc]; simp
  · intro i v hv
    have hv : (W.map (fun w => ((w, 0, 0, true, newB 1 1 1) : Vw)))[i]? = some v := hv
    rw [List.getElem?_map] at hv
    cases hw : W[i]? with
    | none => rw [hw] at hv; cases hv
    | some w =>
      rw [hw] at hv
      obtain rfl := Option.some.inj hv
      have hi := (List.getElem?_eq_some_iff.1 hw).1
      exact ⟨0, by rw [List.getElem?_replicate, if_pos hi], by simp, by (show -tot W < 0); omega⟩
  · show tot ((W.map _).map _) = 0
    rw [List.map_map]
    have key : ∀ l : List Int, tot (l.map (fun _ => (0 : Int))) = 0 := by
      intro l
      induction l with
      | nil => rfl
      | cons x r ih => simp only [List.map_cons, tot, ih]; rfl
    exact key W
theorem wrr_end {W : List Int} {s : BS} {t : Nat} {G : List Int} (h : WrrOk W s t G) (ht : (t : Int) = tot W) (hp : 0 < tot W) : G = W ∧ WrrOk W s 0 (List.replicate W.length 0) := by
  have hn : s.V.length = W.length := by rw [← h.w, List.length_map]
  have key : ∀ (i : Nat) (v : Vw), s.V[i]? = some v → ∃ c, G[i]? = some c ∧ v.2.1 = tot W * (v.1 - c) ∧ 0 ≤ v.1 - c := fun i v hv => by
    obtain ⟨c, h1, h2, h3⟩ := h.sh i v hv
    rw [ht, ← Int.mul_sub] at h2
    refine ⟨c, h1, h2, Int.not_lt.1 fun hlt => ?_⟩
    have : tot W * (v.1 - c) ≤ tot W * (-1) := Int.mul_le_mul_of_nonneg_left (by omega) (by omega)
    omega
  have hz : ∀ x ∈ un s.V, x.sh = 0 := tot_zero _ (fun x hx => by
    obtain ⟨i, hi⟩ := List.mem_iff_getElem?.1 hx
    obtain ⟨v, hv, rfl⟩ := un_get hi
    obtain ⟨c, _, h2, h3⟩ := key i v hv
    show 0 ≤ v.2.1
    rw [h2]; exact Int.mul_nonneg (by omega) h3) (by rw [un_sh, h.sum]; exact Int.le_refl _)
  have hz2 : ∀ (i : Nat) (v : Vw), s.V[i]? = some v → v.2.1 = 0 := fun i v hv => by
    have hx : (un s.V)[i]? = some ⟨v.1, v.2.1, v.2.2.1, v.2.2.2.1, 0, v.2.2.2.2⟩ := by unfold un; rw [List.getElem?_map, hv]; rfl
    exact hz _ (List.mem_of_getElem? hx)
  refine ⟨?_, h.k, h.w, h.up, h.last, by simp, fun c hc => by rw [List.eq_of_mem_replicate hc]; simp, ?_, h.sum⟩
  · refine List.ext_getElem? fun i => ?_
    by_cases hi : i < W.length
    · obtain ⟨v, hv⟩ := getE (T := s.V) (i := i) (by omega)
      obtain ⟨c, h1, h2, h3⟩ := key i v hv
      rw [hz2 i v hv] at h2
      have hc : v.1 = c := by
        rcases Int.mul_eq_zero.1 h2.symm with h4 | h4 <;> omega
      rw [h1, ← h.w, List.getElem?_map, hv]
      exact congrArg some hc.symm
    · rw [List.getElem?_eq_none (by rw [h.gl]; omega), List.getElem?_eq_none (by omega)]
  · intro i v hv
    have hi : i < W.length := by rw [← hn]; exact (List.getElem?_eq_some_iff.1 hv).1
    exact ⟨0, by rw [List.getElem?_replicate, if_pos hi], by rw [hz2 i v hv]; simp, by rw [hz2 i v hv]; omega⟩
theorem WrrOk.pos {W : List Int} {s : BS} {t : Nat} {G : List Int} (h : WrrOk W s t G) (hW : ∀ w ∈ W, 1 ≤ w ∧ w ≤ 100) : ∀ v ∈ s.V, 0 ≤ v.1 := fun v hv => by
  have := hW v.1 (by rw [← h.w]; exact List.mem_map_of_mem hv)
  omega
/-! by a key -/
abbrev Rk (key : ByteArray) (a b : Int) : Prop := sco key b < sco key a ∨ (sco key a = sco key b ∧ a < b)
theorem hash_pos {key : ByteArray} {a b : Int} : 0 < hashQ key a b ↔ Rk key a b := by
  unfold hashQ Rk orL cmpI orL orL
  (repeat' split) <;> omega
theorem hash_top (key : ByteArray) : ∀ (l : List Int) (a : Int), a ∈ l → a = hashI key l ∨ Rk key (hashI key l) a := by
  have hk : ∀ (r : List Int) (x : Int), (x = r.foldl (fun m a => if decide (0 < hashQ key a m) = true then a else m) x ∨ Rk key (r.foldl (fun m a => if decide (0 < hashQ key a m) = true then a else m) x) x) ∧ ∀ a ∈ r, a = r.foldl (fun m a => if decide (0 < hashQ key a m) = true then a else m) x ∨ Rk key (r.foldl (fun m a => if decide (0 < hashQ key a m) = true then a else m) x) a := by
    intro r
    induction r with
    | nil => intro x; exact ⟨.inl rfl, fun a ha => by cases ha⟩
    | cons y r ih =>
      intro x
      rw [List.foldl_cons]
      by_cases e : decide (0 < hashQ key y x) = true
      · rw [if_pos e]
        have e2 := hash_pos.1 (of_decide_eq_true e)
        obtain ⟨i1, i2⟩ := ih y
        refine ⟨.inr ?_, fun a ha => ?_⟩
        · rcases i1 with i1 | i1
          · rw [← i1]; exact e2
          · unfold Rk at *; omega
        · rcases List.mem_cons.1 ha with rfl | ha
          · exact i1
          · exact i2 a ha
      · rw [if_neg e]
        have e2 := mt hash_pos.2 (of_decide_eq_false (by simpa using e))
        obtain ⟨i1, i2⟩ := ih x
        refine ⟨i1, fun a ha => ?_⟩
        rcases List.mem_cons.1 ha with rfl | ha
        · have i1' := i1
          revert i1'
          generalize r.foldl (fun m a => if decide (0 < hashQ key a m) = true then a else m) x = m
          intro i1'
          unfold Rk at *
          by_cases q : a = m
          · exact .inl q
          · refine .inr ?_
            rcases i1' with i1' | i1'
            · subst i1'; omega
            · omega
        · exact i2 a ha
  intro l a ha
  cases l with
  | nil => cases ha
  | cons x r =>
    rcases List.mem_cons.1 ha with rfl | ha
    · exact (hk r a).1
    · exact (hk r x).2 a ha
theorem hash_sub {key : ByteArray} {l l2 : List Int} (hs : ∀ a ∈ l2, a ∈ l) (hne : l2 ≠ []) (hx : hashI key l ∈ l2) : hashI key l2 = hashI key l := by
  have h1 := hash_top key l (hashI key l2) (hs _ (sel_mem _ hne))
  have h2 := hash_top key l2 (hashI key l) hx
  rcases h1 with h1 | h1
  · exact h1
  · rcases h2 with h2 | h2
    · exact h2.symm
    · unfold Rk at h1 h2; omega
structure HashOk (n : Nat) (s : BS) : Prop where
  k : s.k = 4
  n : s.V.length = n
  up : Up s.V
  last : s.last = 0
theorem hash_start (W : List Int) : HashOk W.length (bs0 4 W 1 1) := ⟨rfl, bs0_len .., bs0_up _ _ _ _, rfl⟩
theorem HashOk.hit {n : Nat} {s : BS} (h : HashOk n s) (hn : 1 ≤ n) (key : ByteArray) : s.cand 0 ≠ [] ∧ s.pickI key 0 = hashI key (rng n) ∧ HashOk n (s.pick key 0) := by
  have hc : s.cand 0 = rng n := by rw [← h.n]; exact h.up.cand 0
  refine ⟨by rw [hc]; exact rng_ne hn, ?_, h.k, by rw [pick_len]; exact h.n, h.up.pick key 0 (by rw [h.n]; omega), rfl⟩
  show pickI s.k (un s.V) s.nx key (s.cand 0) = _
  unfold pickI
  rw [if_neg (by rw [h.k]; decide), if_neg (by rw [h.k]; decide), if_neg (by rw [h.k]; decide), hc]
theorem HashOk.out {n : Nat} {s : BS} (h : HashOk n s) {g : Nat} (hg : g < n) (key : ByteArray) :
    (s.setup g false).last = 0 ∧ (n = 1 → (s.setup g false).cand 0 = []) ∧ (2 ≤ n → (s.setup g false).cand 0 ≠ [] ∧ ∃ z : Int, (s.setup g false).pickI key 0 = z ∧ z ≠ (g : Int) ∧ (hashI key (rng n) ≠ (g : Int) → z = hashI key (rng n))) := by
  have hul : (un s.V).length = n := by rw [un_len, h.n]
  have hlen : (s.setup g false).V.length = n := by show (((un s.V).set g _).map vw).length = n; rw [List.length_map, List.length_set, hul]
  have hok : ∀ i, i < n → okAt (un (s.setup g false).V) 0 i = decide (i ≠ g) := fun i hi => by
    have e := cv_ok (L := un (s.setup g false).V) (L2 := (un s.V).set g { gB (un s.V) (g : Int) with up := false }) (by rw [vw_un]; rfl) 0 i
    rw [e]
    by_cases hig : i = g
    · subst hig
      unfold okAt
      rw [List.getElem?_set, if_pos rfl, if_pos (by omega)]
      simp
    · have e2 : okAt ((un s.V).set g { gB (un s.V) (g : Int) with up := false }) 0 i = okAt (un s.V) 0 i := by
        unfold okAt
        rw [List.getElem?_set, if_neg (fun e => hig e.symm)]
      rw [e2, h.up.ok 0 (by rw [h.n]; exact hi)]
      simp [hig]
  have hc : (s.setup g false).cand 0 = ((List.range n).filter (fun i => decide (i ≠ g))).map (fun i : Nat => (i : Int)) := by
    show cand (un (s.setup g false).V) 0 = _
    unfold cand candK
    rw [un_len, hlen]
    refine congrArg _ (List.filter_congr fun i hi => hok i (List.mem_range.1 hi))
  have hmem : ∀ a ∈ (s.setup g false).cand 0, a ∈ rng n ∧ a ≠ (g : Int) := fun a ha => by
    rw [hc] at ha
    obtain ⟨i, hi, rfl⟩ := List.mem_map.1 ha
    obtain ⟨h1, h2⟩ := List.mem_filter.1 hi
    have h2 := of_decide_eq_true h2
    exact ⟨List.mem_map.2 ⟨i, h1, rfl⟩, by omega⟩
  refine ⟨h.last, fun h1 => ?_, fun h2 => ?_⟩
  · subst h1
    obtain rfl : g = 0 := by omega
    rw [hc]; rfl
  · have hne : (s.setup g false).cand 0 ≠ [] := fun e => by
      have hj : ∃ j, j < n ∧ j ≠ g := by
        by_cases q : g = 0
        · exact ⟨1, by omega, by omega⟩
        · exact ⟨0, by omega, fun e => q e.symm⟩
      obtain ⟨j, hj1, hj2⟩ := hj
      have : (j : Int) ∈ (s.setup g false).cand 0 := by
        rw [hc]; exact List.mem_map.2 ⟨j, List.mem_filter.2 ⟨List.mem_range.2 hj1, decide_eq_true hj2⟩, rfl⟩
      rw [e] at this; cases this
    have hp : (s.setup g false).pickI key 0 = hashI key ((s.setup g false).cand 0) := by
      show pickI s.k _ _ key _ = _
      unfold pickI
      rw [if_neg (by rw [h.k]; decide), if_neg (by rw [h.k]; decide), if_neg (by rw [h.k]; decide)]
    refine ⟨hne, _, hp, (hmem _ (sel_mem _ hne)).2, fun hx => ?_⟩
    refine hash_sub (fun a ha => (hmem a ha).1) hne ?_
    have hx2 := sel_mem (fun a b => decide (0 < hashQ key a b)) (rng_ne (show 1 ≤ n by omega))
    obtain ⟨i, hi, e⟩ := List.mem_map.1 hx2
    rw [hc]
    refine List.mem_map.2 ⟨i, List.mem_filter.2 ⟨hi, decide_eq_true fun q => hx ?_⟩, e⟩
    rw [← q]; exact e.symm

end Go.Proofs.Ytiokpmgbabpikaa
