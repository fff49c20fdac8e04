/-
  Chapter 45 (rpc), part CvH: contracts of functions that the laws call, each for the heap it names.
-/
import Derived.Test.YtdelhikejgoffaaGreatY04
import Derived.Test.YtdelhikejgoffaaGreatRows
section
set_option linter.unusedVariables false
set_option maxRecDepth 20000
set_option maxHeartbeats 2000000
namespace Go.Proofs.YtdelhikejgoffaaGreat
structure Fr where
  k : UInt8
  b : Bs
def encA (L : List Fr) : Bs := L.flatMap fun f => encF f.k f.b
theorem encA_cons (f : Fr) (L : List Fr) : encA (f :: L) = encF f.k f.b ++ encA L := rfl
theorem encA_app (A B : List Fr) : encA (A ++ B) = encA A ++ encA B := List.flatMap_append
theorem encA_one (f : Fr) : encA [f] = encF f.k f.b := by simp [encA]
theorem encF_shape (k : UInt8) (b rest : Bs) : encF k b ++ rest = 197 :: k :: UInt8.ofNat (b.length / 256) :: UInt8.ofNat b.length :: (b ++ (twoB (sumB (innF k b)) ++ rest)) := by simp [encF, innF, twoB]
theorem u8_hi {n : Nat} (h : n < 65536) : (UInt8.ofNat (n / 256)).toNat * 256 + (UInt8.ofNat n).toNat = n := by rw [UInt8.toNat_ofNat', UInt8.toNat_ofNat']; omega
theorem nxt_enc (k : UInt8) (b rest : Bs) (hb : b.length ≤ 1024) : nxt (encF k b ++ rest) = .got k b (b.length + 6) := by
  have hs := encF_shape k b rest
  have hlen : (encF k b ++ rest).length = b.length + 6 + rest.length := by rw [List.length_append, encF_len]
  have hx0 : (encF k b ++ rest)[0]? = some 197 := by rw [hs]; rfl
  have hx2 : (encF k b ++ rest)[2]? = some (UInt8.ofNat (b.length / 256)) := by rw [hs]; rfl
  have hx3 : (encF k b ++ rest)[3]? = some (UInt8.ofNat b.length) := by rw [hs]; rfl
  have hl : lngB (encF k b ++ rest) = b.length := by rw [lngB_of hx2 hx3]; exact u8_hi (by omega)
  rw [nxt_five (by omega) hx0 rfl (by omega), hl, if_neg (by omega), if_neg (by omega)]
  have h1 : ((encF k b ++ rest).drop 1).take (3 + b.length) = innF k b := by
    rw [show (encF k b ++ rest).drop 1 = innF k b ++ (twoB (sumB (innF k b)) ++ rest) from by rw [hs]; simp [innF, twoB]]
    exact List.take_left' (by rw [innF_len]; omega)
  have h4 : (encF k b ++ rest).drop 4 = b ++ (twoB (sumB (innF k b)) ++ rest) := by rw [hs]; rfl
  have h2 : ((encF k b ++ rest).drop (4 + b.length)).take 2 = twoB (sumB (innF k b)) := by
    rw [← List.drop_drop, h4, List.drop_left]
    exact List.take_left' (by simp [twoB])
  rw [h1, h2, if_neg (by simp), h4, List.take_left]
  rw [hs]; rfl
theorem nxt_pre {k : UInt8} {b rest p q : Bs} (hp : p ++ q = encF k b ++ rest) (hlen : p.length < b.length + 6) (hb : b.length ≤ 1024) : nxt p = .wait := by
  have hs := encF_shape k b rest
  have hget : ∀ i, i < p.length → p[i]? = (encF k b ++ rest)[i]? := fun i hi => by rw [← hp, List.getElem?_append_left hi]
  by_cases h0 : p.length = 0
  · exact nxt_nil h0
  have hx0 : p[0]? = some 197 := by rw [hget 0 (by omega), hs]; rfl
  by_cases h4 : p.length < 4
  · exact nxt_four h0 hx0 rfl h4
  have hx2 : p[2]? = some (UInt8.ofNat (b.length / 256)) := by rw [hget 2 (by omega), hs]; rfl
  have hx3 : p[3]? = some (UInt8.ofNat b.length) := by rw [hget 3 (by omega), hs]; rfl
  have hl : lngB p = b.length := by rw [lngB_of hx2 hx3]; exact u8_hi (by omega)
  rw [nxt_five h0 hx0 rfl h4, hl, if_neg (by omega), if_pos (by omega)]
section
variable {Q : Type} (step : Q → UInt8 → Bs → Q × Int)
def runF (q : Q) (A : List Fr) : Q := A.foldl (fun q f => (step q f.k f.b).1) q
def okF : Q → List Fr → Prop
  | _, [] => True
  | q, f :: r => 4 ≤ f.b.length ∧ f.b.length ≤ 1024 ∧ (step q f.k f.b).2 = 0 ∧ okF (step q f.k f.b).1 r
theorem rcv_run : ∀ (n : Nat) (q : Q) (FS : List Fr) (bs rest : Bs), bs ++ rest = encA FS → okF step q FS → bs.length < n → ∃ A B bs', FS = A ++ B ∧ rcvN step n q bs = (runF step q A, bs', 0, 0) ∧ bs' ++ rest = encA B ∧ bs'.length + (encA A).length = bs.length
  | 0, _, _, _, _, _, _, h => absurd h (Nat.not_lt_zero _)
  | n + 1, q, [], bs, rest, he, _, _ => by
    have h0 : bs = [] := by have := congrArg List.length he; simp [encA] at this; exact this.1
    subst h0
    exact ⟨[], [], [], rfl, rcv_wait (nxt_nil rfl), he, rfl⟩
  | n + 1, q, f :: r, bs, rest, he, hok, hn => by
    obtain ⟨h4, h10, hs, hr⟩ := hok
    rw [encA_cons] at he
    by_cases hlt : bs.length < f.b.length + 6
    · exact ⟨[], f :: r, bs, rfl, rcv_wait (nxt_pre he hlt h10), by rw [encA_cons]; exact he, by simp [encA]⟩
    · have hel := encF_len f.k f.b
      have hbs : bs = encF f.k f.b ++ bs.drop (f.b.length + 6) := by
        have h1 := congrArg (List.take (f.b.length + 6)) he
        rw [List.take_append_of_le_length (by omega), List.take_left' (by omega)] at h1
        conv => lhs; rw [← List.take_append_drop (f.b.length + 6) bs]
        rw [h1]
      have he2 : bs.drop (f.b.length + 6) ++ rest = encA r := by
        rw [hbs, List.append_assoc] at he
        exact List.append_cancel_left he
      have hg : nxt bs = .got f.k f.b (f.b.length + 6) := by rw [hbs]; exact nxt_enc _ _ _ h10
      obtain ⟨A, B, bs', e1, e2, e3, e4⟩ := rcv_run n (step q f.k f.b).1 r (bs.drop (f.b.length + 6)) rest he2 hr (by rw [List.length_drop]; omega)
      refine ⟨f :: A, B, bs', by rw [e1]; rfl, ?_, e3, ?_⟩
      · rw [rcv_ok hg h4 hs, e2]; rfl
      · rw [encA_cons, List.length_append, hel]
        rw [List.length_drop] at e4
        omega
end
theorem val_big4 {n : Nat} (h : n < 4294967296) (r : Bs) : valB ((bigB n 4 ++ r).take 4) = n := by
  rw [List.take_left' (bigB_len n 4)]
  show valB [UInt8.ofNat (n / 16777216), UInt8.ofNat (n / 65536), UInt8.ofNat (n / 256), UInt8.ofNat (n / 1)] = n
  simp only [valB, List.foldl_cons, List.foldl_nil, UInt8.toNat_ofNat']
  omega
def reqF (id dl : Nat) (bd : Bs) : Fr := ⟨16, bigB id 4 ++ (bigB dl 8 ++ bd)⟩
def canF (id : Nat) : Fr := ⟨18, bigB id 4⟩
def repF (id code : Nat) (bd : Bs) : Fr := ⟨17, bigB id 4 ++ (bigB code 2 ++ bd)⟩
def idsC (cs : List Ca) (rs : List Res) : List Int := cs.map (fun c => (c.id : Int)) ++ rs.map (fun r => r.id)
def OkR (Dn : Nat → Bool) (Rp : Nat → Bs) (r : Res) : Prop := (r.code = 0 ∧ Dn r.id.toNat = true ∧ Rp r.id.toNat = r.body) ∨ (r.body = [] ∧ (r.code = 12 ∨ r.code = 14 ∨ r.code = 7))
structure CI (made : Nat) (R : Nat → Int) (Dn : Nat → Bool) (Rp : Nat → Bs) (cs : List Ca) (rs : List Res) : Prop where
  nd : (idsC cs rs).Nodup
  mem : ∀ i : Nat, ((i : Int) ∈ idsC cs rs ↔ 1 ≤ i ∧ i ≤ made ∧ R i = 0)
  pos : ∀ i ∈ idsC cs rs, 0 ≤ i
  ok : ∀ r ∈ rs, OkR Dn Rp r
  len : cs.length + rs.length ≤ made
  c32 : cs.length ≤ 32
  dl : ∀ c ∈ cs, c.dl ≤ 1000000
theorem flt_perm (q : Ca → Bool) : ∀ l : List Ca, (l.filter (nq q) ++ l.filter q).Perm l
  | [] => .refl _
  | c :: r => by
    by_cases h : q c = true
    · rw [List.filter_cons_of_pos h, List.filter_cons_of_neg (by simp [nq, h])]
      exact List.perm_middle.trans ((flt_perm q r).cons c)
    · rw [List.filter_cons_of_neg h, List.filter_cons_of_pos (by simp [nq, h])]
      exact (flt_perm q r).cons c
theorem ids_end (q : Ca → Bool) (code : Int) (body : Bs) (cs : List Ca) (rs : List Res) : (idsC (cs.filter (nq q)) (rs ++ (overC q code cs).map fun c => ⟨(c.id : Int), code, body⟩)).Perm (idsC cs rs) := by
  unfold idsC
  rw [List.map_append, List.map_map]
  have h1 : ((overC q code cs).map ((fun r : Res => r.id) ∘ fun c : Ca => (⟨(c.id : Int), code, body⟩ : Res))).Perm ((cs.filter q).map fun c => (c.id : Int)) := (overC_perm q code cs).map _
  refine (List.Perm.append_left _ (List.Perm.append_left _ h1)).trans ?_
  have h2 := (flt_perm q cs).map fun c => (c.id : Int)
  rw [List.map_append] at h2
  refine List.Perm.trans ?_ (h2.append_right _)
  rw [List.append_assoc]
  exact List.Perm.append_left _ List.perm_append_comm
theorem CI.endW {made : Nat} {R : Nat → Int} {Dn : Nat → Bool} {Rp : Nat → Bs} {cs : List Ca} {rs : List Res} (h : CI made R Dn Rp cs rs) {q : Ca → Bool} {code : Int} {body : Bs} (hc : ∀ c ∈ cs, q c = true → OkR Dn Rp ⟨(c.id : Int), code, body⟩) :
    CI made R Dn Rp (cs.filter (nq q)) (rs ++ (overC q code cs).map fun c => ⟨(c.id : Int), code, body⟩) := by
  have hp := ids_end q code body cs rs
  refine ⟨hp.nodup_iff.2 h.nd, fun i => by rw [hp.mem_iff]; exact h.mem i, fun i hi => h.pos i (hp.mem_iff.1 hi), fun r hr => ?_, ?_, Nat.le_trans (List.length_filter_le ..) h.c32, fun c hc => h.dl c (List.mem_filter.1 hc).1⟩
  · rcases List.mem_append.1 hr with h1 | h1
    · exact h.ok r h1
    · obtain ⟨c, h2, rfl⟩ := List.mem_map.1 h1
      have h3 := List.mem_filter.1 ((overC_perm q code cs).mem_iff.1 h2)
      exact hc c h3.1 h3.2
  · have h1 := flt_part q cs
    have h2 := (overC_perm q code cs).length_eq
    have h3 := h.len
    rw [List.length_append, List.length_map]
    omega
theorem CI.call {made : Nat} {R : Nat → Int} {Dn : Nat → Bool} {Rp : Nat → Bs} {cs : List Ca} {rs : List Res} (h : CI made R Dn Rp cs rs) (hR : R (made + 1) = 0) {dl : Nat} (hd : dl ≤ 1000000) (h32 : cs.length < 32) : CI (made + 1) R Dn Rp (cs ++ [⟨made + 1, dl⟩]) rs := by
  have hp : (idsC (cs ++ [⟨made + 1, dl⟩]) rs).Perm ((((made + 1 : Nat) : Int)) :: idsC cs rs) := by
    unfold idsC
    rw [List.map_append, List.append_assoc]
    exact List.perm_middle
  refine ⟨hp.nodup_iff.2 (List.nodup_cons.2 ⟨fun hm => ?_, h.nd⟩), fun i => ?_, fun i hi => ?_, h.ok, by have := h.len; simp; omega, by simp; omega, fun c hc => ?_⟩
  · have := (h.mem (made + 1)).1 hm; omega
  · rw [hp.mem_iff, List.mem_cons, h.mem i]
    constructor
    · rintro (e | ⟨e1, e2, e3⟩)
      · have : i = made + 1 := by omega
        subst this
        exact ⟨by omega, by omega, hR⟩
      · exact ⟨e1, by omega, e3⟩
    · rintro ⟨e1, e2, e3⟩
      by_cases e : i = made + 1
      · left; rw [e]
      · right; exact ⟨e1, by omega, e3⟩
  · rcases List.mem_cons.1 (hp.mem_iff.1 hi) with e | e
    · omega
    · exact h.pos i e
  · rcases List.mem_append.1 hc with e | e
    · exact h.dl c e
    · rw [List.mem_singleton.1 e]; exact hd
theorem CI.upd {made : Nat} {R : Nat → Int} {Dn Dn' : Nat → Bool} {Rp Rp' : Nat → Bs} {cs : List Ca} {rs : List Res} (h : CI made R Dn Rp cs rs) (hm : ∀ i, Dn i = true → Dn' i = true ∧ Rp' i = Rp i) : CI made R Dn' Rp' cs rs :=
  ⟨h.nd, h.mem, h.pos, fun r hr => (h.ok r hr).imp (fun ⟨a, b, c⟩ => ⟨a, (hm _ b).1, by rw [(hm _ b).2]; exact c⟩) id, h.len, h.c32, h.dl⟩
/-- A frame that a client may get. -/
def DnOk (made : Nat) (Dn : Nat → Bool) (Rp : Nat → Bs) (f : Fr) : Prop := ∃ id code bd, f = repF id code bd ∧ 0 < id ∧ id ≤ made ∧ bd.length ≤ 1018 ∧ ((code = 0 ∧ Dn id = true ∧ Rp id = bd) ∨ (code = 7 ∧ bd = []))
theorem DnOk.upd {made made' : Nat} {Dn Dn' : Nat → Bool} {Rp Rp' : Nat → Bs} {f : Fr} (h : DnOk made Dn Rp f) (hl : made ≤ made') (hm : ∀ i, Dn i = true → Dn' i = true ∧ Rp' i = Rp i) : DnOk made' Dn' Rp' f := by
  obtain ⟨id, code, bd, h1, h2, h3, h4, h5⟩ := h
  exact ⟨id, code, bd, h1, h2, by omega, h4, h5.imp (fun ⟨a, b, c⟩ => ⟨a, (hm _ b).1, by rw [(hm _ b).2]; exact c⟩) (fun e => e)⟩
/-- The frames on the way to a server that has seen 'last'. -/
def okU (fin : Nat) : Nat → List Fr → Prop
  | last, [] => last = fin
  | last, f :: r => (∃ dl bd, f = reqF (last + 1) dl bd ∧ bd.length ≤ 1012 ∧ okU fin (last + 1) r) ∨ (∃ id, f = canF id ∧ 0 < id ∧ id ≤ last ∧ okU fin last r)
theorem okU_le {fin : Nat} : ∀ (L : List Fr) (last : Nat), okU fin last L → last ≤ fin
  | [], _, h => Nat.le_of_eq h
  | f :: r, last, h => by
    rcases h with ⟨_, _, _, _, h⟩ | ⟨_, _, _, _, h⟩
    · have := okU_le r _ h; omega
    · exact okU_le r _ h
theorem okU_req {fin : Nat} {dl : Nat} {bd : Bs} (hb : bd.length ≤ 1012) : ∀ (L : List Fr) (last : Nat), okU fin last L → okU (fin + 1) last (L ++ [reqF (fin + 1) dl bd])
  | [], last, h => by have h : last = fin := h; subst h; exact .inl ⟨dl, bd, rfl, hb, rfl⟩
  | f :: r, last, h => by
    rcases h with ⟨a, b, c, d, h⟩ | ⟨a, b, c, d, h⟩
    · exact .inl ⟨a, b, c, d, okU_req hb r _ h⟩
    · exact .inr ⟨a, b, c, d, okU_req hb r _ h⟩
theorem okU_can {fin : Nat} {id : Nat} (h1 : 0 < id) (h2 : id ≤ fin) : ∀ (L : List Fr) (last : Nat), okU fin last L → okU fin last (L ++ [canF id])
  | [], last, h => by have h : last = fin := h; subst h; exact .inr ⟨id, rfl, h1, h2, rfl⟩
  | f :: r, last, h => by
    rcases h with ⟨a, b, c, d, h⟩ | ⟨a, b, c, d, h⟩
    · exact .inl ⟨a, b, c, d, okU_can h1 h2 r _ h⟩
    · exact .inr ⟨a, b, c, d, okU_can h1 h2 r _ h⟩
theorem cnlF_enc (W : List Ca) : cnlF W = encA (W.map fun c => canF c.id) := by unfold cnlF encA; rw [List.flatMap_map]; rfl
theorem okU_cans {fin last : Nat} : ∀ (W : List Ca) (L : List Fr), (∀ c ∈ W, 0 < c.id ∧ c.id ≤ fin) → okU fin last L → okU fin last (L ++ W.map fun c => canF c.id)
  | [], L, _, h => by simpa using h
  | c :: r, L, hW, h => by
    have h1 := hW c (List.mem_cons_self ..)
    have h2 := okU_cans r (L ++ [canF c.id]) (fun c hc => hW c (List.mem_cons_of_mem _ hc)) (okU_can h1.1 h1.2 L last h)
    simpa using h2
structure SvI (u : PV) : Prop where
  o32 : u.opn.length ≤ 32
  nd : u.opn.Nodup
  opn : ∀ i ∈ u.opn, 1 ≤ i ∧ i ≤ (u.last : Int)
  qu : ∀ r ∈ u.qu, 1 ≤ r.id ∧ r.id ≤ (u.last : Int)
  ql : u.qu.length ≤ u.last
theorem delI_nd {id : Int} : ∀ {l : List Int}, l.Nodup → (delI id l).Nodup ∧ id ∉ delI id l
  | [], _ => ⟨List.nodup_nil, by simp [delI]⟩
  | x :: r, h => by
    obtain ⟨h1, h2⟩ := List.nodup_cons.1 h
    unfold delI
    split
    · rename_i e; subst e; exact ⟨h2, h1⟩
    · rename_i e
      obtain ⟨g1, g2⟩ := delI_nd (id := id) h2
      exact ⟨List.nodup_cons.2 ⟨fun hm => h1 (delI_sub hm), g1⟩, fun hm => by rcases List.mem_cons.1 hm with e2 | e2; exact e e2; exact g2 e2⟩
theorem SvI.close {u : PV} (h : SvI u) (id : Int) : SvI (u.close id) ∧ (∀ i ∈ (u.close id).opn, i ∈ u.opn) ∧ id ∉ (u.close id).opn := by
  unfold PV.close
  split
  · have hd := delI_nd (id := id) h.nd
    refine ⟨⟨Nat.le_trans (delI_len ..) h.o32, hd.1, fun i hi => h.opn i (delI_sub hi), fun r hr => h.qu r (List.mem_filter.1 hr).1, ?_⟩, fun i hi => delI_sub hi, hd.2⟩
    have h2 : (u.qu.filter (notId id)).length ≤ u.qu.length := List.length_filter_le ..
    have := h.ql
    show (u.qu.filter (notId id)).length ≤ u.last
    omega
  · rename_i hn
    refine ⟨h, fun i hi => hi, fun hm => hn ?_⟩
    rw [List.any_eq_true]
    exact ⟨id, hm, decide_eq_true rfl⟩
theorem close_same (u : PV) (id : Int) : (u.close id).last = u.last ∧ (u.close id).out = u.out ∧ (u.close id).br = u.br ∧ (u.close id).rb = u.rb ∧ (u.close id).bs = u.bs := by unfold PV.close; split <;> exact ⟨rfl, rfl, rfl, rfl, rfl⟩
theorem runU {fin : Nat} (hfin : fin < 4294967296) : ∀ (A B : List Fr) (u : PV), okU fin u.last (A ++ B) → SvI u → okF PV.step u (A ++ B) ∧ okU fin (runF PV.step u A).last B ∧ SvI (runF PV.step u A) ∧ u.last ≤ (runF PV.step u A).last ∧ (runF PV.step u A).br = u.br ∧ (runF PV.step u A).rb = u.rb ∧
    (∀ i ∈ (runF PV.step u A).opn, i ∈ u.opn ∨ (u.last : Int) < i) ∧ ∃ D, (runF PV.step u A).out = u.out ++ encA D ∧ (∀ f ∈ D, ∃ id, f = repF id 7 [] ∧ 0 < id ∧ id ≤ fin) ∧ (encA D).length ≤ (encA A).length := by
  have key : ∀ (L : List Fr) (u : PV), okU fin u.last L → okF PV.step u L := by
    intro L
    induction L with
    | nil => intro u _; trivial
    | cons f r ih =>
      intro u h
      have hlf := okU_le _ _ h
      rcases h with ⟨dl, bd, rfl, hb, h⟩ | ⟨id, rfl, h1, h2, h⟩
      · have hlf2 := okU_le _ _ h
        have hlen : (reqF (u.last + 1) dl bd).b.length = 12 + bd.length := by simp [reqF, bigB_len]; omega
        have hv : valB ((reqF (u.last + 1) dl bd).b.take 4) = u.last + 1 := val_big4 (by omega) _
        have hs : (u.step 16 (reqF (u.last + 1) dl bd).b).2 = 0 ∧ (u.step 16 (reqF (u.last + 1) dl bd).b).1.last = u.last + 1 := by
          unfold PV.step
          rw [if_pos ⟨rfl, by omega⟩, hv, if_neg (fun e => e rfl)]
          split <;> exact ⟨rfl, rfl⟩
        exact ⟨by omega, by omega, hs.1, ih _ (by show okU fin (u.step 16 (reqF (u.last + 1) dl bd).b).1.last r; rw [hs.2]; exact h)⟩
      · have hlen : (canF id).b.length = 4 := bigB_len _ _
        have hv : valB ((canF id).b.take 4) = id := by have := val_big4 (n := id) (by omega) []; rwa [List.append_nil] at this
        have hs : (u.step 18 (canF id).b).2 = 0 ∧ (u.step 18 (canF id).b).1.last = u.last := by
          unfold PV.step
          rw [if_neg (fun e => absurd e.1 (by decide)), if_pos ⟨rfl, hlen⟩, hv, if_neg (fun e => e ⟨h1, h2⟩)]
          exact ⟨rfl, (close_same u _).1⟩
        exact ⟨by omega, by omega, hs.1, ih _ (by show okU fin (u.step 18 (canF id).b).1.last r; rw [hs.2]; exact h)⟩
  intro A
  induction A with
  | nil => exact fun B u h hs => ⟨key _ _ h, h, hs, Nat.le_refl _, rfl, rfl, fun i hi => .inl hi, [], by simp [runF, encA], (fun f hf => by cases hf), by simp [encA]⟩
  | cons f r ih =>
    intro B u h hs
    have hok := key _ _ h
    have hlf := okU_le _ _ h
    refine ⟨hok, ?_⟩
    show okU fin (runF PV.step (u.step f.k f.b).1 r).last B ∧ SvI (runF PV.step (u.step f.k f.b).1 r) ∧ u.last ≤ (runF PV.step (u.step f.k f.b).1 r).last ∧ (runF PV.step (u.step f.k f.b).1 r).br = u.br ∧ (runF PV.step (u.step f.k f.b).1 r).rb = u.rb ∧
      (∀ i ∈ (runF PV.step (u.step f.k f.b).1 r).opn, i ∈ u.opn ∨ (u.last : Int) < i) ∧ ∃ D, (runF PV.step (u.step f.k f.b).1 r).out = u.out ++ encA D ∧ (∀ f ∈ D, ∃ id, f = repF id 7 [] ∧ 0 < id ∧ id ≤ fin) ∧ (encA D).length ≤ (encA (f :: r)).length
    rw [encA_cons, List.length_append, encF_len]
    rcases h with ⟨dl, bd, rfl, hb, h⟩ | ⟨id, rfl, h1, h2, h⟩
    · have hlf2 := okU_le _ _ h
      have hlen : (reqF (u.last + 1) dl bd).b.length = 12 + bd.length := by simp [reqF, bigB_len]; omega
      have hv : valB ((reqF (u.last + 1) dl bd).b.take 4) = u.last + 1 := val_big4 (by omega) _
      by_cases hf : 32 ≤ u.opn.length
      · have hst : u.step 16 (reqF (u.last + 1) dl bd).b = ({ u with last := u.last + 1, out := u.out ++ encF 17 (bigB (u.last + 1) 4 ++ [0, 7]) }, 0) := by
          unfold PV.step
          rw [if_pos ⟨rfl, by omega⟩, hv, if_neg (fun e => e rfl), if_pos hf]
        rw [show (reqF (u.last + 1) dl bd).k = 16 from rfl, hst]
        obtain ⟨-, g1, g2, g3, g4, g5, g6, D, g7, g8, g9⟩ := ih B { u with last := u.last + 1, out := u.out ++ encF 17 (bigB (u.last + 1) 4 ++ [0, 7]) } h ⟨hs.o32, hs.nd, fun i hi => by have := hs.opn i hi; show 1 ≤ i ∧ i ≤ ((u.last + 1 : Nat) : Int); omega, fun r hr => by have := hs.qu r hr; show 1 ≤ r.id ∧ r.id ≤ ((u.last + 1 : Nat) : Int); omega, by have := hs.ql; show u.qu.length ≤ u.last + 1; omega⟩
        refine ⟨g1, g2, Nat.le_of_succ_le g3, g4, g5, fun i hi => ?_, repF (u.last + 1) 7 [] :: D, ?_, fun f hf9 => ?_, ?_⟩
        · rcases g6 i hi with e | e
          · exact .inl e
          · right; have e : ((u.last + 1 : Nat) : Int) < i := e; omega
        · rw [g7, encA_cons, ← List.append_assoc]
          congr 2
        · rcases List.mem_cons.1 hf9 with rfl | e
          · exact ⟨u.last + 1, rfl, by omega, by omega⟩
          · exact g8 f e
        · rw [encA_cons, List.length_append, encF_len]
          simp only [repF, List.length_append, bigB_len, List.length_nil]
          omega
      · have hst : u.step 16 (reqF (u.last + 1) dl bd).b = ({ u with last := u.last + 1, opn := u.opn ++ [((u.last + 1 : Nat) : Int)], qu := u.qu ++ [⟨((u.last + 1 : Nat) : Int), valB (((reqF (u.last + 1) dl bd).b.drop 4).take 8), (reqF (u.last + 1) dl bd).b.drop 12⟩] }, 0) := by
          unfold PV.step
          rw [if_pos ⟨rfl, by omega⟩, hv, if_neg (fun e => e rfl), if_neg hf]
        rw [show (reqF (u.last + 1) dl bd).k = 16 from rfl, hst]
        obtain ⟨-, g1, g2, g3, g4, g5, g6, D, g7, g8, g9⟩ := ih B { u with last := u.last + 1, opn := u.opn ++ [((u.last + 1 : Nat) : Int)], qu := u.qu ++ [⟨((u.last + 1 : Nat) : Int), valB (((reqF (u.last + 1) dl bd).b.drop 4).take 8), (reqF (u.last + 1) dl bd).b.drop 12⟩] } h
          ⟨by show (u.opn ++ _).length ≤ 32; simp; omega, List.nodup_append.2 ⟨hs.nd, by simp, fun a ha b hb e => by rw [List.mem_singleton.1 hb] at e; have := hs.opn a ha; omega⟩, fun i hi => by
            rcases List.mem_append.1 hi with e | e
            · have := hs.opn i e; show 1 ≤ i ∧ i ≤ ((u.last + 1 : Nat) : Int); omega
            · rw [List.mem_singleton.1 e]; show 1 ≤ ((u.last + 1 : Nat) : Int) ∧ ((u.last + 1 : Nat) : Int) ≤ ((u.last + 1 : Nat) : Int); omega, fun r hr => by
            rcases List.mem_append.1 hr with e | e
            · have := hs.qu r e; show 1 ≤ r.id ∧ r.id ≤ ((u.last + 1 : Nat) : Int); omega
            · rw [List.mem_singleton.1 e]; show 1 ≤ ((u.last + 1 : Nat) : Int) ∧ ((u.last + 1 : Nat) : Int) ≤ ((u.last + 1 : Nat) : Int); omega, by have := hs.ql; show (u.qu ++ _).length ≤ u.last + 1; simp; omega⟩
        refine ⟨g1, g2, Nat.le_of_succ_le g3, g4, g5, fun i hi => ?_, D, g7, g8, by omega⟩
        rcases g6 i hi with e | e
        · rcases List.mem_append.1 e with e | e
          · exact .inl e
          · right; rw [List.mem_singleton.1 e]; omega
        · right; have e : ((u.last + 1 : Nat) : Int) < i := e; omega
    · have hlen : (canF id).b.length = 4 := bigB_len _ _
      have hv : valB ((canF id).b.take 4) = id := by have := val_big4 (n := id) (by omega) []; rwa [List.append_nil] at this
      have hst : u.step 18 (canF id).b = (u.close (id : Int), 0) := by
        unfold PV.step
        rw [if_neg (fun e => absurd e.1 (by decide)), if_pos ⟨rfl, hlen⟩, hv, if_neg (fun e => e ⟨h1, h2⟩)]
      rw [show (canF id).k = 18 from rfl, hst]
      obtain ⟨c1, c2, c3, c4, c5⟩ := close_same u (id : Int)
      obtain ⟨s1, s2, s3⟩ := hs.close (id : Int)
      obtain ⟨-, g1, g2, g3, g4, g5, g6, D, g7, g8, g9⟩ := ih B (u.close (id : Int)) (by rw [c1]; exact h) s1
      rw [c1] at g3 g6
      exact ⟨g1, g2, g3, g4.trans c3, g5.trans c4, fun i hi => (g6 i hi).imp (s2 i) (fun e => e), D, by rw [g7, c2], g8, by omega⟩
end Go.Proofs.YtdelhikejgoffaaGreat
end
section
set_option linter.unusedVariables false
set_option maxRecDepth 20000
set_option maxHeartbeats 2000000
namespace Go.Proofs.YtdelhikejgoffaaGreat
def pcbB (x : PC) : Bool := decide (x.out.length ≤ 200000) && (decide (x.bs.length ≤ 65536) && (decide (x.last ≤ 1000000) && (decide (x.calls.length ≤ 32) && (decide (x.calls.length + x.res.length ≤ 100000) && (decide (x.now ≤ 18446744073709551615) && (x.calls.all (fun c => decide (c.dl ≤ 18446744073709551615) && decide (c.id ≤ 1000000)) && (decide (x.br ≠ 0) || decide (x.rb = 0))))))))
theorem PCB.of {x : PC} (h : pcbB x = true) : PCB x := by
  simp only [pcbB, Bool.and_eq_true, decide_eq_true_eq, List.all_eq_true, Bool.or_eq_true] at h
  obtain ⟨h1, h2, h3, h4, h5, h6, h7, h8⟩ := h
  exact ⟨h1, h2, h3, h4, h5, h6, fun c hc => (h7 c hc).1, fun c hc => (h7 c hc).2, fun e => h8.resolve_left (fun n => n e)⟩
def pvbB (x : PV) : Bool := decide (x.out.length ≤ 200000) && (decide (x.bs.length ≤ 65536) && (decide (x.last < 4294967296) && (decide (x.opn.length ≤ 32) && (decide (x.qu.length ≤ 200000) && (x.opn.all (fun i => decide (0 ≤ i) && decide (i < 4294967296)) && (decide (x.br ≠ 0) || decide (x.rb = 0)))))))
theorem PVB.of {x : PV} (h : pvbB x = true) : PVB x := by
  simp only [pvbB, Bool.and_eq_true, decide_eq_true_eq, List.all_eq_true, Bool.or_eq_true] at h
  obtain ⟨h1, h2, h3, h4, h5, h6, h8⟩ := h
  exact ⟨h1, h2, h3, h4, h5, h6, fun e => h8.resolve_left (fun n => n e)⟩
theorem pc0b : PCB pc0 := PCB.of (by kernel_rfl)
theorem pv0b : PVB pv0 := PVB.of (by kernel_rfl)
theorem RdB.cst (b : Nat) (l : Bs) {fr : Nat × Nat} : RdB (some ⟨b, 0, none⟩) ⟨some b, .cells (List.toArray (bvs l)) 5 fr⟩ l := fun _ => ⟨b, 0, _, _, fr, rfl, rfl, fun j v hj => by rw [Nat.zero_add]; exact hj⟩
theorem kf1 : (pc0.call [97, 98] 10).2 = (1, 0) := by kernel_rfl
def kc1 : PC := (pc0.call [97, 98] 10).1
theorem kc1b : PCB kc1 := PCB.of (by kernel_rfl)
theorem kf2 : (kc1.call [] 5).2 = (2, 0) := by kernel_rfl
def kc2 : PC := (kc1.call [] 5).1
theorem kc2b : PCB kc2 := PCB.of (by kernel_rfl)
theorem kf3 : (kc2.call [120] 0).2 = (0, 2) := by kernel_rfl
def kc3 : PC := (kc2.call [120] 0).1
theorem kc3b : PCB kc3 := PCB.of (by kernel_rfl)
theorem kf4 : (pv0.recv (kc3.out.take 65536)).2 = 0 := by kernel_rfl
def ks1 : PV := (pv0.recv (kc3.out.take 65536)).1
theorem ks1b : PVB ks1 := PVB.of (by kernel_rfl)
def kc4 : PC := { kc3 with out := kc3.out.drop 65536 }
theorem kc4b : PCB kc4 := PCB.of (by kernel_rfl)
theorem kf5 : ks1.asks 1 10 [97, 98] = true := by kernel_rfl
def ks2 : PV := ks1.next.1
theorem ks2b : PVB ks2 := PVB.of (by kernel_rfl)
theorem kf6 : ks2.asks 2 5 [] = true := by kernel_rfl
def ks3 : PV := ks2.next.1
theorem ks3b : PVB ks3 := PVB.of (by kernel_rfl)
theorem kf7 : (ks3.reply 1 0 [121, 101, 115]).2 = 0 := by kernel_rfl
def ks4 : PV := (ks3.reply 1 0 [121, 101, 115]).1
theorem ks4b : PVB ks4 := PVB.of (by kernel_rfl)
theorem kf8 : (kc4.recv (ks4.out.take 65536)).2 = 0 := by kernel_rfl
def kc5 : PC := (kc4.recv (ks4.out.take 65536)).1
theorem kc5b : PCB kc5 := PCB.of (by kernel_rfl)
def ks5 : PV := { ks4 with out := ks4.out.drop 65536 }
theorem ks5b : PVB ks5 := PVB.of (by kernel_rfl)
theorem kf9 : kc5.ends 1 0 [121, 101, 115] = true := by kernel_rfl
theorem kf10 : kc5.res.all (fun r => decide (r.body.length ≤ 1000000)) = true := by kernel_rfl
def kc6 : PC := kc5.next.1
theorem kc6b : PCB kc6 := PCB.of (by kernel_rfl)
theorem kf11 : (ks5.reply 1 0 [110, 111]).2 = 9 := by kernel_rfl
def ks6 : PV := (ks5.reply 1 0 [110, 111]).1
theorem ks6b : PVB ks6 := PVB.of (by kernel_rfl)
theorem kf12 : (kc6.advance 5).2 = 0 := by kernel_rfl
def kc7 : PC := (kc6.advance 5).1
theorem kc7b : PCB kc7 := PCB.of (by kernel_rfl)
theorem kf13 : kc7.ends 2 12 [] = true := by kernel_rfl
theorem kf14 : kc7.res.all (fun r => decide (r.body.length ≤ 1000000)) = true := by kernel_rfl
def kc8 : PC := kc7.next.1
theorem kc8b : PCB kc8 := PCB.of (by kernel_rfl)
theorem kf15 : (ks6.recv (kc8.out.take 65536)).2 = 0 := by kernel_rfl
def ks7 : PV := (ks6.recv (kc8.out.take 65536)).1
theorem ks7b : PVB ks7 := PVB.of (by kernel_rfl)
def kc9 : PC := { kc8 with out := kc8.out.drop 65536 }
theorem kc9b : PCB kc9 := PCB.of (by kernel_rfl)
theorem kf16 : ks7.opn = [] := by kernel_rfl
theorem kf17 : (ks7.reply 2 0 []).2 = 9 := by kernel_rfl
def ks8 : PV := (ks7.reply 2 0 []).1
theorem ks8b : PVB ks8 := PVB.of (by kernel_rfl)
theorem kf18 : (kc9.call [122] 9).2 = (3, 0) := by kernel_rfl
def kc10 : PC := (kc9.call [122] 9).1
theorem kc10b : PCB kc10 := PCB.of (by kernel_rfl)
theorem kf19 : (ks8.recv (kc10.out.take 65536)).2 = 0 := by kernel_rfl
def ks9 : PV := (ks8.recv (kc10.out.take 65536)).1
theorem ks9b : PVB ks9 := PVB.of (by kernel_rfl)
def kc11 : PC := { kc10 with out := kc10.out.drop 65536 }
theorem kc11b : PCB kc11 := PCB.of (by kernel_rfl)
theorem kf20 : (kc11.cancel 3).2 = 0 := by kernel_rfl
def kc12 : PC := (kc11.cancel 3).1
theorem kc12b : PCB kc12 := PCB.of (by kernel_rfl)
theorem kf21 : (ks9.recv (kc12.out.take 65536)).2 = 0 := by kernel_rfl
def ks10 : PV := (ks9.recv (kc12.out.take 65536)).1
theorem ks10b : PVB ks10 := PVB.of (by kernel_rfl)
def kc13 : PC := { kc12 with out := kc12.out.drop 65536 }
theorem kc13b : PCB kc13 := PCB.of (by kernel_rfl)
theorem kf22 : (kc13.cancel 3).2 = 9 := by kernel_rfl
def kc14 : PC := (kc13.cancel 3).1
theorem kc14b : PCB kc14 := PCB.of (by kernel_rfl)
theorem kf23 : kc14.ends 3 14 [] = true := by kernel_rfl
theorem kf24 : kc14.res.all (fun r => decide (r.body.length ≤ 1000000)) = true := by kernel_rfl
def kc15 : PC := kc14.next.1
theorem kf25 : ks10.qu = [] := by kernel_rfl
end Go.Proofs.YtdelhikejgoffaaGreat
end
section
set_option linter.unusedVariables false
set_option maxRecDepth 20000
set_option maxHeartbeats 2000000
namespace Go.Proofs.YtdelhikejgoffaaGreat
def updB (D : Nat → Bool) (i : Nat) : Nat → Bool := fun j => if j = i then true else D j
def updP (P : Nat → Bs) (i : Nat) (b : Bs) : Nat → Bs := fun j => if j = i then b else P j
structure HI (n : Nat) (v : PC) (u : PV) (made now : Nat) (R : Nat → Int) (Dn : Nat → Bool) (Rp : Nat → Bs) (T : List Int) : Prop where
  vbr : v.br = 0
  vrb : v.rb = 0
  vlast : v.last = made
  vnow : v.now = now
  ubr : u.br = 0
  urb : u.rb = 0
  si : SvI u
  fu : ∃ FU, u.bs ++ v.out = encA FU ∧ okU made u.last FU
  fd : ∃ FD, v.bs ++ u.out = encA FD ∧ ∀ f ∈ FD, DnOk made Dn Rp f
  ci : CI made R Dn Rp v.calls v.res
  mn : made ≤ n
  nn : now ≤ 600 * n
  sz : v.out.length + u.bs.length + u.out.length + v.bs.length ≤ 700 * n
  r0 : ∀ i, made < i → R i = 0
  r01 : ∀ i, R i = 0 ∨ R i = 1
  dn : ∀ i : Nat, Dn i = true → i ≤ u.last ∧ (i : Int) ∉ u.opn
  tk : ∀ t ∈ T, 1 ≤ t ∧ t ≤ (u.last : Int)
section
variable {n : Nat} {v : PC} {u : PV} {made now : Nat} {R : Nat → Int} {Dn : Nat → Bool} {Rp : Nat → Bs} {T : List Int}
theorem HI.ul (h : HI n v u made now R Dn Rp T) : u.last ≤ made := by obtain ⟨FU, _, h2⟩ := h.fu; exact okU_le _ _ h2
theorem HI.mono (h : HI n v u made now R Dn Rp T) : HI (n + 1) v u made now R Dn Rp T :=
  ⟨h.vbr, h.vrb, h.vlast, h.vnow, h.ubr, h.urb, h.si, h.fu, h.fd, h.ci, Nat.le_succ_of_le h.mn, by have := h.nn; omega, by have := h.sz; omega, h.r0, h.r01, h.dn, h.tk⟩
theorem HI.pcb (h : HI n v u made now R Dn Rp T) (hn : n ≤ 41) : PCB v := by
  have h1 := h.sz
  have h2 := h.mn
  have h3 := h.nn
  have h4 := h.ci.len
  refine ⟨by omega, by omega, by rw [h.vlast]; omega, h.ci.c32, by omega, by rw [h.vnow]; omega, fun c hc => by have := h.ci.dl c hc; omega, fun c hc => ?_, fun _ => h.vrb⟩
  have h5 := (h.ci.mem c.id).1 (List.mem_append_left _ (List.mem_map_of_mem hc))
  omega
theorem HI.call (h : HI n v u made now R Dn Rp T) (hc : v.closed = false) (hn : n < 41) {bd : Bs} (hb : bd.length ≤ 600) {m : Nat} (hm : m ≤ 600) :
    ((v.call bd (now + m + 1)).2 = (((made + 1 : Nat) : Int), 0) ∧ (v.call bd (now + m + 1)).1.closed = false ∧ HI (n + 1) (v.call bd (now + m + 1)).1 u (made + 1) now R Dn Rp T) ∨ ((v.call bd (now + m + 1)).2 = (0, 7) ∧ (v.call bd (now + m + 1)).1 = v) := by
  have h1 := h.sz
  have h2 := h.nn
  unfold PC.call
  rw [if_neg (by rw [h.vnow]; omega), if_neg (by rw [hc, h.vbr]; simp), if_neg (by omega)]
  by_cases hf : 32 ≤ v.calls.length ∨ 65536 < v.out.length
  · rw [if_pos hf]; exact .inr ⟨rfl, rfl⟩
  · rw [if_neg hf]
    left
    obtain ⟨FU, f1, f2⟩ := h.fu
    obtain ⟨FD, g1, g2⟩ := h.fd
    refine ⟨by rw [h.vlast], hc, ⟨h.vbr, h.vrb, by show v.last + 1 = made + 1; rw [h.vlast], h.vnow, h.ubr, h.urb, h.si, ⟨FU ++ [reqF (made + 1) (now + m + 1) bd], ?_, okU_req (by omega) _ _ f2⟩, ⟨FD, g1, fun f hf => (g2 f hf).upd (Nat.le_succ _) fun i hi => ⟨hi, rfl⟩⟩, ?_, by have := h.mn; omega, by omega, ?_, fun i hi => h.r0 i (by omega), h.r01, h.dn, h.tk⟩⟩
    · show u.bs ++ (v.out ++ encF 16 (bigB (v.last + 1) 4 ++ (bigB (now + m + 1) 8 ++ bd))) = _
      rw [← List.append_assoc, f1, encA_app, encA_one, h.vlast]; rfl
    · show CI (made + 1) R Dn Rp (v.calls ++ [⟨v.last + 1, now + m + 1⟩]) v.res
      rw [h.vlast]
      exact h.ci.call (h.r0 _ (Nat.lt_succ_self _)) (by omega) (by omega)
    · show (v.out ++ encF 16 (bigB (v.last + 1) 4 ++ (bigB (now + m + 1) 8 ++ bd))).length + u.bs.length + u.out.length + v.bs.length ≤ 700 * (n + 1)
      rw [List.length_append, encF_len, List.length_append, List.length_append, bigB_len, bigB_len]
      omega
theorem HI.endc (h : HI n v u made now R Dn Rp T) (q : Ca → Bool) (code : Int) (hcode : code = 12 ∨ code = 14) (now2 : Nat) (hnow2 : now2 ≤ 600 * (n + 1)) :
    HI (n + 1) { ({ v with now := now2 } : PC).endW q code [] with out := v.out ++ cnlF (overC q code v.calls) } u made now2 R Dn Rp T := by
  obtain ⟨FU, f1, f2⟩ := h.fu
  have h1 := h.sz
  have h32 := h.ci.c32
  have hlen := overC_len q code v.calls
  refine ⟨h.vbr, h.vrb, h.vlast, rfl, h.ubr, h.urb, h.si, ⟨FU ++ (overC q code v.calls).map fun c => canF c.id, ?_, okU_cans _ _ (fun c hc => ?_) f2⟩, h.fd, h.ci.endW fun c _ _ => .inr ⟨rfl, hcode.imp id .inl⟩, by have := h.mn; omega, hnow2, ?_, h.r0, h.r01, h.dn, h.tk⟩
  · show u.bs ++ (v.out ++ cnlF _) = _
    rw [← List.append_assoc, f1, encA_app, cnlF_enc]
  · have h5 := (h.ci.mem c.id).1 (List.mem_append_left _ (List.mem_map_of_mem (overC_mem hc)))
    omega
  · show (v.out ++ cnlF (overC q code v.calls)).length + _ + _ + _ ≤ _
    rw [List.length_append, cnlF_len]
    show _ + _ + _ + v.bs.length ≤ _
    omega
theorem HI.cancel (h : HI n v u made now R Dn Rp T) (id : Int) : (v.cancel id).1.closed = v.closed ∧ HI (n + 1) (v.cancel id).1 u made now R Dn Rp T := by
  unfold PC.cancel
  split
  · exact ⟨rfl, h.mono⟩
  · split
    · exact ⟨rfl, h.mono⟩
    · split
      · exact ⟨rfl, h.mono⟩
      · refine ⟨rfl, ?_⟩
        have h9 := h.endc (isId id) 14 (.inr rfl) now (by have := h.nn; omega)
        have e : ({ v with now := now } : PC) = v := by rw [← h.vnow]
        rw [e] at h9
        exact h9
theorem HI.adv (h : HI n v u made now R Dn Rp T) (hn : n < 41) {m : Nat} (hm : m ≤ 600) : (v.advance (now + m)).2 = 0 ∧ (v.advance (now + m)).1.closed = v.closed ∧ HI (n + 1) (v.advance (now + m)).1 u made (now + m) R Dn Rp T := by
  have h2 := h.nn
  unfold PC.advance
  rw [if_neg (by rw [h.vnow]; omega)]
  exact ⟨rfl, rfl, h.endc (passQ (now + m)) 12 (.inl rfl) (now + m) (by omega)⟩
theorem HI.next (h : HI n v u made now R Dn Rp T) {r : Rr} {rest : List Rr} (he : u.qu = r :: rest) : 1 ≤ r.id ∧ r.id ≤ made ∧ HI (n + 1) v { u with qu := rest } made now R Dn Rp (T ++ [r.id]) := by
  have h1 := h.si.qu r (by rw [he]; exact List.mem_cons_self ..)
  have h2 := h.ul
  have h3 := h.mono
  refine ⟨h1.1, by omega, ⟨h3.vbr, h3.vrb, h3.vlast, h3.vnow, h3.ubr, h3.urb, ⟨h.si.o32, h.si.nd, h.si.opn, fun x hx => h.si.qu x (by rw [he]; exact List.mem_cons_of_mem _ hx), by have := h.si.ql; rw [he, List.length_cons] at this; show rest.length ≤ u.last; omega⟩, h3.fu, h3.fd, h3.ci, h3.mn, h3.nn, h3.sz, h3.r0, h3.r01, h3.dn, fun t ht => ?_⟩⟩
  rcases List.mem_append.1 ht with e | e
  · exact h.tk t e
  · rw [List.mem_singleton.1 e]; exact h1
theorem HI.reply (h : HI n v u made now R Dn Rp T) (hn : n < 41) {id : Int} (hid : id ∈ T) {bd : Bs} (hb : bd.length ≤ 600) :
    ((u.reply id 0 bd).2 = 0 ∧ Dn id.toNat = false ∧ HI (n + 1) v (u.reply id 0 bd).1 made now R (updB Dn id.toNat) (updP Rp id.toNat bd) T) ∨ ((u.reply id 0 bd).2 = 9 ∧ (u.reply id 0 bd).1 = u) := by
  have h1 := h.sz
  have h2 := h.tk id hid
  have h3 := h.ul
  unfold PV.reply
  rw [if_neg (by omega), if_neg (by rw [h.ubr]; simp), if_neg (by omega)]
  by_cases ho : u.opn.any (eqI id) = false
  · rw [if_pos ho]; exact .inr ⟨rfl, rfl⟩
  · rw [if_neg ho, if_neg (by omega)]
    left
    obtain ⟨i, rfl⟩ : ∃ i : Nat, id = i := ⟨id.toNat, by omega⟩
    rw [Int.toNat_natCast]
    have hmem : (i : Int) ∈ u.opn := by
      have ho2 : u.opn.any (eqI (i : Int)) = true := by simpa using ho
      obtain ⟨x, hx, hx2⟩ := List.any_eq_true.1 ho2
      have : (i : Int) = x := of_decide_eq_true hx2
      rw [this]; exact hx
    have hdn : Dn i = false := by
      cases hd : Dn i with
      | false => rfl
      | true => exact absurd hmem (h.dn i hd).2
    have hup : ∀ j, Dn j = true → updB Dn i j = true ∧ updP Rp i bd j = Rp j := fun j hj => by
      have hne : ¬ j = i := fun e => by rw [e, hdn] at hj; cases hj
      unfold updB updP
      rw [if_neg hne, if_neg hne]; exact ⟨hj, rfl⟩
    obtain ⟨c1, c2, c3, c4, c5⟩ := close_same u (i : Int)
    obtain ⟨s1, s2, s3⟩ := h.si.close (i : Int)
    obtain ⟨FU, f1, f2⟩ := h.fu
    obtain ⟨FD, g1, g2⟩ := h.fd
    refine ⟨rfl, hdn, ⟨h.vbr, h.vrb, h.vlast, h.vnow, c3.trans h.ubr, c4.trans h.urb, ⟨s1.o32, s1.nd, s1.opn, s1.qu, s1.ql⟩, ⟨FU, by rw [show (({ u.close (i : Int) with out := u.out ++ encF 17 (bigB i 4 ++ (bigB (0 : Int).toNat 2 ++ bd)) } : PV)).bs = u.bs from c5]; exact f1, by show okU made (u.close (i : Int)).last FU; rw [c1]; exact f2⟩, ⟨FD ++ [repF i 0 bd], ?_, fun f hf => ?_⟩, h.ci.upd hup, by have := h.mn; omega, by have := h.nn; omega, ?_, h.r0, h.r01, fun j hj => ?_, fun t ht => by have := h.tk t ht; show 1 ≤ t ∧ t ≤ ((u.close (i : Int)).last : Int); rw [c1]; exact this⟩⟩
    · show v.bs ++ (u.out ++ encF 17 (bigB i 4 ++ (bigB 0 2 ++ bd))) = _
      rw [← List.append_assoc, g1, encA_app, encA_one]; rfl
    · rcases List.mem_append.1 hf with e | e
      · exact (g2 f e).upd (Nat.le_refl _) hup
      · rw [List.mem_singleton.1 e]
        exact ⟨i, 0, bd, rfl, by omega, by omega, by omega, .inl ⟨rfl, by unfold updB; rw [if_pos rfl], by unfold updP; rw [if_pos rfl]⟩⟩
    · show _ + (u.close (i : Int)).bs.length + (u.out ++ encF 17 (bigB i 4 ++ (bigB 0 2 ++ bd))).length + _ ≤ _
      rw [c5, List.length_append, encF_len, List.length_append, List.length_append, bigB_len, bigB_len]
      omega
    · show j ≤ (u.close (i : Int)).last ∧ (j : Int) ∉ (u.close (i : Int)).opn
      rw [c1]
      by_cases e : j = i
      · subst e; exact ⟨by omega, s3⟩
      · have hj2 : Dn j = true := by unfold updB at hj; rw [if_neg e] at hj; exact hj
        exact ⟨(h.dn j hj2).1, fun hm => (h.dn j hj2).2 (s2 _ hm)⟩
theorem HI.up (h : HI n v u made now R Dn Rp T) (hn : n < 41) (m : Nat) : (u.recv (v.out.take m)).2 = 0 ∧ HI (n + 1) { v with out := v.out.drop m } (u.recv (v.out.take m)).1 made now R Dn Rp T := by
  have h1 := h.sz
  have hmn := h.mn
  obtain ⟨FU, f1, f2⟩ := h.fu
  have htl : (v.out.take m).length ≤ v.out.length := by rw [List.length_take]; omega
  have htd : (v.out.take m).length + (v.out.drop m).length = v.out.length := by rw [List.length_take, List.length_drop]; omega
  have hs0 : SvI { u with bs := [] } := ⟨h.si.o32, h.si.nd, h.si.opn, h.si.qu, h.si.ql⟩
  have hbs : (u.bs ++ v.out.take m) ++ v.out.drop m = encA FU := by rw [List.append_assoc, List.take_append_drop]; exact f1
  have hok0 := (runU (fin := made) (by omega) [] FU { u with bs := [] } f2 hs0).1
  obtain ⟨A, B, bs', e1, e2, e3, e4⟩ := rcv_run PV.step (u.bs.length + (v.out.take m).length + 1) { u with bs := [] } FU (u.bs ++ v.out.take m) (v.out.drop m) hbs hok0 (by rw [List.length_append]; omega)
  subst e1
  obtain ⟨-, g1, g2, g3, g4, g5, g6, D, g7, g8, g9⟩ := runU (fin := made) (by omega) A B { u with bs := [] } f2 hs0
  have hrec : u.recv (v.out.take m) = ({ runF PV.step { u with bs := [] } A with bs := bs', rb := 0, br := 0 }, 0) := by
    unfold PV.recv
    rw [if_neg (by rw [h.ubr]; simp), if_neg (by omega)]
    simp only [e2]
  rw [hrec]
  obtain ⟨FD, k1, k2⟩ := h.fd
  rw [List.length_append] at e4
  refine ⟨rfl, ⟨h.vbr, h.vrb, h.vlast, h.vnow, rfl, rfl, ⟨g2.o32, g2.nd, g2.opn, g2.qu, g2.ql⟩, ⟨B, e3, g1⟩, ⟨FD ++ D, ?_, fun f hf => ?_⟩, h.ci, by omega, by have := h.nn; omega, ?_, h.r0, h.r01, fun i hi => ?_, fun t ht => ?_⟩⟩
  · show v.bs ++ (runF PV.step { u with bs := [] } A).out = _
    rw [g7, ← List.append_assoc, k1, encA_app]
  · rcases List.mem_append.1 hf with e | e
    · exact k2 f e
    · obtain ⟨id, rfl, i1, i2⟩ := g8 f e
      exact ⟨id, 7, [], rfl, i1, i2, by simp, .inr ⟨rfl, rfl⟩⟩
  · show (v.out.drop m).length + bs'.length + (runF PV.step { u with bs := [] } A).out.length + v.bs.length ≤ _
    rw [g7, List.length_append]
    show _ + _ + (u.out.length + _) + _ ≤ _
    omega
  · obtain ⟨d1, d2⟩ := h.dn i hi
    have g3 : u.last ≤ _ := g3
    refine ⟨Nat.le_trans d1 g3, fun hm => ?_⟩
    rcases g6 _ hm with e | e
    · exact d2 e
    · have e : (u.last : Int) < i := e; omega
  · have := h.tk t ht
    have g3 : u.last ≤ (runF PV.step { u with bs := [] } A).last := g3
    show 1 ≤ t ∧ t ≤ ((runF PV.step { u with bs := [] } A).last : Int)
    omega
theorem HI.close (h : HI n v u made now R Dn Rp T) (hc : v.closed = false) : v.close.2 = 0 ∧ v.close.1.calls = [] ∧ HI (n + 1) v.close.1 u made now R Dn Rp T := by
  unfold PC.close
  rw [if_neg (by rw [hc, h.vbr]; simp)]
  have h3 := h.mono
  refine ⟨rfl, ?_, ⟨h3.vbr, h3.vrb, h3.vlast, h3.vnow, h3.ubr, h3.urb, h3.si, h3.fu, h3.fd, h.ci.endW fun c _ _ => .inr ⟨rfl, .inr (.inl rfl)⟩, h3.mn, h3.nn, h3.sz, h3.r0, h3.r01, h3.dn, h3.tk⟩⟩
  show v.calls.filter (nq allQ) = []
  exact List.filter_eq_nil_iff.2 fun c _ => by simp [nq, allQ]
theorem HI.fin (h : HI n v u made now R Dn Rp T) (hc : v.calls = []) (hr : v.res = []) {i : Nat} (h1 : 1 ≤ i) (h2 : i ≤ made) : R i = 1 := by
  rcases h.r01 i with e | e
  · have := (h.ci.mem i).2 ⟨h1, h2, e⟩
    rw [hc, hr] at this
    cases this
  · exact e
end
end Go.Proofs.YtdelhikejgoffaaGreat
end
section
set_option linter.unusedVariables false
set_option maxRecDepth 20000
set_option maxHeartbeats 2000000
namespace Go.Proofs.YtdelhikejgoffaaGreat
theorem mem_out {DH : Heap} {e : Ent} (h : e ∈ DH) : ∃ G, DH.Perm (e :: G) := by
  obtain ⟨a, b, rfl⟩ := List.append_of_mem h
  exact ⟨a ++ b, List.perm_middle⟩
end Go.Proofs.YtdelhikejgoffaaGreat
end
section
set_option linter.unusedVariables false
set_option maxRecDepth 20000
set_option maxHeartbeats 1000000
namespace Go.Proofs.YtdelhikejgoffaaGreat
theorem Spec.mem {P : Program} {f : FuncId} {av : List Value} {A M : Heap} {ent : Ent} {R : Value → Heap → Prop} (hs : Spec P f av (A ++ [ent]) (fun r H' => ∃ B, R r B ∧ H' = B ++ [ent])) (hm : ent ∈ M) : Spec P f av (A ++ M) (fun r H' => ∃ B, R r B ∧ H' = B ++ M) := by
  obtain ⟨G, hG⟩ := mem_out hm
  have hp : (A ++ M).Perm ((A ++ [ent]) ++ G) := by
    rw [List.append_assoc]; exact hG.append_left A
  refine ⟨hs.enters, fun w hw => ?_⟩
  have h1 := (((HW.start hw).perm hp).left).hok
  refine (hs.calls w h1).mono fun e w' ⟨r, H', e1, ⟨B, e2, e3⟩, e4⟩ => ⟨r, B ++ M, e1, ⟨B, e2, rfl⟩, ?_⟩
  subst e3
  refine (HW.frame (HW.start hw) hp e4).perm ?_
  rw [List.append_assoc]; exact hG.symm.append_left B
theorem LwI.nextX {i : Nat} {u : PV} (h : LwI i u) {r : Rr} {l : List Rr} (he : u.qu = r :: l) : LwI i { u with qu := l } := by
  refine ⟨⟨⟨h.b.J.opn, h.b.J.nd, h.b.J.le, fun r hr => h.b.J.qo r (by rw [he]; exact List.mem_cons_of_mem _ hr), h.b.J.last⟩, h.b.o, ?_, fun r hr => h.b.qb r (by rw [he]; exact List.mem_cons_of_mem _ hr)⟩, h.rb⟩
  have := h.b.q
  rw [he, List.length_cons] at this
  show l.length + u.bs.length ≤ _
  omega
theorem SvR.next {M : Heap} {m : SvV} {u : PV} (h : SvR M m u) {w : Rw} {rest : List Rw} (hq : m.Q = w :: rest) : u.qu = w.v :: rest.map Rw.v ∧ SvR M { m with a2 := dropA m.a2 m.c2 1 3, c2 := m.c2 - 1, Q := m.Q.drop 1 } { u with qu := rest.map Rw.v } := by
  refine ⟨by rw [← h.qv, hq]; rfl, ⟨h.opn, h.qu.dropG encW3 h.qc 1, by rw [hq]; rfl, fun r hr => h.qb r (List.mem_of_mem_drop hr), h.out, h.bs, ?_, h.oc, h.bc⟩⟩
  have := h.qc
  show (m.Q.drop 1).length ≤ m.c2 - 1
  rw [List.length_drop]; omega
theorem own_set {o : Option Nat} {c k : Nat} {tl : List Value} {L : Bs} {x z : UInt8} (h : Own o L.length c 1 (bvs L) tl) (hx : L[k]? = some x) : Own o (L.set k z).length c 1 (bvs (L.set k z)) tl := by
  have e : (bvs (L.set k z)).length = (bvs L).length := by rw [bvs_len, bvs_len, List.length_set]
  exact ⟨by rw [bvs_len, Nat.mul_one], by rw [e]; exact h.cap, by rw [List.length_set]; exact h.le, h.big, h.nil⟩
structure OwW where
  i : Nat
  L : Bs
end Go.Proofs.YtdelhikejgoffaaGreat
end
section
set_option linter.unusedVariables false
set_option maxRecDepth 20000
set_option maxHeartbeats 4000000
namespace Go.Proofs.YtdelhikejgoffaaGreat
theorem known_ok : Spec Tryz.prog 6 [] [] (fun r H' => r = .bool true ∧ H' = []) := by
  refine Spec.of (E := []) Tryz.func6 rfl (by kernel_rfl) Tryz.ntmps6 rfl rfl (fun w => ?_)
  refine WC_seq ?_
  refine WC_region ?_
  refine WL_val rfl rfl rfl (R_assign rfl rfl) ?_
  refine WL_nil ?_
  refine WQ_code ?_
  refine WC_seq ?_
  refine WC_region ?_
  refine WL_val rfl rfl rfl (R_build rfl zv51 pl51 rfl rfl) ?_
  refine WL_do rfl rfl rfl (D_box (cs := [_, _, _, _, _, _, _, _, _]) rfl rfl rfl) ?_
  rintro _ _ ⟨b1, rfl, rfl⟩
  obtain ⟨gpc0, hpc0, hx1⟩ := c_new b1
  refine WL_turn hx1 plD ?_
  refine WL_val rfl rfl rfl (R_build rfl zv35 pl35 rfl rfl) ?_
  refine WL_do rfl rfl rfl (D_box (cs := [_, _, _, _, _, _, _]) rfl rfl rfl) ?_
  rintro _ _ ⟨b2, rfl, rfl⟩
  obtain ⟨gpv0, hpv0, hx2⟩ := s_new b2
  refine WL_turn hx2 plD ?_
  refine WL_val rfl rfl rfl (R_assign rfl rfl) ?_
  refine WL_val rfl rfl rfl (R_assign rfl rfl) ?_
  refine WL_nil ?_
  refine WQ_code ?_
  refine WC_seq ?_
  refine WC_seq ?_
  refine WC_region ?_
  refine WL_val rfl rfl rfl (R_move rfl rfl) ?_
  refine WL_do rfl rfl rfl (D_call (calls_ok hpc0 pc0b _ 10 (by omega) 1 0) rfl rfl rfl rfl (pqD)) ?_
  rintro _ _ ⟨_, ⟨gkc1, hkc1, rfl, rfl⟩, rfl⟩
  refine WL_set (s := 10) (v := .bool true) rfl (by exact congrArg Value.bool (decide_eq_true kf1)) ?_
  have hkc1 : CGd gkc1 b1 kc1 := hkc1
  refine WL_val rfl rfl rfl (R_not rfl rfl) ?_
  refine WL_val rfl rfl rfl (R_move rfl rfl) ?_
  refine WL_val rfl rfl rfl (R_move rfl rfl) ?_
  refine WL_do rfl rfl rfl (D_call (calls_ok hkc1 kc1b _ 5 (by omega) 2 0) rfl rfl rfl rfl (pqD)) ?_
  rintro _ _ ⟨_, ⟨gkc2, hkc2, rfl, rfl⟩, rfl⟩
  refine WL_set (s := 14) (v := .bool true) rfl (by exact congrArg Value.bool (decide_eq_true kf2)) ?_
  have hkc2 : CGd gkc2 b1 kc2 := hkc2
  refine WL_val rfl rfl rfl (R_not rfl rfl) ?_
  refine WL_val rfl rfl rfl (R_pickF rfl rfl rfl) ?_
  refine WL_val rfl rfl rfl (R_move rfl rfl) ?_
  refine WL_val rfl rfl rfl (R_move rfl rfl) ?_
  refine WL_do rfl rfl rfl (D_call (calls_ok hkc2 kc2b _ 0 (by omega) 0 2) rfl rfl rfl rfl (pqD)) ?_
  rintro _ _ ⟨_, ⟨gkc3, hkc3, rfl, rfl⟩, rfl⟩
  refine WL_set (s := 19) (v := .bool true) rfl (by exact congrArg Value.bool (decide_eq_true kf3)) ?_
  have hkc3 : CGd gkc3 b1 kc3 := hkc3
  refine WL_val rfl rfl rfl (R_not rfl rfl) ?_
  refine WL_val rfl rfl rfl (R_pickF rfl rfl rfl) ?_
  refine WL_val rfl rfl rfl (R_move rfl rfl) ?_
  refine WL_val rfl rfl rfl (R_move rfl rfl) ?_
  refine WL_val rfl rfl rfl (R_move rfl rfl) ?_
  refine WL_do rfl rfl rfl (D_call (up_ok hkc3 kc3b hpv0 pv0b) rfl rfl rfl rfl (pqD)) ?_
  rintro _ _ ⟨_, ⟨gkc4, gks1, hkc4, hks1, rfl, rfl⟩, rfl⟩
  refine WL_set (s := 25) (v := .bool true) rfl (by exact congrArg Value.bool (decide_eq_true kf4)) ?_
  have hkc4 : CGd gkc4 b1 kc4 := hkc4
  have hks1 : SGd gks1 b2 ks1 := hks1
  refine WL_val rfl rfl rfl (R_not rfl rfl) ?_
  refine WL_val rfl rfl rfl (R_pickF rfl rfl rfl) ?_
  refine WL_val rfl rfl rfl (R_move rfl rfl) ?_
  refine WL_val rfl rfl rfl (R_move rfl rfl) ?_
  refine WL_do rfl rfl rfl (D_call (asks_ok hks1 ks1b 1 10 _) rfl rfl rfl rfl (pqD)) ?_
  rintro _ _ ⟨_, ⟨gks2, hks2, rfl, rfl⟩, rfl⟩
  refine WL_set (s := 30) (v := .bool true) rfl (by exact congrArg Value.bool kf5) ?_
  have hks2 : SGd gks2 b2 ks2 := hks2
  refine WL_val rfl rfl rfl (R_not rfl rfl) ?_
  refine WL_val rfl rfl rfl (R_pickF rfl rfl rfl) ?_
  refine WL_val rfl rfl rfl (R_move rfl rfl) ?_
  refine WL_val rfl rfl rfl (R_move rfl rfl) ?_
  refine WL_do rfl rfl rfl (D_call (asks_ok hks2 ks2b 2 5 _) rfl rfl rfl rfl (pqD)) ?_
  rintro _ _ ⟨_, ⟨gks3, hks3, rfl, rfl⟩, rfl⟩
  refine WL_set (s := 35) (v := .bool true) rfl (by exact congrArg Value.bool kf6) ?_
  have hks3 : SGd gks3 b2 ks3 := hks3
  refine WL_val rfl rfl rfl (R_not rfl rfl) ?_
  refine WL_val rfl rfl rfl (R_pickF rfl rfl rfl) ?_
  refine WL_nil ?_
  refine WQ_code ?_
  refine WC_F rfl ?_
  refine WC_skip ?_
  refine WQ_code ?_
  refine WC_seq ?_
  refine WC_seq ?_
  refine WC_region ?_
  refine WL_val rfl rfl rfl (R_move rfl rfl) ?_
  refine WL_do rfl rfl rfl (D_buildSlice rfl si26 rfl rfl rfl) ?_
  rintro _ _ ⟨b3, rfl, rfl⟩
  refine WL_do rfl rfl rfl (D_bytesConst rfl Tryz.underlying26 Tryz.underlying5 rfl plD) ?_
  rintro _ _ ⟨frb3, rfl, rfl⟩
  refine WL_do rfl rfl rfl (D_call (s_reply hks3 ks3b 1 0 (body := [121, 101, 115]) (RdB.cst b3 [121, 101, 115]) (by decide)) rfl rfl rfl rfl (pqD)) ?_
  rintro _ _ ⟨_, ⟨gks4, hks4, rfl, rfl⟩, rfl⟩
  have hks4 : SGd gks4 b2 ks4 := hks4
  refine WL_val rfl rfl rfl (R_neq rfl rfl rfl) ?_
  refine WL_set (s := 42) (v := .bool false) rfl (by exact congrArg Value.bool (decide_eq_false (fun e => e kf7))) ?_
  refine WL_val rfl rfl rfl (R_move rfl rfl) ?_
  refine WL_val rfl rfl rfl (R_move rfl rfl) ?_
  refine WL_val rfl rfl rfl (R_move rfl rfl) ?_
  refine WL_do rfl rfl rfl (D_call (down_ok hkc4 kc4b hks4 ks4b) rfl rfl rfl rfl (pqD)) ?_
  rintro _ _ ⟨_, ⟨gkc5, gks5, hks5, hkc5, rfl, rfl⟩, rfl⟩
  refine WL_set (s := 46) (v := .bool true) rfl (by exact congrArg Value.bool (decide_eq_true kf8)) ?_
  have hkc5 : CGd gkc5 b1 kc5 := hkc5
  have hks5 : SGd gks5 b2 ks5 := hks5
  refine WL_val rfl rfl rfl (R_not rfl rfl) ?_
  refine WL_val rfl rfl rfl (R_pickF rfl rfl rfl) ?_
  refine WL_val rfl rfl rfl (R_move rfl rfl) ?_
  refine WL_val rfl rfl rfl (R_move rfl rfl) ?_
  refine WL_do rfl rfl rfl (D_call (ends_ok hkc5 kc5b 1 0 _ (fun r hr => of_decide_eq_true (List.all_eq_true.1 kf10 r hr))) rfl rfl rfl rfl (pqD)) ?_
  rintro _ _ ⟨_, ⟨gkc6, hkc6, rfl, rfl⟩, rfl⟩
  refine WL_set (s := 51) (v := .bool true) rfl (by exact congrArg Value.bool kf9) ?_
  have hkc6 : CGd gkc6 b1 kc6 := hkc6
  refine WL_val rfl rfl rfl (R_not rfl rfl) ?_
  refine WL_val rfl rfl rfl (R_pickF rfl rfl rfl) ?_
  refine WL_val rfl rfl rfl (R_move rfl rfl) ?_
  refine WL_val rfl rfl rfl (R_move rfl rfl) ?_
  refine WL_do rfl rfl rfl (D_buildSlice rfl si26 rfl rfl rfl) ?_
  rintro _ _ ⟨b4, rfl, rfl⟩
  refine WL_do rfl rfl rfl (D_bytesConst rfl Tryz.underlying26 Tryz.underlying5 rfl plD) ?_
  rintro _ _ ⟨frb4, rfl, rfl⟩
  refine WL_do rfl rfl rfl (D_call (s_reply hks5 ks5b 1 0 (body := [110, 111]) (RdB.cst b4 [110, 111]) (by decide)) rfl rfl rfl rfl (pqD)) ?_
  rintro _ _ ⟨_, ⟨gks6, hks6, rfl, rfl⟩, rfl⟩
  have hks6 : SGd gks6 b2 ks6 := hks6
  refine WL_val rfl rfl rfl (R_neq rfl rfl rfl) ?_
  refine WL_set (s := 59) (v := .bool false) rfl (by exact congrArg Value.bool (decide_eq_false (fun e => e kf11))) ?_
  refine WL_val rfl rfl rfl (R_pickF rfl rfl rfl) ?_
  refine WL_nil ?_
  refine WQ_code ?_
  refine WC_F rfl ?_
  refine WC_skip ?_
  refine WQ_code ?_
  refine WC_seq ?_
  refine WC_seq ?_
  refine WC_region ?_
  refine WL_val rfl rfl rfl (R_move rfl rfl) ?_
  refine WL_do rfl rfl rfl (D_call (k_adv hkc6 kc6b 5) rfl rfl rfl rfl (pqD)) ?_
  rintro _ _ ⟨_, ⟨gkc7, hkc7, rfl, rfl⟩, rfl⟩
  have hkc7 : CGd gkc7 b1 kc7 := hkc7
  refine WL_val rfl rfl rfl (R_neq rfl rfl rfl) ?_
  refine WL_set (s := 63) (v := .bool false) rfl (by exact congrArg Value.bool (decide_eq_false (fun e => e kf12))) ?_
  refine WL_val rfl rfl rfl (R_move rfl rfl) ?_
  refine WL_val rfl rfl rfl (R_move rfl rfl) ?_
  refine WL_do rfl rfl rfl (D_call (ends_ok hkc7 kc7b 2 12 _ (fun r hr => of_decide_eq_true (List.all_eq_true.1 kf14 r hr))) rfl rfl rfl rfl (pqD)) ?_
  rintro _ _ ⟨_, ⟨gkc8, hkc8, rfl, rfl⟩, rfl⟩
  refine WL_set (s := 66) (v := .bool true) rfl (by exact congrArg Value.bool kf13) ?_
  have hkc8 : CGd gkc8 b1 kc8 := hkc8
  refine WL_val rfl rfl rfl (R_not rfl rfl) ?_
  refine WL_val rfl rfl rfl (R_pickF rfl rfl rfl) ?_
  refine WL_val rfl rfl rfl (R_move rfl rfl) ?_
  refine WL_val rfl rfl rfl (R_move rfl rfl) ?_
  refine WL_val rfl rfl rfl (R_move rfl rfl) ?_
  refine WL_do rfl rfl rfl (D_call (up_ok hkc8 kc8b hks6 ks6b) rfl rfl rfl rfl (pqD)) ?_
  rintro _ _ ⟨_, ⟨gkc9, gks7, hkc9, hks7, rfl, rfl⟩, rfl⟩
  refine WL_set (s := 72) (v := .bool true) rfl (by exact congrArg Value.bool (decide_eq_true kf15)) ?_
  have hkc9 : CGd gkc9 b1 kc9 := hkc9
  have hks7 : SGd gks7 b2 ks7 := hks7
  refine WL_val rfl rfl rfl (R_not rfl rfl) ?_
  refine WL_val rfl rfl rfl (R_pickF rfl rfl rfl) ?_
  refine WL_val rfl rfl rfl (R_move rfl rfl) ?_
  refine WL_val rfl rfl rfl (R_move rfl rfl) ?_
  refine WL_do rfl rfl rfl (D_call (s_open hks7 ks7b) rfl rfl rfl rfl (pqD)) ?_
  rintro _ _ ⟨_, ⟨oq, cq, tq, rfl, ownq, rfl⟩, rfl⟩
  refine WL_val rfl rfl rfl (R_len rfl Tryz.underlying32 rfl) ?_
  refine WL_val rfl rfl rfl (R_neq rfl rfl rfl) ?_
  refine WL_set (s := 79) (v := .bool false) rfl (by exact congrArg Value.bool (decide_eq_false (fun e => e (by rw [kf16]; rfl)))) ?_
  refine WL_val rfl rfl rfl (R_pickF rfl rfl rfl) ?_
  refine WL_val rfl rfl rfl (R_move rfl rfl) ?_
  refine WL_val rfl rfl rfl (R_move rfl rfl) ?_
  refine WL_none 5 ?_
  refine WL_do rfl rfl rfl (D_call (s_reply hks7 ks7b 2 0 (body := []) (RdB.nil none ⟨none, cl [] 5⟩) (by decide)) rfl rfl rfl rfl (pqD)) ?_
  rintro _ _ ⟨_, ⟨gks8, hks8, rfl, rfl⟩, rfl⟩
  have hks8 : SGd gks8 b2 ks8 := hks8
  refine WL_val rfl rfl rfl (R_neq rfl rfl rfl) ?_
  refine WL_set (s := 84) (v := .bool false) rfl (by exact congrArg Value.bool (decide_eq_false (fun e => e kf17))) ?_
  refine WL_val rfl rfl rfl (R_pickF rfl rfl rfl) ?_
  refine WL_nil ?_
  refine WQ_code ?_
  refine WC_F rfl ?_
  refine WC_skip ?_
  refine WQ_code ?_
  refine WC_seq ?_
  refine WC_seq ?_
  refine WC_region ?_
  refine WL_val rfl rfl rfl (R_move rfl rfl) ?_
  refine WL_do rfl rfl rfl (D_call (calls_ok hkc9 kc9b _ 9 (by omega) 3 0) rfl rfl rfl rfl (pqD)) ?_
  rintro _ _ ⟨_, ⟨gkc10, hkc10, rfl, rfl⟩, rfl⟩
  refine WL_set (s := 87) (v := .bool true) rfl (by exact congrArg Value.bool (decide_eq_true kf18)) ?_
  have hkc10 : CGd gkc10 b1 kc10 := hkc10
  refine WL_val rfl rfl rfl (R_not rfl rfl) ?_
  refine WL_val rfl rfl rfl (R_move rfl rfl) ?_
  refine WL_val rfl rfl rfl (R_move rfl rfl) ?_
  refine WL_val rfl rfl rfl (R_move rfl rfl) ?_
  refine WL_do rfl rfl rfl (D_call (up_ok hkc10 kc10b hks8 ks8b) rfl rfl rfl rfl (pqD)) ?_
  rintro _ _ ⟨_, ⟨gkc11, gks9, hkc11, hks9, rfl, rfl⟩, rfl⟩
  refine WL_set (s := 92) (v := .bool true) rfl (by exact congrArg Value.bool (decide_eq_true kf19)) ?_
  have hkc11 : CGd gkc11 b1 kc11 := hkc11
  have hks9 : SGd gks9 b2 ks9 := hks9
  refine WL_val rfl rfl rfl (R_not rfl rfl) ?_
  refine WL_val rfl rfl rfl (R_pickF rfl rfl rfl) ?_
  refine WL_val rfl rfl rfl (R_move rfl rfl) ?_
  refine WL_val rfl rfl rfl (R_move rfl rfl) ?_
  refine WL_do rfl rfl rfl (D_call (k_cancel hkc11 kc11b 3) rfl rfl rfl rfl (pqD)) ?_
  rintro _ _ ⟨_, ⟨gkc12, hkc12, rfl, rfl⟩, rfl⟩
  have hkc12 : CGd gkc12 b1 kc12 := hkc12
  refine WL_val rfl rfl rfl (R_neq rfl rfl rfl) ?_
  refine WL_set (s := 98) (v := .bool false) rfl (by exact congrArg Value.bool (decide_eq_false (fun e => e kf20))) ?_
  refine WL_val rfl rfl rfl (R_pickF rfl rfl rfl) ?_
  refine WL_val rfl rfl rfl (R_move rfl rfl) ?_
  refine WL_val rfl rfl rfl (R_move rfl rfl) ?_
  refine WL_val rfl rfl rfl (R_move rfl rfl) ?_
  refine WL_do rfl rfl rfl (D_call (up_ok hkc12 kc12b hks9 ks9b) rfl rfl rfl rfl (pqD)) ?_
  rintro _ _ ⟨_, ⟨gkc13, gks10, hkc13, hks10, rfl, rfl⟩, rfl⟩
  refine WL_set (s := 103) (v := .bool true) rfl (by exact congrArg Value.bool (decide_eq_true kf21)) ?_
  have hkc13 : CGd gkc13 b1 kc13 := hkc13
  have hks10 : SGd gks10 b2 ks10 := hks10
  refine WL_val rfl rfl rfl (R_not rfl rfl) ?_
  refine WL_val rfl rfl rfl (R_pickF rfl rfl rfl) ?_
  refine WL_val rfl rfl rfl (R_move rfl rfl) ?_
  refine WL_val rfl rfl rfl (R_move rfl rfl) ?_
  refine WL_do rfl rfl rfl (D_call (k_cancel hkc13 kc13b 3) rfl rfl rfl rfl (pqD)) ?_
  rintro _ _ ⟨_, ⟨gkc14, hkc14, rfl, rfl⟩, rfl⟩
  have hkc14 : CGd gkc14 b1 kc14 := hkc14
  refine WL_val rfl rfl rfl (R_neq rfl rfl rfl) ?_
  refine WL_set (s := 109) (v := .bool false) rfl (by exact congrArg Value.bool (decide_eq_false (fun e => e kf22))) ?_
  refine WL_val rfl rfl rfl (R_pickF rfl rfl rfl) ?_
  refine WL_val rfl rfl rfl (R_move rfl rfl) ?_
  refine WL_val rfl rfl rfl (R_move rfl rfl) ?_
  refine WL_do rfl rfl rfl (D_call (ends_ok hkc14 kc14b 3 14 _ (fun r hr => of_decide_eq_true (List.all_eq_true.1 kf24 r hr))) rfl rfl rfl rfl (pqD)) ?_
  rintro _ _ ⟨_, ⟨gkc15, hkc15, rfl, rfl⟩, rfl⟩
  refine WL_set (s := 113) (v := .bool true) rfl (by exact congrArg Value.bool kf23) ?_
  have hkc15 : CGd gkc15 b1 kc15 := hkc15
  refine WL_val rfl rfl rfl (R_not rfl rfl) ?_
  refine WL_val rfl rfl rfl (R_pickF rfl rfl rfl) ?_
  refine WL_nil ?_
  refine WQ_code ?_
  refine WC_F rfl ?_
  refine WC_skip ?_
  refine WQ_code ?_
  refine WC_seq ?_
  refine WC_region ?_
  refine WL_val rfl rfl rfl (R_move rfl rfl) ?_
  refine WL_do rfl rfl rfl (D_call (s_next0 hks10 ks10b kf25) rfl rfl rfl rfl (pqD)) ?_
  rintro _ _ ⟨_, ⟨gl9, hl9, rfl, rfl⟩, rfl⟩
  refine WL_val rfl rfl rfl (R_move rfl rfl) ?_
  refine WL_val rfl rfl rfl (R_extract rfl rfl rfl) ?_
  refine WL_val rfl rfl rfl (R_extract rfl rfl rfl) ?_
  refine WL_do rfl rfl rfl (D_alloc rfl zv67) ?_
  rintro _ _ ⟨b5, rfl, rfl⟩
  refine WL_do0 rfl rfl (D_store (vs := [_, _, _]) rfl Tryz.sizeOf67 rfl rfl rfl rfl rfl (plD) (by exact Nat.le_of_ble_eq_true rfl)) ?_
  rintro _ _ rfl
  refine WL_val rfl rfl rfl (R_assign rfl rfl) ?_
  refine WL_nil ?_
  refine WQ_code ?_
  refine WC_seq ?_
  refine WC_region ?_
  refine WL_val rfl rfl rfl (R_move rfl rfl) ?_
  refine WL_val rfl rfl rfl (R_not rfl rfl) ?_
  refine WL_val rfl rfl rfl (R_assign rfl rfl) ?_
  refine WL_nil ?_
  refine WQ_code ?_
  refine WC_ret ?_
  refine WQ_ret rfl rfl (.cons (.tmp rfl) .nil) rfl (by
      exact ⟨rfl, rfl⟩) (pqD)
end Go.Proofs.YtdelhikejgoffaaGreat
end
section
set_option linter.unusedVariables false
set_option linter.unusedSectionVars false
set_option linter.unusedSimpArgs false
namespace Go.Proofs.YtdelhikejgoffaaGreat
open Go.RowKit (Below)
section
variable {X : Ctx} {ops : Array Oper} {p : Post} [NoPan p] {C : World → Prop} {L : Nat}
theorem wpOpIn_toQ {p' : Post} [NoPan p'] {j : Nat} {oj : Oper} {K : Act → World → Prop} {a : Act} {w : World} (hj : ops[j]? = some oj) (hdj : ∀ c, oj.op ≠ .defer c)
    (h : wpOpIn (fen X.ro) 0 X.P ops p'.toQ j K a w) : wpOpIn (fen X.ro) 0 X.P ops p.toQ j K a w := by
  unfold wpOpIn at *
  simp only [hj] at *
  split
  · rename_i hw
    simp only [hw, if_true] at h
    unfold Oper.wpIn at *
    refine ⟨about_true, ?_⟩
    have h := h.2
    rw [semAt_of hdj] at h
    rw [semAt_of hdj]
    generalize (execOp a.eval oj).run X.P w = r at *
    cases r with
    | ok x w' =>
      cases x <;> simp only [Oper.uponIn] at h ⊢
      case value u => exact h
      case skip => exact h
      case defer d => exact h
      case enter f args =>
        refine ⟨h.1, CallsIn.mono h.2 fun e w'' he => ?_⟩
        cases e with
        | returned u => exact he
        | panicked c => exact (NoPan.pan (p := p') _ _ _ he).elim
        | outgrown => exact he
      case row row args => exact ⟨h.1, RowsIn.mono h.2 fun u w'' he => he⟩
      case round l f tmps assign body =>
        refine ⟨h.1, RoundIn.mono h.2 fun e w'' he => ?_⟩
        cases e with
        | returned u => exact he
        | panicked c => exact (NoPan.pan (p := p') _ _ _ he).elim
        | outgrown => exact he
    | halt x w' =>
      cases x <;> simp only [Oper.uponIn] at h ⊢
      case panic u => exact (NoPan.pan (p := p') _ _ _ h).elim
  · rename_i hw
    simp only [hw] at h
    exact ⟨about_true, h.2⟩
theorem gd_ne {l : Array Bool} {j k : Nat} {b d : Bool} (h : j ≠ k) : (l.setIfInBounds j b).getD k d = l.getD k d := by
  simp [Array.getD_eq_getD_getElem?, Array.getElem?_setIfInBounds, h]
theorem gd_eq {l : Array Bool} {j : Nat} {b d : Bool} (h : j < l.size) : (l.setIfInBounds j b).getD j d = b := by
  simp [Array.getD_eq_getD_getElem?, Array.getElem?_setIfInBounds, h]
theorem gd_in {l : Array Bool} {j : Nat} (h : j < l.size) (d d' : Bool) : l.getD j d = l.getD j d' := by
  simp [Array.getD_eq_getD_getElem?, h]
structure LastOk (ops : Array Oper) (L : Nat) : Prop where
  size : ops.size = L + 1
  lt : ∀ (i : Nat) (o : Oper), ops[i]? = some o → ∀ e ∈ o.after, e.on < i
  anc : ∀ k, k < L → ∃ n, reach ops k n L = true
def lastB (ops : Array Oper) (L : Nat) : Bool :=
  ops.size == L + 1 && ((List.range (L + 1)).all fun i => match ops[i]? with | some o => o.after.all (fun e => Nat.blt e.on i) | none => true) && (List.range L).all (fun k => reach ops k ops.size L)
theorem lastB_spec (h : lastB ops L = true) : LastOk ops L := by
  simp only [lastB, Bool.and_eq_true, beq_iff_eq, List.all_eq_true, List.mem_range] at h
  obtain ⟨⟨h1, h2⟩, h3⟩ := h
  refine ⟨h1, fun i o ho e he => ?_, fun k hk => ⟨_, h3 k hk⟩⟩
  have hi := (Array.getElem?_eq_some_iff.1 ho).1
  have h4 := h2 i (by omega)
  rw [ho] at h4
  simp only [Array.all_eq_true] at h4
  obtain ⟨j, hj, rfl⟩ := Array.mem_iff_getElem.1 he
  exact Nat.le_of_ble_eq_true (h4 j hj)
structure StL (ops : Array Oper) (L : Nat) (l : Array Bool) : Prop where
  size : l.size = L + 1
  on : l.getD L true = true
  cl : Closed ops (l.setIfInBounds L false)
theorem StL.sub {l : Array Bool} {i : Nat} (hO : LastOk ops L) (hs : StL ops L l) (h : i ∈ Region.ready .any ops (l.setIfInBounds L false)) (hi : i ≠ L) : i ∈ Region.ready .any ops l := by
  obtain ⟨h1, o, ho, hd⟩ := mem_ready.1 h
  refine mem_ready.2 ⟨by rwa [gd_ne (fun e => hi e.symm)] at h1, o, ho, fun e he hb => ?_⟩
  have h2 := hd e he hb
  by_cases hL : L = e.on
  · subst hL; rw [gd_eq (by have := hs.size; omega)] at h2; cases h2
  · rwa [gd_ne hL] at h2
theorem StL.sup {l : Array Bool} {i : Nat} (hO : LastOk ops L) (hs : StL ops L l) (h : i ∈ Region.ready .any ops l) : i ≠ L ∧ i < L ∧ i ∈ Region.ready .any ops (l.setIfInBounds L false) := by
  obtain ⟨h1, o, ho, hd⟩ := mem_ready.1 h
  have hi : i ≠ L := fun e => by rw [e, hs.on] at h1; cases h1
  have hlt := (Array.getElem?_eq_some_iff.1 ho).1
  have hsz := hO.size
  refine ⟨hi, by omega, mem_ready.2 ⟨by rw [gd_ne (fun e => hi e.symm)]; exact h1, o, ho, fun e he hb => ?_⟩⟩
  have := hO.lt i o ho e he
  rw [gd_ne (by omega)]
  exact hd e he hb
theorem StL.none {l : Array Bool} (hO : LastOk ops L) (hs : StL ops L l) (h : L ∈ Region.ready .any ops (l.setIfInBounds L false)) : Region.ready .any ops l = [] := by
  refine List.eq_nil_iff_forall_not_mem.2 fun j hj => ?_
  obtain ⟨h1, h2, _⟩ := hs.sup hO hj
  obtain ⟨_, o, ho, hd⟩ := mem_ready.1 h
  obtain ⟨n, hn⟩ := hO.anc j h2
  have h3 := Closed.reach hs.cl j n L o ho (fun e he hb => getD_up (hd e he hb)) hn
  rw [gd_ne (fun e => h1 e.symm), (mem_ready.1 hj).1] at h3
  cases h3
theorem StL.all {l : Array Bool} (hO : LastOk ops L) (hs : StL ops L l) (h : Region.ready .any ops l = []) : ∀ k, k ≤ L → l.getD k true = true := by
  intro k
  induction k using Nat.strongRecOn with
  | ind k ih =>
    intro hk
    by_cases hkL : k = L
    · rw [hkL]; exact hs.on
    · cases hc : l.getD k true with
      | true => rfl
      | false =>
        have hsz := hO.size
        obtain ⟨o, ho⟩ : ∃ o, ops[k]? = some o := ⟨_, Array.getElem?_eq_getElem (by omega)⟩
        have : k ∈ Region.ready .any ops l := mem_ready.2 ⟨hc, o, ho, fun e he hb => by
          have h1 := hO.lt k o ho e he
          rw [gd_in (by have := hs.size; omega) false true]
          exact ih e.on h1 (by omega)⟩
        rw [h] at this
        cases this
theorem StL.fin {l : Array Bool} (hO : LastOk ops L) (hs : StL ops L l) (h : Region.ready .any ops l = []) :
    L ∈ Region.ready .any ops (l.setIfInBounds L false) ∧ (∀ i ∈ Region.ready .any ops (l.setIfInBounds L false), i = L) ∧ Region.ready .any ops ((l.setIfInBounds L false).setIfInBounds L true) = [] := by
  have hall := hs.all hO h
  have hsz := hO.size
  have hls := hs.size
  refine ⟨?_, fun i hi => ?_, List.eq_nil_iff_forall_not_mem.2 fun j hj => ?_⟩
  · obtain ⟨o, ho⟩ : ∃ o, ops[L]? = some o := ⟨_, Array.getElem?_eq_getElem (by omega)⟩
    refine mem_ready.2 ⟨gd_eq (by omega), o, ho, fun e he hb => ?_⟩
    have h1 := hO.lt L o ho e he
    rw [gd_ne (by omega), gd_in (by omega) false true]
    exact hall e.on (by omega)
  · by_cases e : i = L
    · exact e
    · have := hs.sub hO hi e; rw [h] at this; cases this
  · obtain ⟨h1, o, ho, _⟩ := mem_ready.1 hj
    have hlt := (Array.getElem?_eq_some_iff.1 ho).1
    by_cases e : L = j
    · subst e; rw [gd_eq (by rw [Array.size_setIfInBounds]; omega)] at h1; cases h1
    · rw [gd_ne e, gd_ne e, hall j (by omega)] at h1; cases h1
theorem any_last (hO : LastOk ops L) (hsd : noSD ops = true) : ∀ (n : Nat) (l : Array Bool) (a : Act) (w : World), StL ops L l →
    AnyC X ops (Post.to (fun a w => wpOpIn (fen X.ro) 0 X.P ops p.toQ L p.nrm a w) p) C n l a w → wpAnyIn (fen X.ro) 0 X.P .any ops p.toQ (n + 1) (l.setIfInBounds L false) a w := by
  intro n
  induction n with
  | zero =>
    intro l a w hs h
    obtain ⟨f1, f2, f3⟩ := hs.fin hO h.1
    refine ⟨fun e => (by rw [e] at f1; cases f1), fun i hi => ?_⟩
    rw [f2 i hi]
    exact wpOpIn_mono (fun a' w' k => ⟨f3, k⟩) h.2
  | succ n ih =>
    intro l a w hs h
    by_cases hr : Region.ready .any ops l = []
    · obtain ⟨f1, f2, f3⟩ := hs.fin hO hr
      refine ⟨fun e => (by rw [e] at f1; cases f1), fun i hi => ?_⟩
      rw [f2 i hi]
      exact wpOpIn_mono (fun a' w' k => ⟨fun _ => k, fun j hj => (by rw [f3] at hj; cases hj)⟩) (h.1 hr)
    · refine ⟨fun e => ?_, fun i hi => ?_⟩
      · obtain ⟨j, hj⟩ := List.exists_mem_of_ne_nil _ hr
        have := (hs.sup hO hj).2.2
        rw [e] at this; cases this
      · have hiL : i ≠ L := fun e => hr (hs.none hO (e ▸ hi))
        have hi2 := hs.sub hO hi hiL
        obtain ⟨_, o, ho, _⟩ := mem_ready.1 hi2
        have h2 := wpOpIn_toQ (p := p) ho (noSD_sel hsd ho).2 (h.2 i hi2)
        refine wpOpIn_mono (fun a' w' k => ?_) h2
        have hcm : (l.setIfInBounds i true).setIfInBounds L false = (l.setIfInBounds L false).setIfInBounds i true := Array.setIfInBounds_comm _ _ hiL
        have h3 := ih (l.setIfInBounds i true) a' w' ⟨by rw [Array.size_setIfInBounds]; exact hs.size, by rw [gd_ne hiL]; exact hs.on, by rw [hcm]; exact hs.cl.step hi⟩ (k.2 w' (Bel.refl _))
        rw [hcm] at h3
        exact h3
end
section
variable {X : Ctx} {ops : Array Oper} {p : Post} {Hq : Heap} {E : Env} {H F : Heap} {o : Oper} {ps : List (Nat × Nat × Value)} {L : Nat}
theorem rep_set {n L : Nat} : ((Array.replicate n false).setIfInBounds L true).setIfInBounds L false = Array.replicate n false := by
  apply Array.ext
  · simp
  · intro i h1 h2
    have e1 : (((Array.replicate n false).setIfInBounds L true).setIfInBounds L false)[i]? = (Array.replicate n false)[i]? := by
      by_cases h : L = i
      · subst h
        have hi : L < n := by simpa using h2
        simp [Array.getElem?_setIfInBounds, hi]
      · simp [Array.getElem?_setIfInBounds, h]
    rw [Array.getElem?_eq_getElem h1, Array.getElem?_eq_getElem h2] at e1
    exact Option.some.inj e1
theorem WC_drawL [NoPan p] {id : Nat} {l : List Oper} (L : Nat) (xs : Heap) (ps : List (Nat × Nat × Value)) (ord : List (Nat × Tag)) (hm : X.P.follows .mixedOrders = true) (hsd : noSD l.toArray = true) (hlast : lastB l.toArray L = true) (hlen : ord.length = L)
    (hB : orderW l.toArray ord ((Array.replicate l.length false).setIfInBounds L true) = true) (hq : Pulls xs H Hq) (hp : PtH H ps)
    (h : WX X l.toArray (Post.to (fun a w => wpOpIn (fen X.ro) 0 X.P l.toArray p.toQ L p.nrm a w) p) ps Hq ord E H) : WC X (.region id l.toArray true) p E H := by
  intro a w ha hw
  have hO := lastB_spec hlast
  have hsz : l.length = L + 1 := by have := hO.size; simpa using this
  refine wpIn_region_any hm ?_
  have hb : Bel w { w with drawn := w.drawn + 1 } := Bel.drew' w
  have hw1 := hw.bel hb
  have h1 := BW.any (X := X) (p := Post.to (fun a w => wpOpIn (fen X.ro) 0 X.P l.toArray p.toQ L p.nrm a w) p) (C := CX X ps Hq) (fun _ h => h.1.size) (fun _ _ h b => ⟨h.1.bel b, h.2.bel b⟩) hsd ord _ hB ord.length [] a _ (fun k => k ∈ keys H) (by simp)
    ⟨fun e h => (by cases h), List.nodup_nil, fun e h => (by cases h), fun e h => (by cases h), fun e h => (by cases h), ⟨pulls_rest hq hw1, hp.here hw1⟩, fun k hk => hw1.hok.lt hk⟩
    (fun w' hb' => h a _ _ (fun _ => Iff.rfl) ha (hw1.bel hb'))
  have h2 := any_last hO hsd ord.length _ _ _ ⟨by rw [Array.size_setIfInBounds]; simpa using hsz, gd_eq (by simp; omega), by rw [rep_set]; exact closed0 l⟩ h1
  rw [rep_set, hlen] at h2
  simpa [marks, puts, hsz] using h2
theorem WQ_last0 {R : Value → Heap → Prop} (ho : ops[L]? = some o) (hg : wantedE ops E o = some true) (hd : o.dst = none) (h : Does X o E H R) (k : ∀ v H', R v H' → WQ X p.nrm E H') :
    WQ X (Post.to (fun a w => wpOpIn (fen X.ro) 0 X.P ops p.toQ L p.nrm a w) p).nrm E H := by
  intro a w ha hw
  show wpOpIn (fen X.ro) 0 X.P ops p.toQ L p.nrm a w
  simp only [wpOpIn, ho, wantedE_spec ha hg, if_true]
  exact h a w ha hw _ _ fun v H' w' hr hw' => k v H' hr _ _ (by rw [hd]; exact ha.put0 v) hw'
end
end Go.Proofs.YtdelhikejgoffaaGreat
end
section
set_option linter.unusedVariables false
set_option maxRecDepth 20000
set_option maxHeartbeats 1000000
namespace Go.Proofs.YtdelhikejgoffaaGreat
theorem dedup9 {W : World} : ∀ es : List Ent, (∀ e ∈ es, e.ok W) → ∃ DH, HOK DH W ∧ ∀ e ∈ es, e ∈ DH
  | [], _ => ⟨[], ⟨by simp [keys], fun x hx => by cases hx⟩, fun e he => by cases he⟩
  | e :: es, h => by
    obtain ⟨DH, hok, hall⟩ := dedup9 es fun x hx => h x (List.mem_cons_of_mem _ hx)
    have he := h e (List.mem_cons_self ..)
    by_cases hm : e ∈ DH
    · exact ⟨DH, hok, fun x hx => by rcases List.mem_cons.1 hx with rfl | hx; exact hm; exact hall x hx⟩
    · refine ⟨e :: DH, ⟨?_, fun x hx => by rcases List.mem_cons.1 hx with rfl | hx; exact he; exact hok.ok x hx⟩, fun x hx => by rcases List.mem_cons.1 hx with rfl | hx; exact List.mem_cons_self ..; exact List.mem_cons_of_mem _ (hall x hx)⟩
      cases hb : e.b with
      | none => unfold keys; rw [List.filterMap_cons, hb]; exact hok.nodup
      | some b =>
        unfold keys
        rw [List.filterMap_cons, hb]
        refine List.nodup_cons.2 ⟨fun hk => hm ?_, hok.nodup⟩
        obtain ⟨x, hx, hxb⟩ := mem_keys.1 hk
        have h1 := hok.ok x hx
        have h2 := he
        simp only [Ent.ok, hxb] at h1
        simp only [Ent.ok, hb] at h2
        rw [h1] at h2
        have e1 : x.o = e.o := Option.some.inj h2
        have e2 : x = e := by cases x; cases e; simp only at hb hxb e1; rw [hb, hxb, e1]
        exact e2 ▸ hx
theorem ents9 {W : World} {P : Ac → Ent → Prop} : ∀ l : List Ac, (∀ x ∈ l, ∃ e, P x e ∧ e.ok W) → ∃ es : List Ent, (∀ e ∈ es, e.ok W) ∧ ∀ x ∈ l, ∃ e ∈ es, P x e
  | [], _ => ⟨[], (fun e he => by cases he), fun x hx => by cases hx⟩
  | x :: l, h => by
    obtain ⟨es, h1, h2⟩ := ents9 l fun y hy => h y (List.mem_cons_of_mem _ hy)
    obtain ⟨e, h3, h4⟩ := h x (List.mem_cons_self ..)
    refine ⟨e :: es, fun y hy => ?_, fun y hy => ?_⟩
    · rcases List.mem_cons.1 hy with rfl | hy
      · exact h4
      · exact h1 y hy
    · rcases List.mem_cons.1 hy with rfl | hy
      · exact ⟨e, List.mem_cons_self .., h3⟩
      · obtain ⟨e9, h5, h6⟩ := h2 y hy
        exact ⟨e9, List.mem_cons_of_mem _ h5, h6⟩
end Go.Proofs.YtdelhikejgoffaaGreat
end
section
set_option linter.unusedVariables false
set_option maxRecDepth 20000
set_option maxHeartbeats 1000000
namespace Go.Proofs.YtdelhikejgoffaaGreat
/-- A result of the reference's list, and where its body lies. -/
structure Rx where
  id : Int
  code : Int
  body : Bs
  oa : Option Addr
  c : Nat
def Rx.v (r : Rx) : Res := ⟨r.id, r.code, r.body⟩
abbrev encX (r : Rx) : List Value := [.int .i64 r.id, .int .i64 r.code, .slice r.oa r.body.length r.c]
theorem encX3 (r : Rx) : (encX r).length = 3 := rfl
structure CvV where
  a1 : Option Addr
  c1 : Nat
  a2 : Option Addr
  c2 : Nat
  R : List Rx
  a3 : Option Addr
  c3 : Nat
  a4 : Option Addr
  c4 : Nat
abbrev cvv (m : CvV) (u : PC) : Value := .agg #[.int .u64 (u.now : Int), .int .i64 (u.last : Int), .slice m.a1 u.calls.length m.c1, .slice m.a2 m.R.length m.c2, .slice m.a3 u.out.length m.c3, .slice m.a4 u.bs.length m.c4, .int .i64 u.br, .bool u.closed]
structure CvR (M : Heap) (m : CvV) (u : PC) : Prop where
  calls : RdM encC M m.a1 u.calls
  res : RdM encX M m.a2 m.R
  rv : m.R.map Rx.v = u.res
  rb : ∀ r ∈ m.R, RdM encY M r.oa r.body
  out : RdM encY M m.a3 u.out
  bs : RdM encY M m.a4 u.bs
  rc : m.R.length ≤ m.c2
  oc : u.out.length ≤ m.c3
  bc : u.bs.length ≤ m.c4
theorem CvR.up {M : Heap} {m : CvV} {u : PC} (h : CvR M m u) (N : Heap) : CvR (N ++ M) m u := ⟨h.calls.up N, h.res.up N, h.rv, fun r hr => (h.rb r hr).up N, h.out.up N, h.bs.up N, h.rc, h.oc, h.bc⟩
theorem CvR.rlen {M : Heap} {m : CvV} {u : PC} (h : CvR M m u) : m.R.length = u.res.length := by rw [← h.rv, List.length_map]
def neC (id : Int) (c : Ca) : Bool := decide ((c.id : Int) ≠ id)
structure EcW where
  k : Nat
  l : List Ca
  o : Option Nat
  c : Nat
  tl : List Value
/-- One call ends (the reference's 'end'). -/
def PC.end1 (u : PC) (id code : Int) (body : Bs) : PC := { u with calls := u.calls.filter (neC id), res := u.res ++ [⟨id, code, body⟩] }
end Go.Proofs.YtdelhikejgoffaaGreat
end
section
set_option linter.unusedVariables false
set_option maxRecDepth 20000
set_option maxHeartbeats 2000000
namespace Go.Proofs.YtdelhikejgoffaaGreat
theorem wiso_ok {M : Heap} {calls : List Ca} {a1 : Option Addr} {c1 : Nat} (h1 : RdM encC M a1 calls) (hl : calls.length ≤ 1000000) (now last br : Int) (a2 a3 a4 : Option Addr) (n2 c2 n3 c3 n4 c4 : Nat) (cd : Bool) (id : Int) : Spec Tryz.prog 63 [.agg #[.int .u64 now, .int .i64 last, .slice a1 calls.length c1, .slice a2 n2 c2, .slice a3 n3 c3, .slice a4 n4 c4, .int .i64 br, .bool cd], .int .i64 id] M (fun r H' => r = .bool (calls.any (isId id)) ∧ M = H') := by
  refine Spec.of (E := [(0, .agg #[.int .u64 now, .int .i64 last, .slice a1 calls.length c1, .slice a2 n2 c2, .slice a3 n3 c3, .slice a4 n4 c4, .int .i64 br, .bool cd]), (1, .int .i64 id)]) Tryz.func63 rfl (by kernel_rfl) Tryz.ntmps63 rfl rfl (fun w => ?_)
  refine WC_seq ?_
  refine WC_region ?_
  refine WL_do rfl rfl rfl (D_box (cs := [_, _, _, _, _, _, _, _]) rfl rfl rfl) ?_
  rintro _ _ ⟨b1, rfl, rfl⟩
  refine WL_val rfl rfl rfl (R_assign rfl rfl) ?_
  refine WL_nil ?_
  refine WQ_code ?_
  refine WC_seq ?_
  refine WC_seq ?_
  refine WC_region ?_
  refine WL_val rfl rfl rfl (R_assign rfl rfl) ?_
  refine WL_nil ?_
  refine WQ_code ?_
  refine WC_block ?_
  refine WC_loopF (G := Nat) [4, 5, 6, 7, 8, 9, 10, 11, 12, 13, 14, 15, 16, 17, 18, 19, 20] (fun y => y ≤ calls.length ∧ (calls.take y).any (isId id) = false) (fun y => [(5, .int .i64 (y : Int))]) (fun y => []) (fun y => calls.length - y) (0) (⟨Nat.zero_le _, rfl⟩) leZ (pqD) ?_
  rintro y ⟨hy, hno⟩
  refine WC_seq ?_
  refine WC_seq ?_
  refine WC_region ?_
  refine WL_val rfl rfl rfl (R_move rfl rfl) ?_
  refine WL_val rfl rfl rfl (R_fieldAddr rfl fa54_2 rfl) ?_
  refine WL_val rfl rfl rfl (R_load rfl sc52 rfl (mmD) rfl) ?_
  refine WL_val rfl rfl rfl (R_len rfl Tryz.underlying52 rfl) ?_
  refine WL_val rfl rfl rfl (R_lss rfl rfl rfl) ?_
  refine WL_nil ?_
  refine WQ_code ?_
  refine WC_dec rfl (fun c1 => ?_) (fun c1 => ?_)
  · refine WC_skip ?_
    refine WQ_code ?_
    refine WC_seq ?_
    refine WC_block ?_
    refine WC_seq ?_
    refine WC_region ?_
    refine WL_val rfl rfl rfl (R_fieldAddr rfl fa54_2 rfl) ?_
    refine WL_val rfl rfl rfl (R_load rfl sc52 rfl (mmD) rfl) ?_
    refine WL_val rfl rfl rfl (R_move rfl rfl) ?_
    obtain ⟨x, hx⟩ := getE (T := calls) (i := y) (by omega)
    obtain ⟨ent, hm, hr9⟩ := h1
    obtain ⟨rb, rk, rcs, re, rfr, rfl, rfl, hat⟩ := hr9 (by omega)
    refine WL_val rfl rfl rfl (R_indexAddr rfl Tryz.underlying52 Tryz.sizeOf98 rfl rfl (by omega)) ?_
    refine WL_val rfl rfl rfl (R_fieldAddr rfl fa98_0 rfl) ?_
    refine WL_val rfl rfl rfl (R_loadG (v := .int .i64 (x.id : Int)) rfl sc3 rfl (pulls_mem (pqD : Pulls M _ _) hm) (At.fm hat encC2 hx 0 _ rfl)) ?_
    refine WL_val rfl rfl rfl (R_move rfl rfl) ?_
    refine WL_val rfl rfl rfl (R_eql rfl rfl rfl) ?_
    refine WL_nil ?_
    refine WQ_code ?_
    refine WC_dec rfl (fun c2 => ?_) (fun c2 => ?_)
    · have hxi : (x.id : Int) = id := c2
      refine WC_seq ?_
      refine WC_region ?_
      refine WL_val rfl rfl rfl (R_assign rfl rfl) ?_
      refine WL_nil ?_
      refine WQ_code ?_
      refine WC_ret ?_
      refine WQ_ret rfl rfl (.cons (.tmp rfl) .nil) rfl (by
          refine ⟨congrArg Value.bool ?_, rfl⟩
          exact (List.any_eq_true.2 ⟨x, List.mem_of_getElem? hx, by simp [isId, hxi]⟩).symm) (pqD)
    · have hxi : ¬ (x.id : Int) = id := c2
      refine WC_skip ?_
      refine WQ_code ?_
      refine WC_region ?_
      refine WL_val rfl rfl rfl (R_move rfl rfl) ?_
      refine WL_val rfl rfl rfl (R_add rfl rfl rfl (by omega)) ?_
      refine WL_val rfl rfl rfl (R_assign rfl rfl) ?_
      refine WL_nil ?_
      refine WQ_nextF (y + 1) (⟨by omega, by rw [take_next hx, List.any_append, hno]; simp [isId]; omega⟩) (by omega) leZ (psZ) rfl (pqD)
  · have hyl : y = calls.length := by omega
    rw [hyl, List.take_length] at hno
    refine WC_exit ?_
    refine WQ_code ?_
    refine WC_seq ?_
    refine WC_region ?_
    refine WL_val rfl rfl rfl (R_assign rfl rfl) ?_
    refine WL_nil ?_
    refine WQ_code ?_
    refine WC_ret ?_
    refine WQ_ret rfl rfl (.cons (.tmp rfl) .nil) rfl (by
        refine ⟨congrArg Value.bool ?_, rfl⟩
        exact hno.symm) (pqD)
theorem wend_ok {M : Heap} {calls : List Ca} {a1 : Option Addr} {c1 : Nat} (h1 : RdM encC M a1 calls) (hl : calls.length ≤ 1000000) {R : List Rx} {a2 : Option Addr} (h2 : RdM encX M a2 R) (hR : R.length ≤ 1000000) (now last br : Int) (a3 a4 : Option Addr) (c2 n3 c3 n4 c4 : Nat) (cd : Bool) (id code : Int) (body : Bs) (oa : Option Addr) (c : Nat) :
    Spec Tryz.prog 64 [.agg #[.int .u64 now, .int .i64 last, .slice a1 calls.length c1, .slice a2 R.length c2, .slice a3 n3 c3, .slice a4 n4 c4, .int .i64 br, .bool cd], .int .i64 id, .int .i64 code, .slice oa body.length c] M (fun r H' => ∃ o1 k1 t1 o2 k2 t2, r = .agg #[.int .u64 now, .int .i64 last, slV o1 (calls.filter (neC id)).length k1, slV o2 (R ++ [(⟨id, code, body, oa, c⟩ : Rx)]).length k2, .slice a3 n3 c3, .slice a4 n4 c4, .int .i64 br, .bool cd] ∧
      Own o1 (calls.filter (neC id)).length k1 2 ((calls.filter (neC id)).flatMap encC) t1 ∧ Own o2 (R ++ [(⟨id, code, body, oa, c⟩ : Rx)]).length k2 3 ((R ++ [(⟨id, code, body, oa, c⟩ : Rx)]).flatMap encX) t2 ∧
      H' = [⟨o1, cl ((calls.filter (neC id)).flatMap encC ++ t1) 98⟩, ⟨o2, cl ((R ++ [(⟨id, code, body, oa, c⟩ : Rx)]).flatMap encX ++ t2) 89⟩] ++ M) := by
  refine Spec.of (E := [(0, .agg #[.int .u64 now, .int .i64 last, .slice a1 calls.length c1, .slice a2 R.length c2, .slice a3 n3 c3, .slice a4 n4 c4, .int .i64 br, .bool cd]), (1, .int .i64 id), (2, .int .i64 code), (3, .slice oa body.length c)]) Tryz.func64 rfl (by kernel_rfl) Tryz.ntmps64 rfl rfl (fun w => ?_)
  refine WC_seq ?_
  refine WC_region ?_
  refine WL_do rfl rfl rfl (D_box (cs := [_, _, _, _, _, _, _, _]) rfl rfl rfl) ?_
  rintro _ _ ⟨b1, rfl, rfl⟩
  refine WL_do rfl rfl rfl (D_alloc rfl zv54) ?_
  rintro _ _ ⟨b2, rfl, rfl⟩
  refine WL_nil ?_
  refine WQ_code ?_
  refine WC_seq ?_
  refine WC_region ?_
  refine WL_val rfl rfl rfl (R_assign rfl rfl) ?_
  refine WL_nil ?_
  refine WQ_code ?_
  refine WC_seq ?_
  refine WC_seq ?_
  refine WC_region ?_
  refine WL_val rfl rfl rfl (R_assign rfl rfl) ?_
  refine WL_nil ?_
  refine WQ_code ?_
  refine WC_block ?_
  refine WC_none 98 ?_
  refine WC_loopF (G := EcW) [9, 10, 11, 12, 13, 14, 15, 16, 17, 18, 19, 20, 21, 22, 23, 24, 25, 26, 27, 28, 29, 30, 31, 32, 33] (fun y => y.k ≤ calls.length ∧ y.l = (calls.take y.k).filter (neC id) ∧ y.l.length ≤ y.k ∧ Own y.o y.l.length y.c 2 (y.l.flatMap encC) y.tl) (fun y => [(10, .int .i64 (y.k : Int)), (9, slV y.o y.l.length y.c)]) (fun y => [⟨y.o, cl (y.l.flatMap encC ++ y.tl) 98⟩]) (fun y => calls.length - y.k) (⟨0, [], none, 0, []⟩) (⟨Nat.zero_le _, rfl, Nat.le_refl _, Own.empty 2⟩) leZ (pqD) ?_
  rintro y ⟨hk, hll0, hll, hO⟩
  refine WC_seq ?_
  refine WC_seq ?_
  refine WC_region ?_
  refine WL_val rfl rfl rfl (R_move rfl rfl) ?_
  refine WL_val rfl rfl rfl (R_fieldAddr rfl fa54_2 rfl) ?_
  refine WL_val rfl rfl rfl (R_load rfl sc52 rfl (mmD) rfl) ?_
  refine WL_val rfl rfl rfl (R_len rfl Tryz.underlying52 rfl) ?_
  refine WL_val rfl rfl rfl (R_lss rfl rfl rfl) ?_
  refine WL_nil ?_
  refine WQ_code ?_
  refine WC_dec rfl (fun c1 => ?_) (fun c1 => ?_)
  · refine WC_skip ?_
    refine WQ_code ?_
    refine WC_seq ?_
    refine WC_block ?_
    refine WC_seq ?_
    refine WC_region ?_
    refine WL_val rfl rfl rfl (R_fieldAddr rfl fa54_2 rfl) ?_
    refine WL_val rfl rfl rfl (R_load rfl sc52 rfl (mmD) rfl) ?_
    refine WL_val rfl rfl rfl (R_move rfl rfl) ?_
    obtain ⟨x, hx⟩ := getE (T := calls) (i := y.k) (by omega)
    obtain ⟨ent, hm, hr9⟩ := h1
    obtain ⟨rb, rk, rcs, re, rfr, rfl, rfl, hat⟩ := hr9 (by omega)
    refine WL_val rfl rfl rfl (R_indexAddr rfl Tryz.underlying52 Tryz.sizeOf98 rfl rfl (by omega)) ?_
    refine WL_val rfl rfl rfl (R_fieldAddr rfl fa98_0 rfl) ?_
    refine WL_val rfl rfl rfl (R_loadG (v := .int .i64 (x.id : Int)) rfl sc3 rfl (pulls_mem (pqD : Pulls M _ _) hm) (At.fm hat encC2 hx 0 _ rfl)) ?_
    refine WL_val rfl rfl rfl (R_move rfl rfl) ?_
    refine WL_val rfl rfl rfl (R_neq rfl rfl rfl) ?_
    refine WL_nil ?_
    refine WQ_code ?_
    refine WC_dec rfl (fun c2 => ?_) (fun c2 => ?_)
    · have hxi : ¬ (x.id : Int) = id := c2
      refine WC_region ?_
      refine WL_val rfl rfl rfl (R_move rfl rfl) ?_
      refine WL_val rfl rfl rfl (R_fieldAddr rfl fa54_2 rfl) ?_
      refine WL_val rfl rfl rfl (R_load rfl sc52 rfl (mmD) rfl) ?_
      refine WL_val rfl rfl rfl (R_move rfl rfl) ?_
      refine WL_val rfl rfl rfl (R_indexAddr rfl Tryz.underlying52 Tryz.sizeOf98 rfl rfl (by omega)) ?_
      refine WL_val rfl rfl rfl (R_loadAG (vs := encC x) rfl ag98 rfl (pulls_mem (pqD : Pulls M _ _) hm) rfl (At.fm hat encC2 hx)) ?_
      refine WL_do rfl rfl rfl (D_buildSlice rfl si52 rfl rfl rfl) ?_
      rintro _ _ ⟨b3, rfl, rfl⟩
      refine WL_do rfl rfl rfl (D_append rfl si52 rfl hO plD rfl mmD (atZ : At _ 0 [_, _]) rfl rfl (by omega) (by omega)) ?_
      rintro _ _ ⟨ob9, c9, tl9, rfl, own9, rfl⟩
      rw [show y.l.flatMap encC ++ [Value.int .i64 (x.id : Int), Value.int .u64 (x.dl : Int)] = (y.l ++ [x]).flatMap encC from by simp, show y.l.length + 1 = (y.l ++ [x]).length from by simp] at own9
      rw [show y.l.flatMap encC ++ [Value.int .i64 (x.id : Int), Value.int .u64 (x.dl : Int)] = (y.l ++ [x]).flatMap encC from by simp]
      refine WL_set (s := 33) (v := slV ob9 (y.l ++ [x]).length c9) rfl (by rw [List.length_append]; rfl) ?_
      refine WL_val rfl rfl rfl (R_assign rfl rfl) ?_
      refine WL_nil ?_
      refine WQ_code ?_
      refine WC_region ?_
      refine WL_val rfl rfl rfl (R_move rfl rfl) ?_
      refine WL_val rfl rfl rfl (R_add rfl rfl rfl (by omega)) ?_
      refine WL_val rfl rfl rfl (R_assign rfl rfl) ?_
      refine WL_nil ?_
      refine WQ_nextF (⟨y.k + 1, y.l ++ [x], ob9, c9, tl9⟩) (⟨by dsimp only; omega, by dsimp only; rw [flt_next hx, ← hll0, if_pos (by simp [neC]; exact hxi)], by dsimp only; rw [List.length_append]; simp; omega, own9⟩) (by dsimp only; omega) leZ (psZ) rfl (pqD)
    · have hxi : (x.id : Int) = id := Decidable.byContradiction c2
      refine WC_skip ?_
      refine WQ_code ?_
      refine WC_region ?_
      refine WL_val rfl rfl rfl (R_move rfl rfl) ?_
      refine WL_val rfl rfl rfl (R_add rfl rfl rfl (by omega)) ?_
      refine WL_val rfl rfl rfl (R_assign rfl rfl) ?_
      refine WL_nil ?_
      refine WQ_nextF (⟨y.k + 1, y.l, y.o, y.c, y.tl⟩) (⟨by dsimp only; omega, by dsimp only; rw [flt_next hx, ← hll0, if_neg (by simp [neC]; exact hxi), List.append_nil], by dsimp only; omega, hO⟩) (by dsimp only; omega) leZ (psZ) rfl (pqD)
  · have hkl : y.k = calls.length := by omega
    have hl9 : y.l = calls.filter (neC id) := by rw [hll0, hkl, List.take_length]
    refine WC_exit ?_
    refine WQ_code ?_
    refine WC_seq ?_
    refine WC_region ?_
    refine WL_val rfl rfl rfl (R_move rfl rfl) ?_
    refine WL_val rfl rfl rfl (R_fieldAddr rfl fa54_2 rfl) ?_
    refine WL_do0 rfl rfl (D_store (vs := [_]) rfl Tryz.sizeOf52 rfl rfl rfl rfl rfl (plD) (by exact Nat.le_of_ble_eq_true rfl)) ?_
    rintro _ _ rfl
    refine WL_nil ?_
    refine WQ_code ?_
    refine WC_seq ?_
    refine WC_region ?_
    refine WL_val rfl rfl rfl (R_fieldAddr rfl fa54_3 rfl) ?_
    refine WL_val rfl rfl rfl (R_load rfl sc49 rfl (mmD) rfl) ?_
    refine WL_do rfl rfl rfl (D_appendIn rfl si49 rfl rfl (RdM.inn h2 pqD) (by rw [fm_len encX3]) (by omega) (by omega)) ?_
    rintro _ _ ⟨o8, c8, tl8, rfl, own8, rfl⟩
    refine WL_val rfl rfl rfl (R_move rfl rfl) ?_
    refine WL_val rfl rfl rfl (R_move rfl rfl) ?_
    refine WL_val rfl rfl rfl (R_move rfl rfl) ?_
    refine WL_val rfl rfl rfl (R_build rfl zv89 pl89 rfl rfl) ?_
    refine WL_do rfl rfl rfl (D_buildSlice rfl si49 rfl rfl rfl) ?_
    rintro _ _ ⟨b4, rfl, rfl⟩
    refine WL_do rfl rfl rfl (D_append rfl si49 rfl own8 plD rfl mmD (atZ : At _ 0 [_, _, _]) rfl rfl (by omega) (by omega)) ?_
    rintro _ _ ⟨o2, k2, t2, rfl, own2, rfl⟩
    have e44 : R.flatMap encX ++ [Value.int .i64 id, Value.int .i64 code, Value.slice oa body.length c] = (R ++ [(⟨id, code, body, oa, c⟩ : Rx)]).flatMap encX := by rw [List.flatMap_append]; rfl
    rw [e44, show R.length + 1 = (R ++ [(⟨id, code, body, oa, c⟩ : Rx)]).length from by simp] at own2 ⊢
    refine WL_val rfl rfl rfl (R_fieldAddr rfl fa54_3 rfl) ?_
    refine WL_do0 rfl rfl (D_store (vs := [_]) rfl Tryz.sizeOf49 rfl rfl rfl rfl rfl (plD) (by exact Nat.le_of_ble_eq_true rfl)) ?_
    rintro _ _ rfl
    refine WL_nil ?_
    refine WQ_code ?_
    refine WC_seq ?_
    refine WC_region ?_
    refine WL_val rfl rfl rfl (R_loadA (vs := [_, _, _, _, _, _, _, _]) rfl ag54 rfl (mmD) rfl (atZ)) ?_
    refine WL_do0 rfl rfl (D_store (vs := [_, _, _, _, _, _, _, _]) rfl Tryz.sizeOf54 rfl rfl rfl rfl rfl (plD) (by exact Nat.le_of_ble_eq_true rfl)) ?_
    rintro _ _ rfl
    refine WL_nil ?_
    refine WQ_code ?_
    refine WC_ret ?_
    refine WQ_ret rfl rfl (.cons (.cell (vs := [_, _, _, _, _, _, _, _]) rfl ag54 (mmD) rfl (atZ)) .nil) rfl (by
        rw [← hl9]
        exact ⟨y.o, y.c, y.tl, o2, k2, t2, rfl, hO, own2, rfl⟩) (pqD)
end Go.Proofs.YtdelhikejgoffaaGreat
end
section
set_option linter.unusedVariables false
set_option maxRecDepth 20000
set_option maxHeartbeats 1000000
namespace Go.Proofs.YtdelhikejgoffaaGreat
structure PCJ (u : PC) : Prop where
  len : u.calls.length ≤ 32
  inc : u.calls.Pairwise fun a b => a.id < b.id
  le : ∀ c ∈ u.calls, c.id ≤ u.last
  last : u.last ≤ 1000000
theorem flt_one {id : Int} : ∀ {l : List Ca}, l.Pairwise (fun a b => a.id < b.id) → ∀ c ∈ l, (c.id : Int) = id → l.filter (isId id) = [c]
  | [], _, c, hc, _ => by cases hc
  | x :: r, h, c, hc, hid => by
    obtain ⟨h1, h2⟩ := List.pairwise_cons.1 h
    rcases List.mem_cons.1 hc with rfl | hc
    · rw [List.filter_cons_of_pos (by simp [isId, hid]), List.filter_eq_nil_iff.2 fun y hy => by have := h1 y hy; simp [isId]; omega]
    · have := h1 c hc
      rw [List.filter_cons_of_neg (by simp [isId]; omega), flt_one h2 c hc hid]
theorem neC_nq (id : Int) (l : List Ca) : l.filter (neC id) = l.filter (nq (isId id)) := List.filter_congr fun c _ => by
  by_cases e : (c.id : Int) = id <;> simp [neC, nq, isId, e]
theorem over_one {u : PC} (hJ : PCJ u) {id : Int} {c : Ca} (hc : c ∈ u.calls) (hid : (c.id : Int) = id) (code : Int) : overC (isId id) code u.calls = [c] := by
  unfold overC
  rw [flt_one hJ.inc c hc hid]
  split <;> rfl
theorem end1_eq {u : PC} (hJ : PCJ u) {id : Int} (h : u.calls.any (isId id) = true) (code : Int) (body : Bs) : u.end1 id code body = u.endW (isId id) code body := by
  obtain ⟨c, hc, e⟩ := List.any_eq_true.1 h
  have hid : (c.id : Int) = id := of_decide_eq_true e
  unfold PC.end1 PC.endW
  rw [over_one hJ hc hid, neC_nq]
  simp [hid]
theorem PCJ.end1 {u : PC} (h : PCJ u) (id code : Int) (body : Bs) : PCJ (u.end1 id code body) := ⟨Nat.le_trans (List.length_filter_le ..) h.len, h.inc.filter _, fun c hc => h.le c (List.mem_filter.1 hc).1, h.last⟩
theorem PCJ.re {u u' : PC} (h : PCJ u) (h1 : u'.calls = u.calls) (h2 : u'.last = u.last) : PCJ u' := ⟨h1 ▸ h.len, h1 ▸ h.inc, h1 ▸ h2 ▸ h.le, h2 ▸ h.last⟩
def RcP (M : Heap) (P : PC × Int) (r : Value) (H' : Heap) : Prop := ∃ N m', CvR (N ++ M) m' P.1 ∧ r = .tuple #[cvv m' P.1, .int .i64 P.2] ∧ H' = N ++ M
theorem CvR.ended {M : Heap} {m : CvV} {u : PC} (h : CvR M m u) (id code : Int) {body : Bs} {oa : Option Addr} {c : Nat} (hb : RdM encY M oa body) {o1 o2 : Option Nat} {k1 k2 e1 e2 : Nat} {t1 t2 : List Value} (own1 : Own o1 (u.calls.filter (neC id)).length k1 2 ((u.calls.filter (neC id)).flatMap encC) t1)
    (own2 : Own o2 (m.R ++ [(⟨id, code, body, oa, c⟩ : Rx)]).length k2 3 ((m.R ++ [(⟨id, code, body, oa, c⟩ : Rx)]).flatMap encX) t2) :
    CvR ([⟨o1, cl ((u.calls.filter (neC id)).flatMap encC ++ t1) e1⟩, ⟨o2, cl ((m.R ++ [(⟨id, code, body, oa, c⟩ : Rx)]).flatMap encX ++ t2) e2⟩] ++ M) { m with a1 := o1.map fun b => ⟨b, 0, none⟩, c1 := k1, a2 := o2.map fun b => ⟨b, 0, none⟩, c2 := k2, R := m.R ++ [(⟨id, code, body, oa, c⟩ : Rx)] } (u.end1 id code body) :=
  ⟨⟨_, List.mem_cons_self .., RdL.own own1⟩, ⟨_, List.mem_cons_of_mem _ (List.mem_cons_self ..), RdL.own own2⟩, by rw [List.map_append, h.rv]; rfl, fun r hr => by
    rcases List.mem_append.1 hr with h1 | h1
    · exact (h.rb r h1).up _
    · rw [List.mem_singleton.1 h1]; exact hb.up _, h.out.up _, h.bs.up _, own2.le, h.oc, h.bc⟩
theorem CvR.outed {M : Heap} {m : CvV} {u : PC} (h : CvR M m u) {l : Bs} {oS : Option Nat} {cS e : Nat} {tS : List Value} (own : Own oS l.length cS 1 (bvs l) tS) : CvR ([⟨oS, cl (bvs l ++ tS) e⟩] ++ M) { m with a3 := oS.map fun b => ⟨b, 0, none⟩, c3 := cS } { u with out := l } :=
  ⟨h.calls.up _, h.res.up _, h.rv, fun r hr => (h.rb r hr).up _, RdM.own own M, h.bs.up _, h.rc, own.le, h.bc⟩
theorem CvR.reb {M : Heap} {m : CvV} {u u' : PC} (h : CvR M m u) (h1 : u'.calls = u.calls) (h2 : u'.res = u.res) (h3 : u'.out = u.out) (h4 : u'.bs = u.bs) : CvR M m u' :=
  ⟨h1 ▸ h.calls, h.res, h2 ▸ h.rv, h.rb, h3 ▸ h.out, h4 ▸ h.bs, h.rc, h3 ▸ h.oc, h4 ▸ h.bc⟩
theorem CvR.ins {M : Heap} {m : CvV} {u : PC} (h : CvR M m u) {l : Bs} {a4 : Option Addr} {c4 : Nat} (hr : RdM encY M a4 l) (hc : l.length ≤ c4) : CvR M { m with a4 := a4, c4 := c4 } { u with bs := l } :=
  ⟨h.calls, h.res, h.rv, h.rb, h.out, hr, h.rc, h.oc, hc⟩
end Go.Proofs.YtdelhikejgoffaaGreat
end
section
set_option linter.unusedVariables false
set_option maxRecDepth 20000
set_option maxHeartbeats 4000000
namespace Go.Proofs.YtdelhikejgoffaaGreat
theorem cnl_one (c : Ca) : cnlF [c] = encF 18 (bigB c.id 4) := by simp [cnlF]
theorem wcan_ok {M : Heap} {m : CvV} {u : PC} (h : CvR M m u) (hJ : PCJ u) (id : Int) (hout : u.out.length ≤ 900000) (hres : u.res.length ≤ 900000) : Spec Tryz.prog 30 [cvv m u, .int .i64 id] M (RcP M (u.cancel id)) := by
  have hJ1 := hJ.len
  have hJ3 := hJ.last
  have hrl := h.rlen
  refine Spec.of (E := [(0, cvv m u), (1, .int .i64 id)]) Tryz.func30 rfl (by kernel_rfl) Tryz.ntmps30 rfl rfl (fun w => ?_)
  refine WC_seq ?_
  refine WC_region ?_
  refine WL_do rfl rfl rfl (D_box (cs := [_, _, _, _, _, _, _, _]) rfl rfl rfl) ?_
  rintro _ _ ⟨b1, rfl, rfl⟩
  refine WL_do rfl rfl rfl (D_alloc rfl zv54) ?_
  rintro _ _ ⟨b2, rfl, rfl⟩
  refine WL_val rfl rfl rfl (R_assign rfl rfl) ?_
  refine WL_nil ?_
  refine WQ_code ?_
  refine WC_seq ?_
  refine WC_seq ?_
  refine WC_region ?_
  refine WL_val rfl rfl rfl (R_fieldAddr rfl fa54_7 rfl) ?_
  refine WL_val rfl rfl rfl (R_load rfl sc4 rfl (mmD) rfl) ?_
  refine WL_val rfl rfl rfl (R_move rfl rfl) ?_
  refine WL_split (s := 8) rfl (fun c1 => ?_) (fun c1 => ?_)
  · have hcl : u.closed = true := c1
    refine WL_skip rfl rfl rfl ?_
    refine WL_skip rfl rfl rfl ?_
    refine WL_skip rfl rfl rfl ?_
    refine WL_val rfl rfl rfl (R_pickT rfl rfl rfl) ?_
    refine WL_nil ?_
    refine WQ_code ?_
    refine WC_T rfl ?_
    refine WC_seq ?_
    refine WC_region ?_
    refine WL_val rfl rfl rfl (R_loadA (vs := [_, _, _, _, _, _, _, _]) rfl ag54 rfl (mmD) rfl (atZ)) ?_
    refine WL_do0 rfl rfl (D_store (vs := [_, _, _, _, _, _, _, _]) rfl Tryz.sizeOf54 rfl rfl rfl rfl rfl (plD) (by exact Nat.le_of_ble_eq_true rfl)) ?_
    rintro _ _ rfl
    refine WL_val rfl rfl rfl (R_assign rfl rfl) ?_
    refine WL_nil ?_
    refine WQ_code ?_
    refine WC_ret ?_
    refine WQ_ret rfl rfl (.cons (.cell (vs := [_, _, _, _, _, _, _, _]) rfl ag54 (mmD) rfl (atZ)) (.cons (.tmp rfl) .nil)) rfl (by
        have hP : u.cancel id = (u, 8) := by unfold PC.cancel; rw [if_pos (.inl hcl)]
        rw [hP]
        exact ⟨[], m, h, rfl, rfl⟩) (pqD)
  · have hcl : u.closed = false := c1
    refine WL_val rfl rfl rfl (R_fieldAddr rfl fa54_6 rfl) ?_
    refine WL_val rfl rfl rfl (R_load rfl sc3 rfl (mmD) rfl) ?_
    refine WL_val rfl rfl rfl (R_neq rfl rfl rfl) ?_
    refine WL_val rfl rfl rfl (R_pickF rfl rfl rfl) ?_
    refine WL_nil ?_
    refine WQ_code ?_
    refine WC_dec rfl (fun c2 => ?_) (fun c2 => ?_)
    · have hP : u.cancel id = (u, 8) := by unfold PC.cancel; rw [if_pos (.inr c2)]
      refine WC_seq ?_
      refine WC_region ?_
      refine WL_val rfl rfl rfl (R_loadA (vs := [_, _, _, _, _, _, _, _]) rfl ag54 rfl (mmD) rfl (atZ)) ?_
      refine WL_do0 rfl rfl (D_store (vs := [_, _, _, _, _, _, _, _]) rfl Tryz.sizeOf54 rfl rfl rfl rfl rfl (plD) (by exact Nat.le_of_ble_eq_true rfl)) ?_
      rintro _ _ rfl
      refine WL_val rfl rfl rfl (R_assign rfl rfl) ?_
      refine WL_nil ?_
      refine WQ_code ?_
      refine WC_ret ?_
      refine WQ_ret rfl rfl (.cons (.cell (vs := [_, _, _, _, _, _, _, _]) rfl ag54 (mmD) rfl (atZ)) (.cons (.tmp rfl) .nil)) rfl (by
          rw [hP]
          exact ⟨[], m, h, rfl, rfl⟩) (pqD)
    · have hbr : ¬ (u.closed = true ∨ u.br ≠ 0) := fun e => e.elim (fun e => by rw [hcl] at e; cases e) (fun e => c2 e)
      refine WC_skip ?_
      refine WQ_code ?_
      refine WC_seq ?_
      refine WC_seq ?_
      refine WC_region ?_
      refine WL_val rfl rfl rfl (R_loadA (vs := [_, _, _, _, _, _, _, _]) rfl ag54 rfl (mmD) rfl (atZ)) ?_
      refine WL_val rfl rfl rfl (R_move rfl rfl) ?_
      refine WL_do rfl rfl rfl (D_call (wiso_ok h.calls (by omega) _ _ _ _ _ _ _ _ _ _ _ _ _ id) rfl rfl rfl rfl (pqD)) ?_
      rintro _ _ ⟨_, ⟨rfl, rfl⟩, rfl⟩
      refine WL_val rfl rfl rfl (R_not rfl rfl) ?_
      refine WL_nil ?_
      refine WQ_code ?_
      refine WC_if rfl (fun c3 => ?_) (fun c3 => ?_)
      · have hno : u.calls.any (isId id) = false := by simpa using c3
        have hP : u.cancel id = (u, 9) := by unfold PC.cancel; rw [if_neg hbr, if_pos hno]
        refine WC_seq ?_
        refine WC_region ?_
        refine WL_val rfl rfl rfl (R_loadA (vs := [_, _, _, _, _, _, _, _]) rfl ag54 rfl (mmD) rfl (atZ)) ?_
        refine WL_do0 rfl rfl (D_store (vs := [_, _, _, _, _, _, _, _]) rfl Tryz.sizeOf54 rfl rfl rfl rfl rfl (plD) (by exact Nat.le_of_ble_eq_true rfl)) ?_
        rintro _ _ rfl
        refine WL_val rfl rfl rfl (R_assign rfl rfl) ?_
        refine WL_nil ?_
        refine WQ_code ?_
        refine WC_ret ?_
        refine WQ_ret rfl rfl (.cons (.cell (vs := [_, _, _, _, _, _, _, _]) rfl ag54 (mmD) rfl (atZ)) (.cons (.tmp rfl) .nil)) rfl (by
            rw [hP]
            exact ⟨[], m, h, rfl, rfl⟩) (pqD)
      · have hyes : u.calls.any (isId id) = true := by simpa using c3
        obtain ⟨cc, hcc, hce⟩ := List.any_eq_true.1 hyes
        have hci : (cc.id : Int) = id := of_decide_eq_true hce
        have hile := hJ.le cc hcc
        have hno : ¬ u.calls.any (isId id) = false := by rw [hyes]; simp
        refine WC_skip ?_
        refine WQ_code ?_
        refine WC_seq ?_
        refine WC_seq ?_
        refine WC_region ?_
        refine WL_val rfl rfl rfl (R_fieldAddr rfl fa54_4 rfl) ?_
        refine WL_val rfl rfl rfl (R_load rfl sc26 rfl (mmD) rfl) ?_
        refine WL_val rfl rfl rfl (R_len rfl Tryz.underlying26 rfl) ?_
        refine WL_val rfl rfl rfl (R_gtr rfl rfl rfl) ?_
        refine WL_nil ?_
        refine WQ_code ?_
        refine WC_dec rfl (fun c4 => ?_) (fun c4 => ?_)
        · have hP : u.cancel id = (u, 7) := by unfold PC.cancel; rw [if_neg hbr, if_neg hno, if_pos (by omega)]
          refine WC_seq ?_
          refine WC_region ?_
          refine WL_val rfl rfl rfl (R_loadA (vs := [_, _, _, _, _, _, _, _]) rfl ag54 rfl (mmD) rfl (atZ)) ?_
          refine WL_do0 rfl rfl (D_store (vs := [_, _, _, _, _, _, _, _]) rfl Tryz.sizeOf54 rfl rfl rfl rfl rfl (plD) (by exact Nat.le_of_ble_eq_true rfl)) ?_
          rintro _ _ rfl
          refine WL_val rfl rfl rfl (R_assign rfl rfl) ?_
          refine WL_nil ?_
          refine WQ_code ?_
          refine WC_ret ?_
          refine WQ_ret rfl rfl (.cons (.cell (vs := [_, _, _, _, _, _, _, _]) rfl ag54 (mmD) rfl (atZ)) (.cons (.tmp rfl) .nil)) rfl (by
              rw [hP]
              exact ⟨[], m, h, rfl, rfl⟩) (pqD)
        · have hP : u.cancel id = ({ u.end1 id 14 [] with out := u.out ++ encF 18 (bigB id.toNat 4) }, 0) := by unfold PC.cancel; rw [if_neg hbr, if_neg hno, if_neg (by omega), end1_eq hJ hyes, over_one hJ hcc hci, cnl_one, ← hci, Int.toNat_natCast]
          refine WC_skip ?_
          refine WQ_code ?_
          refine WC_seq ?_
          refine WC_region ?_
          refine WL_none 5 ?_
          refine WL_val rfl rfl rfl (R_loadA (vs := [_, _, _, _, _, _, _, _]) rfl ag54 rfl (mmD) rfl (atZ)) ?_
          refine WL_val rfl rfl rfl (R_move rfl rfl) ?_
          refine WL_do rfl rfl rfl (D_call (wend_ok h.calls (by omega) h.res (by omega) _ _ _ _ _ _ _ _ _ _ _ id 14 [] none 0) rfl rfl rfl rfl (pqD)) ?_
          rintro _ _ ⟨_, ⟨o1, k1, t1, o2, k2, t2, rfl, own1, own2, rfl⟩, rfl⟩
          refine WL_do0 rfl rfl (D_store (vs := [_, _, _, _, _, _, _, _]) rfl Tryz.sizeOf54 rfl rfl rfl rfl rfl (plD) (by exact Nat.le_of_ble_eq_true rfl)) ?_
          rintro _ _ rfl
          refine WL_nil ?_
          refine WQ_code ?_
          refine WC_seq ?_
          refine WC_drawL 7 [] [] [(0, .q), (1, .q), (2, .q), (3, .q), (4, .n []), (5, .n []), (6, .q)] followsMixed rfl (by kernel_rfl) rfl (by kernel_rfl) (pqD) .nil ?_
          refine WX_val rfl rfl rfl rfl (R_fieldAddr rfl fa54_4 rfl) ?_
          refine WX_val rfl rfl rfl rfl (R_load rfl sc26 rfl (mmD) rfl) ?_
          refine WX_val rfl rfl rfl rfl (R_move rfl rfl) ?_
          refine WX_val rfl rfl rfl rfl (R_conv (r := ((id.toNat : Nat) : Int)) rfl Tryz.underlying3 Tryz.underlying40 rfl (by rw [w64 ⟨by omega, by omega⟩]; omega)) ?_
          refine WX_do rfl rfl rfl rfl .nil (fun _ => D_call (wbig_ok id.toNat 4 (by omega) (by decide)) rfl rfl rfl rfl (pqD)) ?_
          rintro _ _ ⟨_, ⟨oB, cB, tB, rfl, ownB, rfl⟩, rfl⟩
          refine ⟨⟨_, pqD⟩, .nil, ?_⟩
          refine WX_do rfl rfl rfl rfl .nil (fun _ => D_call (wsent_ok 18 (body := bigB id.toNat 4) (M := [⟨oB, cl (bvs (bigB id.toNat 4) ++ tB) 5⟩] ++ M) (h.out.up [⟨oB, cl (bvs (bigB id.toNat 4) ++ tB) 5⟩]) (RdM.own (e := 5) ownB M) (by omega) (by rw [bigB_len]; omega)) rfl rfl rfl rfl (pqD)) ?_
          rintro _ _ ⟨_, ⟨oS, cS, tS, rfl, ownS, rfl⟩, rfl⟩
          refine ⟨⟨_, pqD⟩, .nil, ?_⟩
          refine WX_val rfl rfl rfl rfl (R_fieldAddr rfl fa54_4 rfl) ?_
          refine WX_nil ?_
          refine WQ_last0 rfl rfl rfl (D_store (vs := [_]) rfl Tryz.sizeOf26 rfl rfl rfl rfl rfl (plD) (by exact Nat.le_of_ble_eq_true rfl)) ?_
          rintro _ _ rfl
          refine WQ_code ?_
          refine WC_seq ?_
          refine WC_region ?_
          refine WL_val rfl rfl rfl (R_loadA (vs := [_, _, _, _, _, _, _, _]) rfl ag54 rfl (mmD) rfl (atZ)) ?_
          refine WL_do0 rfl rfl (D_store (vs := [_, _, _, _, _, _, _, _]) rfl Tryz.sizeOf54 rfl rfl rfl rfl rfl (plD) (by exact Nat.le_of_ble_eq_true rfl)) ?_
          rintro _ _ rfl
          refine WL_val rfl rfl rfl (R_assign rfl rfl) ?_
          refine WL_nil ?_
          refine WQ_code ?_
          refine WC_ret ?_
          refine WQ_ret rfl rfl (.cons (.cell (vs := [_, _, _, _, _, _, _, _]) rfl ag54 (mmD) rfl (atZ)) (.cons (.tmp rfl) .nil)) rfl (by
              rw [hP]
              exact ⟨[_, _, _, _], _, CvR.outed (e := 5) (CvR.ended (e1 := 98) (e2 := 89) ((h.up [⟨none, cl [] 5⟩])) id 14 (c := 0) (RdM.none none (List.mem_cons_self ..)) own1 own2) ownS, rfl, rfl⟩) (pqD)
end Go.Proofs.YtdelhikejgoffaaGreat
end
section
set_option linter.unusedVariables false
set_option maxRecDepth 20000
set_option maxHeartbeats 4000000
namespace Go.Proofs.YtdelhikejgoffaaGreat
def RkP (M : Heap) (P : PC × Int × Int) (r : Value) (H' : Heap) : Prop := ∃ N m', CvR (N ++ M) m' P.1 ∧ r = .tuple #[cvv m' P.1, .int .i64 P.2.1, .int .i64 P.2.2] ∧ H' = N ++ M
theorem wmake_ok {M : Heap} {m : CvV} {u : PC} (h : CvR M m u) (hJ : PCJ u) {body : Bs} {oa : Option Addr} {c : Nat} (hr : RdM encY M oa body) (hl : body.length ≤ 1000000) (dl : Nat) (hdl : dl ≤ 18446744073709551615) (hnow : u.now ≤ 18446744073709551615) (hout : u.out.length ≤ 900000) : Spec Tryz.prog 29 [cvv m u, .slice oa body.length c, .int .u64 (dl : Int)] M (RkP M (u.call body dl)) := by
  have hJ1 := hJ.len
  have hJ3 := hJ.last
  refine Spec.of (E := [(0, cvv m u), (1, .slice oa body.length c), (2, .int .u64 (dl : Int))]) Tryz.func29 rfl (by kernel_rfl) Tryz.ntmps29 rfl rfl (fun w => ?_)
  refine WC_seq ?_
  refine WC_region ?_
  refine WL_do rfl rfl rfl (D_box (cs := [_, _, _, _, _, _, _, _]) rfl rfl rfl) ?_
  rintro _ _ ⟨b1, rfl, rfl⟩
  refine WL_do rfl rfl rfl (D_alloc rfl zv54) ?_
  rintro _ _ ⟨b2, rfl, rfl⟩
  refine WL_val rfl rfl rfl (R_assign rfl rfl) ?_
  refine WL_val rfl rfl rfl (R_assign rfl rfl) ?_
  refine WL_nil ?_
  refine WQ_code ?_
  refine WC_seq ?_
  refine WC_seq ?_
  refine WC_region ?_
  refine WL_val rfl rfl rfl (R_move rfl rfl) ?_
  refine WL_val rfl rfl rfl (R_fieldAddr rfl fa54_0 rfl) ?_
  refine WL_val rfl rfl rfl (R_load rfl sc41 rfl (mmD) rfl) ?_
  refine WL_val rfl rfl rfl (R_leq rfl rfl rfl) ?_
  refine WL_nil ?_
  refine WQ_code ?_
  refine WC_dec rfl (fun c1 => ?_) (fun c1 => ?_)
  · have hP : u.call body dl = (u, 0, 2) := by unfold PC.call; rw [if_pos (by omega)]
    refine WC_seq ?_
    refine WC_region ?_
    refine WL_val rfl rfl rfl (R_loadA (vs := [_, _, _, _, _, _, _, _]) rfl ag54 rfl (mmD) rfl (atZ)) ?_
    refine WL_do0 rfl rfl (D_store (vs := [_, _, _, _, _, _, _, _]) rfl Tryz.sizeOf54 rfl rfl rfl rfl rfl (plD) (by exact Nat.le_of_ble_eq_true rfl)) ?_
    rintro _ _ rfl
    refine WL_val rfl rfl rfl (R_assign rfl rfl) ?_
    refine WL_val rfl rfl rfl (R_assign rfl rfl) ?_
    refine WL_nil ?_
    refine WQ_code ?_
    refine WC_ret ?_
    refine WQ_ret rfl rfl (.cons (.cell (vs := [_, _, _, _, _, _, _, _]) rfl ag54 (mmD) rfl (atZ)) (.cons (.tmp rfl) (.cons (.tmp rfl) .nil))) rfl (by
        rw [hP]
        exact ⟨[], m, h, rfl, rfl⟩) (pqD)
  · have hd : ¬ dl ≤ u.now := by omega
    refine WC_skip ?_
    refine WQ_code ?_
    refine WC_seq ?_
    refine WC_seq ?_
    refine WC_region ?_
    refine WL_val rfl rfl rfl (R_fieldAddr rfl fa54_7 rfl) ?_
    refine WL_val rfl rfl rfl (R_load rfl sc4 rfl (mmD) rfl) ?_
    refine WL_val rfl rfl rfl (R_move rfl rfl) ?_
    refine WL_split (s := 16) rfl (fun c2 => ?_) (fun c2 => ?_)
    · have hcl : u.closed = true := c2
      refine WL_skip rfl rfl rfl ?_
      refine WL_skip rfl rfl rfl ?_
      refine WL_skip rfl rfl rfl ?_
      refine WL_val rfl rfl rfl (R_pickT rfl rfl rfl) ?_
      refine WL_nil ?_
      refine WQ_code ?_
      refine WC_T rfl ?_
      refine WC_seq ?_
      refine WC_region ?_
      refine WL_val rfl rfl rfl (R_loadA (vs := [_, _, _, _, _, _, _, _]) rfl ag54 rfl (mmD) rfl (atZ)) ?_
      refine WL_do0 rfl rfl (D_store (vs := [_, _, _, _, _, _, _, _]) rfl Tryz.sizeOf54 rfl rfl rfl rfl rfl (plD) (by exact Nat.le_of_ble_eq_true rfl)) ?_
      rintro _ _ rfl
      refine WL_val rfl rfl rfl (R_assign rfl rfl) ?_
      refine WL_val rfl rfl rfl (R_assign rfl rfl) ?_
      refine WL_nil ?_
      refine WQ_code ?_
      refine WC_ret ?_
      refine WQ_ret rfl rfl (.cons (.cell (vs := [_, _, _, _, _, _, _, _]) rfl ag54 (mmD) rfl (atZ)) (.cons (.tmp rfl) (.cons (.tmp rfl) .nil))) rfl (by
          have hP : u.call body dl = (u, 0, 8) := by unfold PC.call; rw [if_neg hd, if_pos (.inl hcl)]
          rw [hP]
          exact ⟨[], m, h, rfl, rfl⟩) (pqD)
    · have hcl : u.closed = false := c2
      refine WL_val rfl rfl rfl (R_fieldAddr rfl fa54_6 rfl) ?_
      refine WL_val rfl rfl rfl (R_load rfl sc3 rfl (mmD) rfl) ?_
      refine WL_val rfl rfl rfl (R_neq rfl rfl rfl) ?_
      refine WL_val rfl rfl rfl (R_pickF rfl rfl rfl) ?_
      refine WL_nil ?_
      refine WQ_code ?_
      refine WC_dec rfl (fun c3 => ?_) (fun c3 => ?_)
      · have hP : u.call body dl = (u, 0, 8) := by unfold PC.call; rw [if_neg hd, if_pos (.inr c3)]
        refine WC_seq ?_
        refine WC_region ?_
        refine WL_val rfl rfl rfl (R_loadA (vs := [_, _, _, _, _, _, _, _]) rfl ag54 rfl (mmD) rfl (atZ)) ?_
        refine WL_do0 rfl rfl (D_store (vs := [_, _, _, _, _, _, _, _]) rfl Tryz.sizeOf54 rfl rfl rfl rfl rfl (plD) (by exact Nat.le_of_ble_eq_true rfl)) ?_
        rintro _ _ rfl
        refine WL_val rfl rfl rfl (R_assign rfl rfl) ?_
        refine WL_val rfl rfl rfl (R_assign rfl rfl) ?_
        refine WL_nil ?_
        refine WQ_code ?_
        refine WC_ret ?_
        refine WQ_ret rfl rfl (.cons (.cell (vs := [_, _, _, _, _, _, _, _]) rfl ag54 (mmD) rfl (atZ)) (.cons (.tmp rfl) (.cons (.tmp rfl) .nil))) rfl (by
            rw [hP]
            exact ⟨[], m, h, rfl, rfl⟩) (pqD)
      · have hbr : ¬ (u.closed = true ∨ u.br ≠ 0) := fun e => e.elim (fun e => by rw [hcl] at e; cases e) (fun e => c3 e)
        refine WC_skip ?_
        refine WQ_code ?_
        refine WC_seq ?_
        refine WC_seq ?_
        refine WC_region ?_
        refine WL_val rfl rfl rfl (R_move rfl rfl) ?_
        refine WL_val rfl rfl rfl (R_len rfl Tryz.underlying26 rfl) ?_
        refine WL_val rfl rfl rfl (R_gtr rfl rfl rfl) ?_
        refine WL_nil ?_
        refine WQ_code ?_
        refine WC_dec rfl (fun c4 => ?_) (fun c4 => ?_)
        · have hP : u.call body dl = (u, 0, 5) := by unfold PC.call; rw [if_neg hd, if_neg hbr, if_pos (by omega)]
          refine WC_seq ?_
          refine WC_region ?_
          refine WL_val rfl rfl rfl (R_loadA (vs := [_, _, _, _, _, _, _, _]) rfl ag54 rfl (mmD) rfl (atZ)) ?_
          refine WL_do0 rfl rfl (D_store (vs := [_, _, _, _, _, _, _, _]) rfl Tryz.sizeOf54 rfl rfl rfl rfl rfl (plD) (by exact Nat.le_of_ble_eq_true rfl)) ?_
          rintro _ _ rfl
          refine WL_val rfl rfl rfl (R_assign rfl rfl) ?_
          refine WL_val rfl rfl rfl (R_assign rfl rfl) ?_
          refine WL_nil ?_
          refine WQ_code ?_
          refine WC_ret ?_
          refine WQ_ret rfl rfl (.cons (.cell (vs := [_, _, _, _, _, _, _, _]) rfl ag54 (mmD) rfl (atZ)) (.cons (.tmp rfl) (.cons (.tmp rfl) .nil))) rfl (by
              rw [hP]
              exact ⟨[], m, h, rfl, rfl⟩) (pqD)
        · have hbo : ¬ 1012 < body.length := by omega
          refine WC_skip ?_
          refine WQ_code ?_
          refine WC_seq ?_
          refine WC_seq ?_
          refine WC_region ?_
          refine WL_val rfl rfl rfl (R_fieldAddr rfl fa54_2 rfl) ?_
          refine WL_val rfl rfl rfl (R_load rfl sc52 rfl (mmD) rfl) ?_
          refine WL_val rfl rfl rfl (R_len rfl Tryz.underlying52 rfl) ?_
          refine WL_val rfl rfl rfl (R_geq rfl rfl rfl) ?_
          refine WL_val rfl rfl rfl (R_move rfl rfl) ?_
          refine WL_splitD (s := 30) rfl (fun c5 => ?_) (fun c5 => ?_)
          · have hq0 := c5
            refine WL_skip rfl rfl rfl ?_
            refine WL_skip rfl rfl rfl ?_
            refine WL_skip rfl rfl rfl ?_
            refine WL_skip rfl rfl rfl ?_
            refine WL_val rfl rfl rfl (R_pickT rfl rfl rfl) ?_
            refine WL_nil ?_
            refine WQ_code ?_
            refine WC_T rfl ?_
            refine WC_seq ?_
            refine WC_region ?_
            refine WL_val rfl rfl rfl (R_loadA (vs := [_, _, _, _, _, _, _, _]) rfl ag54 rfl (mmD) rfl (atZ)) ?_
            refine WL_do0 rfl rfl (D_store (vs := [_, _, _, _, _, _, _, _]) rfl Tryz.sizeOf54 rfl rfl rfl rfl rfl (plD) (by exact Nat.le_of_ble_eq_true rfl)) ?_
            rintro _ _ rfl
            refine WL_val rfl rfl rfl (R_assign rfl rfl) ?_
            refine WL_val rfl rfl rfl (R_assign rfl rfl) ?_
            refine WL_nil ?_
            refine WQ_code ?_
            refine WC_ret ?_
            refine WQ_ret rfl rfl (.cons (.cell (vs := [_, _, _, _, _, _, _, _]) rfl ag54 (mmD) rfl (atZ)) (.cons (.tmp rfl) (.cons (.tmp rfl) .nil))) rfl (by
                have hP : u.call body dl = (u, 0, 7) := by unfold PC.call; rw [if_neg hd, if_neg hbr, if_neg hbo, if_pos (by omega)]
                rw [hP]
                exact ⟨[], m, h, rfl, rfl⟩) (pqD)
          · have hq0 := c5
            refine WL_val rfl rfl rfl (R_fieldAddr rfl fa54_4 rfl) ?_
            refine WL_val rfl rfl rfl (R_load rfl sc26 rfl (mmD) rfl) ?_
            refine WL_val rfl rfl rfl (R_len rfl Tryz.underlying26 rfl) ?_
            refine WL_val rfl rfl rfl (R_gtr rfl rfl rfl) ?_
            refine WL_val rfl rfl rfl (R_pickF rfl rfl rfl) ?_
            refine WL_nil ?_
            refine WQ_code ?_
            refine WC_dec rfl (fun c6 => ?_) (fun c6 => ?_)
            · have hP : u.call body dl = (u, 0, 7) := by unfold PC.call; rw [if_neg hd, if_neg hbr, if_neg hbo, if_pos (by omega)]
              refine WC_seq ?_
              refine WC_region ?_
              refine WL_val rfl rfl rfl (R_loadA (vs := [_, _, _, _, _, _, _, _]) rfl ag54 rfl (mmD) rfl (atZ)) ?_
              refine WL_do0 rfl rfl (D_store (vs := [_, _, _, _, _, _, _, _]) rfl Tryz.sizeOf54 rfl rfl rfl rfl rfl (plD) (by exact Nat.le_of_ble_eq_true rfl)) ?_
              rintro _ _ rfl
              refine WL_val rfl rfl rfl (R_assign rfl rfl) ?_
              refine WL_val rfl rfl rfl (R_assign rfl rfl) ?_
              refine WL_nil ?_
              refine WQ_code ?_
              refine WC_ret ?_
              refine WQ_ret rfl rfl (.cons (.cell (vs := [_, _, _, _, _, _, _, _]) rfl ag54 (mmD) rfl (atZ)) (.cons (.tmp rfl) (.cons (.tmp rfl) .nil))) rfl (by
                  rw [hP]
                  exact ⟨[], m, h, rfl, rfl⟩) (pqD)
            · have hP : u.call body dl = ({ u with last := u.last + 1, calls := (u.calls ++ [(⟨u.last + 1, dl⟩ : Ca)]), out := u.out ++ encF 16 (bigB (u.last + 1) 4 ++ (bigB dl 8 ++ body)) }, ((u.last + 1 : Nat) : Int), 0) := by unfold PC.call; rw [if_neg hd, if_neg hbr, if_neg hbo, if_neg (by omega)]
              refine WC_skip ?_
              refine WQ_code ?_
              refine WC_seq ?_
              refine WC_region ?_
              refine WL_val rfl rfl rfl (R_fieldAddr rfl fa54_1 rfl) ?_
              obtain ⟨ent, hm, hrb⟩ := hr.b
              have hb4 := bigB_len (u.last + 1) 4
              have hb8 := bigB_len dl 8
              have hbl : (bigB (u.last + 1) 4 ++ (bigB dl 8 ++ body)).length = 12 + body.length := by rw [List.length_append, List.length_append, hb4, hb8]; omega
              refine WL_val rfl rfl rfl (R_load rfl sc3 rfl (mmD) rfl) ?_
              refine WL_val rfl rfl rfl (R_addR (r := ((u.last + 1 : Nat) : Int)) rfl rfl rfl (by rw [wrap64_in (by omega) (by omega)]; omega)) ?_
              refine WL_val rfl rfl rfl (R_fieldAddr rfl fa54_1 rfl) ?_
              refine WL_do0 rfl rfl (D_store (vs := [_]) rfl Tryz.sizeOf3 rfl rfl rfl rfl rfl (plD) (by exact Nat.le_of_ble_eq_true rfl)) ?_
              rintro _ _ rfl
              refine WL_nil ?_
              refine WQ_code ?_
              refine WC_seq ?_
              refine WC_drawL 10 [] [] [(0, .q), (1, .q), (3, .q), (4, .q), (5, .q), (6, .q), (2, .n [7]), (7, .b []), (8, .n []), (9, .q)] followsMixed rfl (by kernel_rfl) rfl (by kernel_rfl) (pqD) .nil ?_
              refine WX_val rfl rfl rfl rfl (R_fieldAddr rfl fa54_2 rfl) ?_
              refine WX_val rfl rfl rfl rfl (R_load rfl sc52 rfl (mmD) rfl) ?_
              refine WX_val rfl rfl rfl rfl (R_fieldAddr rfl fa54_1 rfl) ?_
              refine WX_val rfl rfl rfl rfl (R_load rfl sc3 rfl (mmD) rfl) ?_
              refine WX_val rfl rfl rfl rfl (R_move rfl rfl) ?_
              refine WX_val rfl rfl rfl rfl (R_build rfl zv98 pl98 rfl rfl) ?_
              refine WX_do rfl rfl rfl rfl (.cons rfl rfl (B_buildSlice rfl si52 rfl rfl rfl) .nil) (fun _ => D_appendIn rfl si52 rfl rfl (RdM.inn h.calls pqD) (by rw [fm_len encC2]) (by omega) (by omega)) ?_
              rintro _ _ ⟨o8, c8, tl8, rfl, own8, rfl⟩
              refine ⟨⟨_, pqD⟩, .nil, ?_⟩
              refine WX_birth rfl rfl rfl rfl .nil (B_buildSlice rfl si52 rfl rfl rfl) (fun b3 => ?_)
              refine WX_do rfl rfl rfl rfl .nil (fun _ => D_append rfl si52 rfl own8 plD rfl mmD (atZ : At _ 0 [_, _]) rfl rfl (by omega) (by omega)) ?_
              rintro _ _ ⟨o1, k1, t1, rfl, own1, rfl⟩
              refine ⟨⟨_, pqD⟩, .nil, ?_⟩
              have e49 : u.calls.flatMap encC ++ [Value.int .i64 ((u.last + 1 : Nat) : Int), Value.int .u64 (dl : Int)] = (u.calls ++ [(⟨u.last + 1, dl⟩ : Ca)]).flatMap encC := by rw [List.flatMap_append]; rfl
              rw [e49, show u.calls.length + 1 = (u.calls ++ [(⟨u.last + 1, dl⟩ : Ca)]).length from by simp] at own1 ⊢
              refine WX_val rfl rfl rfl rfl (R_fieldAddr rfl fa54_2 rfl) ?_
              refine WX_nil ?_
              refine WQ_last0 rfl rfl rfl (D_store (vs := [_]) rfl Tryz.sizeOf52 rfl rfl rfl rfl rfl (plD) (by exact Nat.le_of_ble_eq_true rfl)) ?_
              rintro _ _ rfl
              refine WQ_code ?_
              refine WC_seq ?_
              refine WC_drawL 13 [] [] [(0, .q), (1, .q), (2, .q), (3, .q), (4, .q), (6, .q), (9, .q), (5, .n []), (7, .n []), (8, .n []), (10, .n []), (11, .n []), (12, .q)] followsMixed rfl (by kernel_rfl) rfl (by kernel_rfl) (pqD) .nil ?_
              refine WX_val rfl rfl rfl rfl (R_fieldAddr rfl fa54_4 rfl) ?_
              refine WX_val rfl rfl rfl rfl (R_load rfl sc26 rfl (mmD) rfl) ?_
              refine WX_val rfl rfl rfl rfl (R_fieldAddr rfl fa54_1 rfl) ?_
              refine WX_val rfl rfl rfl rfl (R_load rfl sc3 rfl (mmD) rfl) ?_
              refine WX_val rfl rfl rfl rfl (R_conv (r := ((u.last + 1 : Nat) : Int)) rfl Tryz.underlying3 Tryz.underlying40 rfl (by rw [w64 ⟨by omega, by omega⟩])) ?_
              refine WX_val rfl rfl rfl rfl (R_move rfl rfl) ?_
              refine WX_val rfl rfl rfl rfl (R_move rfl rfl) ?_
              refine WX_do rfl rfl rfl rfl .nil (fun _ => D_call (wbig_ok (u.last + 1) 4 (by omega) (by decide)) rfl rfl rfl rfl (pqD)) ?_
              rintro _ _ ⟨_, ⟨oB, cB, tB, rfl, ownB, rfl⟩, rfl⟩
              refine ⟨⟨_, pqD⟩, .nil, ?_⟩
              refine WX_do rfl rfl rfl rfl .nil (fun _ => D_call (wbig_ok dl 8 (by omega) (by decide)) rfl rfl rfl rfl (pqD)) ?_
              rintro _ _ ⟨_, ⟨oC, cC, tC, rfl, ownC, rfl⟩, rfl⟩
              refine ⟨⟨_, pqD⟩, .nil, ?_⟩
              refine WX_do rfl rfl rfl rfl .nil (fun _ => D_appendBO rfl si26 rfl ownB plD rfl (RdB.own ownC) mmD (by omega) (by omega)) ?_
              rintro _ _ ⟨o7, c7, tl7, rfl, own7, rfl⟩
              refine ⟨⟨_, pqD⟩, .nil, ?_⟩
              refine WX_do rfl rfl rfl rfl .nil (fun _ => D_appendBO rfl si26 rfl own7 plD rfl hrb (pulls_mem (pqD : Pulls M _ _) hm) (by omega) (by omega)) ?_
              rintro _ _ ⟨o9, c9, tl9, rfl, own9, rfl⟩
              refine ⟨⟨_, pqD⟩, .nil, ?_⟩
              have e61 : bvs (bigB (u.last + 1) 4) ++ bvs (bigB dl 8) ++ bvs body = bvs (bigB (u.last + 1) 4 ++ (bigB dl 8 ++ body)) := by rw [bvs_app, bvs_app, List.append_assoc]
              rw [e61, show (bigB (u.last + 1) 4).length + (bigB dl 8).length + body.length = (bigB (u.last + 1) 4 ++ (bigB dl 8 ++ body)).length from by rw [hbl, hb4, hb8]] at own9 ⊢
              refine WX_do rfl rfl rfl rfl .nil (fun _ => D_call (wsent_ok 16 (body := (bigB (u.last + 1) 4 ++ (bigB dl 8 ++ body))) (M := [⟨o9, cl (bvs (bigB (u.last + 1) 4 ++ (bigB dl 8 ++ body)) ++ tl9) 5⟩] ++ M) (h.out.up [⟨o9, cl (bvs (bigB (u.last + 1) 4 ++ (bigB dl 8 ++ body)) ++ tl9) 5⟩]) (RdM.own (e := 5) own9 M) (by omega) (by rw [hbl]; omega)) rfl rfl rfl rfl (pqD)) ?_
              rintro _ _ ⟨_, ⟨oS, cS, tS, rfl, ownS, rfl⟩, rfl⟩
              refine ⟨⟨_, pqD⟩, .nil, ?_⟩
              refine WX_val rfl rfl rfl rfl (R_fieldAddr rfl fa54_4 rfl) ?_
              refine WX_nil ?_
              refine WQ_last0 rfl rfl rfl (D_store (vs := [_]) rfl Tryz.sizeOf26 rfl rfl rfl rfl rfl (plD) (by exact Nat.le_of_ble_eq_true rfl)) ?_
              rintro _ _ rfl
              refine WQ_code ?_
              refine WC_seq ?_
              refine WC_drawR [⟨some b2, _⟩] [(0, true), (1, true), (2, true), (3, false), (4, true), (5, true)] followsMixed rfl rfl (by kernel_rfl) (pqD) ?_
              refine WM_val rfl rfl rfl rfl (R_loadA (vs := [_, _, _, _, _, _, _, _]) rfl ag54 rfl (mmD) rfl (atZ)) ?_
              refine WM_val rfl rfl rfl rfl (R_fieldAddr rfl fa54_1 rfl) ?_
              refine WM_val rfl rfl rfl rfl (R_load rfl sc3 rfl (mmD) rfl) ?_
              refine WM_do0 rfl rfl rfl (D_store (vs := [_, _, _, _, _, _, _, _]) rfl Tryz.sizeOf54 rfl rfl rfl rfl rfl (plD) (by exact Nat.le_of_ble_eq_true rfl)) ?_
              rintro _ _ rfl
              refine ⟨⟨_, pqD⟩, ?_⟩
              refine WM_val rfl rfl rfl rfl (R_assign rfl rfl) ?_
              refine WM_val rfl rfl rfl rfl (R_assign rfl rfl) ?_
              refine WM_nil ?_
              refine WQ_code ?_
              refine WC_ret ?_
              refine WQ_ret rfl rfl (.cons (.cell (vs := [_, _, _, _, _, _, _, _]) rfl ag54 (mmD) rfl (atZ)) (.cons (.tmp rfl) (.cons (.tmp rfl) .nil))) rfl (by
                  rw [hP]
                  exact ⟨[⟨oS, cl (bvs (u.out ++ encF 16 (bigB (u.last + 1) 4 ++ (bigB dl 8 ++ body))) ++ tS) 5⟩, ⟨o1, cl ((u.calls ++ [(⟨u.last + 1, dl⟩ : Ca)]).flatMap encC ++ t1) 98⟩], { m with a1 := o1.map fun b => ⟨b, 0, none⟩, c1 := k1, a3 := oS.map fun b => ⟨b, 0, none⟩, c3 := cS }, ⟨⟨_, List.mem_cons_of_mem _ (List.mem_cons_self ..), RdL.own own1⟩, h.res.up _, h.rv, fun r hr => (h.rb r hr).up _, ⟨_, List.mem_cons_self .., RdL.own ownS⟩, h.bs.up _, h.rc, ownS.le, h.bc⟩, rfl, rfl⟩) (pqD)
end Go.Proofs.YtdelhikejgoffaaGreat
end
section
set_option linter.unusedVariables false
set_option maxRecDepth 20000
set_option maxHeartbeats 1000000
namespace Go.Proofs.YtdelhikejgoffaaGreat
def alU (u : PC) (k : Nat) : PC := { u with calls := u.calls.drop k, res := u.res ++ (u.calls.take k).map fun c => (⟨(c.id : Int), 14, []⟩ : Res) }
theorem drop_at {α : Type} {l : List α} {k : Nat} {x : α} (h : l[k]? = some x) : l.drop k = x :: l.drop (k + 1) := by
  obtain ⟨h1, h2⟩ := List.getElem?_eq_some_iff.1 h
  rw [List.drop_eq_getElem_cons h1, h2]
theorem al_flt {u : PC} (hJ : PCJ u) {k : Nat} {x : Ca} (h : u.calls[k]? = some x) : (alU u k).calls.filter (neC x.id) = (alU u (k + 1)).calls := by
  show (u.calls.drop k).filter _ = u.calls.drop (k + 1)
  have hp := hJ.inc.drop (i := k)
  rw [drop_at h] at hp ⊢
  have h1 := (List.pairwise_cons.1 hp).1
  rw [List.filter_cons_of_neg (by simp [neC]), List.filter_eq_self.2 fun y hy => by have := h1 y hy; simp [neC]; omega]
theorem al_step {u : PC} (hJ : PCJ u) {k : Nat} {x : Ca} (h : u.calls[k]? = some x) : (alU u k).end1 x.id 14 [] = alU u (k + 1) := by
  unfold PC.end1
  rw [al_flt hJ h]
  unfold alU
  rw [take_next h, List.map_append, List.append_assoc]
  rfl
theorem al_end (u : PC) : alU u u.calls.length = u.endW allQ 14 [] := by
  have e1 : u.calls.filter allQ = u.calls := List.filter_eq_self.2 fun _ _ => rfl
  have e2 : u.calls.filter (nq allQ) = [] := List.filter_eq_nil_iff.2 fun c _ => by simp [nq, allQ]
  unfold alU PC.endW overC
  rw [if_neg (by decide), e1, e2, List.drop_length, List.take_length]
abbrev cvc (m : CvV) (u : PC) : List Value := [.int .u64 (u.now : Int), .int .i64 (u.last : Int), .slice m.a1 u.calls.length m.c1, .slice m.a2 m.R.length m.c2, .slice m.a3 u.out.length m.c3, .slice m.a4 u.bs.length m.c4, .int .i64 u.br, .bool u.closed]
structure AlW where
  k : Nat
  m : CvV
  N : Heap
end Go.Proofs.YtdelhikejgoffaaGreat
end
section
set_option linter.unusedVariables false
set_option maxRecDepth 20000
set_option maxHeartbeats 4000000
namespace Go.Proofs.YtdelhikejgoffaaGreat
theorem wall_ok {M : Heap} {m : CvV} {u : PC} (h : CvR M m u) (hJ : PCJ u) (hres : u.res.length ≤ 900000) : Spec Tryz.prog 66 [cvv m u] M (fun r H' => ∃ N m', CvR (N ++ M) m' (u.endW allQ 14 []) ∧ r = cvv m' (u.endW allQ 14 []) ∧ H' = N ++ M) := by
  have hJ1 := hJ.len
  refine Spec.of (E := [(0, cvv m u)]) Tryz.func66 rfl (by kernel_rfl) Tryz.ntmps66 rfl rfl (fun w => ?_)
  refine WC_seq ?_
  refine WC_region ?_
  refine WL_do rfl rfl rfl (D_box (cs := [_, _, _, _, _, _, _, _]) rfl rfl rfl) ?_
  rintro _ _ ⟨b1, rfl, rfl⟩
  refine WL_do rfl rfl rfl (D_alloc rfl zv54) ?_
  rintro _ _ ⟨b2, rfl, rfl⟩
  refine WL_nil ?_
  refine WQ_code ?_
  refine WC_seq ?_
  refine WC_block ?_
  refine WC_none 5 ?_
  refine WC_loopF (G := AlW) [3, 4, 5, 6, 7, 8, 9, 10, 11, 12, 13] (fun y => y.k ≤ u.calls.length ∧ CvR (y.N ++ M) y.m (alU u y.k) ∧ (⟨none, cl [] 5⟩ : Ent) ∈ y.N) (fun y => []) (fun y => [⟨some b1, cl (cvc y.m (alU u y.k)) 54⟩] ++ (y.N ++ M)) (fun y => u.calls.length - y.k) (⟨0, m, [⟨none, cl [] 5⟩]⟩) (⟨Nat.zero_le _, (h.up _).reb rfl (List.append_nil _) rfl rfl, List.mem_cons_self ..⟩) leZ (pqD) ?_
  rintro y ⟨hyk, hC, hdm⟩
  refine WC_seq ?_
  refine WC_seq ?_
  refine WC_region ?_
  refine WL_val rfl rfl rfl (R_fieldAddr rfl fa54_2 rfl) ?_
  refine WL_val rfl rfl rfl (R_load rfl sc52 rfl (mmD) rfl) ?_
  refine WL_val rfl rfl rfl (R_len rfl Tryz.underlying52 rfl) ?_
  refine WL_val rfl rfl rfl (R_gtr rfl rfl rfl) ?_
  refine WL_nil ?_
  refine WQ_code ?_
  refine WC_dec rfl (fun c1 => ?_) (fun c1 => ?_)
  · refine WC_skip ?_
    refine WQ_code ?_
    refine WC_block ?_
    refine WC_drawL 7 [] [] [(0, .q), (1, .q), (2, .q), (3, .q), (4, .q), (5, .q), (6, .n [])] followsMixed rfl (by kernel_rfl) rfl (by kernel_rfl) (pqD) .nil ?_
    obtain ⟨x, hx⟩ := getE (T := u.calls) (i := y.k) (by have e9 : (alU u y.k).calls.length = u.calls.length - y.k := List.length_drop; omega)
    have hx0 : (alU u y.k).calls[0]? = some x := by show (u.calls.drop y.k)[0]? = _; rw [drop_at hx]; rfl
    have hcl : 0 < (alU u y.k).calls.length := by omega
    have hcl2 : (alU u y.k).calls.length ≤ 32 := by show (u.calls.drop y.k).length ≤ 32; rw [List.length_drop]; omega
    have hrl := hC.rlen
    have hrl2 : (alU u y.k).res.length = u.res.length + y.k := by show (u.res ++ _).length = _; rw [List.length_append, List.length_map, List.length_take]; omega
    obtain ⟨ent, hm, hr9⟩ := hC.calls
    obtain ⟨rb, rk, rcs, re, rfr, hoa, rfl, hat⟩ := hr9 hcl
    have hC1 := hC.calls
    unfold cvc
    rw [hoa] at hC1 ⊢
    refine WX_val rfl rfl rfl rfl (R_loadA (vs := [_, _, _, _, _, _, _, _]) rfl ag54 rfl (mmD) rfl (atZ)) ?_
    refine WX_val rfl rfl rfl rfl (R_fieldAddr rfl fa54_2 rfl) ?_
    refine WX_val rfl rfl rfl rfl (R_load rfl sc52 rfl (mmD) rfl) ?_
    refine WX_val rfl rfl rfl rfl (R_indexAddr rfl Tryz.underlying52 Tryz.sizeOf98 rfl rfl (by omega)) ?_
    refine WX_val rfl rfl rfl rfl (R_fieldAddr rfl fa98_0 rfl) ?_
    refine WX_val rfl rfl rfl rfl (R_loadG (v := .int .i64 (x.id : Int)) rfl sc3 rfl (pulls_mem (pqD : Pulls (y.N ++ M) _ _) hm) (At.fm hat encC2 (i := 0) (x := x) hx0 0 _ rfl)) ?_
    refine WX_do rfl rfl rfl rfl .nil (fun _ => D_call (wend_ok hC1 (by omega) hC.res (by omega) _ _ _ _ _ _ _ _ _ _ _ (x.id : Int) 14 [] none 0) rfl rfl rfl rfl (pqD)) ?_
    rintro _ _ ⟨_, ⟨o1, k1, t1, o2, k2, t2, rfl, own1, own2, rfl⟩, rfl⟩
    refine ⟨⟨_, pqD⟩, .nil, ?_⟩
    refine WX_nil ?_
    refine WQ_last0 rfl rfl rfl (D_store (vs := [_, _, _, _, _, _, _, _]) rfl Tryz.sizeOf54 rfl rfl rfl rfl rfl (plD) (by exact Nat.le_of_ble_eq_true rfl)) ?_
    rintro _ _ rfl
    have hS2 := CvR.ended (e1 := 98) (e2 := 89) hC (x.id : Int) 14 (c := 0) (RdM.none none (List.mem_append_left _ hdm)) own1 own2
    rw [al_step hJ hx] at hS2
    rw [al_flt hJ hx] at hS2 ⊢
    refine WQ_nextF (gg := y) (⟨y.k + 1, { y.m with a1 := o1.map fun b => ⟨b, 0, none⟩, c1 := k1, a2 := o2.map fun b => ⟨b, 0, none⟩, c2 := k2, R := y.m.R ++ [(⟨(x.id : Int), 14, [], none, 0⟩ : Rx)] }, [⟨o1, cl ((alU u (y.k + 1)).calls.flatMap encC ++ t1) 98⟩, ⟨o2, cl ((y.m.R ++ [(⟨(x.id : Int), 14, [], none, 0⟩ : Rx)]).flatMap encX ++ t2) 89⟩] ++ y.N⟩) (⟨by have := (List.getElem?_eq_some_iff.1 hx).1; dsimp only; omega, by rw [List.append_assoc]; exact hS2, List.mem_append_right _ hdm⟩) (by have := (List.getElem?_eq_some_iff.1 hx).1; dsimp only; omega) leZ (psZ) rfl (pqD)
  · have hkl : y.k = u.calls.length := by have e9 : (alU u y.k).calls.length = u.calls.length - y.k := List.length_drop; omega
    have hE : alU u y.k = u.endW allQ 14 [] := by rw [hkl]; exact al_end u
    refine WC_exit ?_
    refine WQ_code ?_
    refine WC_seq ?_
    refine WC_region ?_
    refine WL_val rfl rfl rfl (R_loadA (vs := [_, _, _, _, _, _, _, _]) rfl ag54 rfl (mmD) rfl (atZ)) ?_
    refine WL_do0 rfl rfl (D_store (vs := [_, _, _, _, _, _, _, _]) rfl Tryz.sizeOf54 rfl rfl rfl rfl rfl (plD) (by exact Nat.le_of_ble_eq_true rfl)) ?_
    rintro _ _ rfl
    refine WL_nil ?_
    refine WQ_code ?_
    refine WC_ret ?_
    refine WQ_ret rfl rfl (.cons (.cell (vs := [_, _, _, _, _, _, _, _]) rfl ag54 (mmD) rfl (atZ)) .nil) rfl (by
        rw [← hE]
        exact ⟨y.N, y.m, hC, rfl, rfl⟩) (pqD)
theorem wclo_ok {M : Heap} {m : CvV} {u : PC} (h : CvR M m u) (hJ : PCJ u) (hres : u.res.length ≤ 900000) : Spec Tryz.prog 34 [cvv m u] M (RcP M u.close) := by
  refine Spec.of (E := [(0, cvv m u)]) Tryz.func34 rfl (by kernel_rfl) Tryz.ntmps34 rfl rfl (fun w => ?_)
  refine WC_seq ?_
  refine WC_region ?_
  refine WL_do rfl rfl rfl (D_box (cs := [_, _, _, _, _, _, _, _]) rfl rfl rfl) ?_
  rintro _ _ ⟨b1, rfl, rfl⟩
  refine WL_do rfl rfl rfl (D_alloc rfl zv54) ?_
  rintro _ _ ⟨b2, rfl, rfl⟩
  refine WL_val rfl rfl rfl (R_assign rfl rfl) ?_
  refine WL_nil ?_
  refine WQ_code ?_
  refine WC_seq ?_
  refine WC_seq ?_
  refine WC_region ?_
  refine WL_val rfl rfl rfl (R_fieldAddr rfl fa54_7 rfl) ?_
  refine WL_val rfl rfl rfl (R_load rfl sc4 rfl (mmD) rfl) ?_
  refine WL_val rfl rfl rfl (R_move rfl rfl) ?_
  refine WL_split (s := 6) rfl (fun c1 => ?_) (fun c1 => ?_)
  · have hcl : u.closed = true := c1
    refine WL_skip rfl rfl rfl ?_
    refine WL_skip rfl rfl rfl ?_
    refine WL_skip rfl rfl rfl ?_
    refine WL_val rfl rfl rfl (R_pickT rfl rfl rfl) ?_
    refine WL_nil ?_
    refine WQ_code ?_
    refine WC_T rfl ?_
    refine WC_seq ?_
    refine WC_region ?_
    refine WL_val rfl rfl rfl (R_loadA (vs := [_, _, _, _, _, _, _, _]) rfl ag54 rfl (mmD) rfl (atZ)) ?_
    refine WL_do0 rfl rfl (D_store (vs := [_, _, _, _, _, _, _, _]) rfl Tryz.sizeOf54 rfl rfl rfl rfl rfl (plD) (by exact Nat.le_of_ble_eq_true rfl)) ?_
    rintro _ _ rfl
    refine WL_val rfl rfl rfl (R_assign rfl rfl) ?_
    refine WL_nil ?_
    refine WQ_code ?_
    refine WC_ret ?_
    refine WQ_ret rfl rfl (.cons (.cell (vs := [_, _, _, _, _, _, _, _]) rfl ag54 (mmD) rfl (atZ)) (.cons (.tmp rfl) .nil)) rfl (by
        have hP : u.close = (u, 8) := by unfold PC.close; rw [if_pos (.inl hcl)]
        rw [hP]
        exact ⟨[], m, h, rfl, rfl⟩) (pqD)
  · have hcl : u.closed = false := c1
    refine WL_val rfl rfl rfl (R_fieldAddr rfl fa54_6 rfl) ?_
    refine WL_val rfl rfl rfl (R_load rfl sc3 rfl (mmD) rfl) ?_
    refine WL_val rfl rfl rfl (R_neq rfl rfl rfl) ?_
    refine WL_val rfl rfl rfl (R_pickF rfl rfl rfl) ?_
    refine WL_nil ?_
    refine WQ_code ?_
    refine WC_dec rfl (fun c2 => ?_) (fun c2 => ?_)
    · have hP : u.close = (u, 8) := by unfold PC.close; rw [if_pos (.inr c2)]
      refine WC_seq ?_
      refine WC_region ?_
      refine WL_val rfl rfl rfl (R_loadA (vs := [_, _, _, _, _, _, _, _]) rfl ag54 rfl (mmD) rfl (atZ)) ?_
      refine WL_do0 rfl rfl (D_store (vs := [_, _, _, _, _, _, _, _]) rfl Tryz.sizeOf54 rfl rfl rfl rfl rfl (plD) (by exact Nat.le_of_ble_eq_true rfl)) ?_
      rintro _ _ rfl
      refine WL_val rfl rfl rfl (R_assign rfl rfl) ?_
      refine WL_nil ?_
      refine WQ_code ?_
      refine WC_ret ?_
      refine WQ_ret rfl rfl (.cons (.cell (vs := [_, _, _, _, _, _, _, _]) rfl ag54 (mmD) rfl (atZ)) (.cons (.tmp rfl) .nil)) rfl (by
          rw [hP]
          exact ⟨[], m, h, rfl, rfl⟩) (pqD)
    · have hP : u.close = (({ u with closed := true } : PC).endW allQ 14 [], 0) := by unfold PC.close; rw [if_neg (fun e => e.elim (fun e => by rw [hcl] at e; cases e) (fun e => c2 e))]
      refine WC_skip ?_
      refine WQ_code ?_
      refine WC_seq ?_
      refine WC_region ?_
      refine WL_val rfl rfl rfl (R_fieldAddr rfl fa54_7 rfl) ?_
      refine WL_do0 rfl rfl (D_store (vs := [_]) rfl Tryz.sizeOf4 rfl rfl rfl rfl rfl (plD) (by exact Nat.le_of_ble_eq_true rfl)) ?_
      rintro _ _ rfl
      refine WL_nil ?_
      refine WQ_code ?_
      refine WC_seq ?_
      refine WC_region ?_
      refine WL_val rfl rfl rfl (R_loadA (vs := [_, _, _, _, _, _, _, _]) rfl ag54 rfl (mmD) rfl (atZ)) ?_
      refine WL_do rfl rfl rfl (D_call (wall_ok (u := { u with closed := true }) (m := m) (h.reb rfl rfl rfl rfl) (hJ.re rfl rfl) hres) rfl rfl rfl rfl (pqD)) ?_
      rintro _ _ ⟨_, ⟨N, m2, hS2, rfl, rfl⟩, rfl⟩
      refine WL_do0 rfl rfl (D_store (vs := [_, _, _, _, _, _, _, _]) rfl Tryz.sizeOf54 rfl rfl rfl rfl rfl (plD) (by exact Nat.le_of_ble_eq_true rfl)) ?_
      rintro _ _ rfl
      refine WL_val rfl rfl rfl (R_assign rfl rfl) ?_
      refine WL_nil ?_
      refine WQ_code ?_
      refine WC_ret ?_
      refine WQ_ret rfl rfl (.cons (.cell (vs := [_, _, _, _, _, _, _, _]) rfl ag54 (mmD) rfl (atZ)) (.cons (.tmp rfl) .nil)) rfl (by
          rw [hP]
          exact ⟨N, m2, hS2, rfl, rfl⟩) (pqD)
end Go.Proofs.YtdelhikejgoffaaGreat
end
section
set_option linter.unusedVariables false
set_option maxRecDepth 20000
set_option maxHeartbeats 1000000
namespace Go.Proofs.YtdelhikejgoffaaGreat
theorem endW_no {u : PC} {id : Int} (h : u.calls.any (isId id) = false) (code : Int) (body : Bs) : u.endW (isId id) code body = u := by
  have h1 : ∀ c ∈ u.calls, isId id c = false := fun c hc => by
    cases e : isId id c with
    | false => rfl
    | true => rw [List.any_eq_true.2 ⟨c, hc, e⟩] at h; cases h
  have e1 : u.calls.filter (isId id) = [] := List.filter_eq_nil_iff.2 fun c hc => by simp [h1 c hc]
  have e2 : u.calls.filter (nq (isId id)) = u.calls := List.filter_eq_self.2 fun c hc => by simp [nq, h1 c hc]
  unfold PC.endW overC
  rw [e1, e2]
  split <;> simp [srtC]
theorem k17 {k : UInt8} : k = 17 ↔ k.toNat = 17 := u8_num (n := 17) (by decide)
end Go.Proofs.YtdelhikejgoffaaGreat
end
section
set_option linter.unusedVariables false
set_option maxRecDepth 20000
set_option maxHeartbeats 4000000
namespace Go.Proofs.YtdelhikejgoffaaGreat
theorem wrpl_ok {M : Heap} {m : CvV} {u : PC} (h : CvR M m u) (hJ : PCJ u) (k : UInt8) {body : Bs} {oa : Option Addr} {c : Nat} (hr : RdM encY M oa body) (hc : body.length ≤ c) (hl : body.length ≤ 1024) (hres : u.res.length ≤ 900000) : Spec Tryz.prog 65 [cvv m u, .agg #[.int .u8 (k.toNat : Int), .slice oa body.length c]] M (RcP M (u.step k body)) := by
  have hJ1 := hJ.len
  have hJ3 := hJ.last
  have hrl := h.rlen
  have hv4 := val4_lt body
  refine Spec.of (E := [(0, cvv m u), (1, .agg #[.int .u8 (k.toNat : Int), .slice oa body.length c])]) Tryz.func65 rfl (by kernel_rfl) Tryz.ntmps65 rfl rfl (fun w => ?_)
  refine WC_seq ?_
  refine WC_region ?_
  refine WL_do rfl rfl rfl (D_box (cs := [_, _, _, _, _, _, _, _]) rfl rfl rfl) ?_
  rintro _ _ ⟨b1, rfl, rfl⟩
  refine WL_do rfl rfl rfl (D_box (cs := [_, _]) rfl rfl rfl) ?_
  rintro _ _ ⟨b2, rfl, rfl⟩
  refine WL_do rfl rfl rfl (D_alloc rfl zv54) ?_
  rintro _ _ ⟨b3, rfl, rfl⟩
  refine WL_val rfl rfl rfl (R_assign rfl rfl) ?_
  refine WL_nil ?_
  refine WQ_code ?_
  refine WC_seq ?_
  refine WC_seq ?_
  refine WC_region ?_
  refine WL_val rfl rfl rfl (R_fieldAddr rfl fa112_0 rfl) ?_
  refine WL_val rfl rfl rfl (R_load rfl sc5 rfl (mmD) rfl) ?_
  refine WL_val rfl rfl rfl (R_neq rfl rfl rfl) ?_
  refine WL_val rfl rfl rfl (R_move rfl rfl) ?_
  refine WL_splitD (s := 10) rfl (fun c1 => ?_) (fun c1 => ?_)
  · have hk : ¬ k.toNat = 17 := by have := c1; omega
    refine WL_skip rfl rfl rfl ?_
    refine WL_skip rfl rfl rfl ?_
    refine WL_skip rfl rfl rfl ?_
    refine WL_skip rfl rfl rfl ?_
    refine WL_val rfl rfl rfl (R_pickT rfl rfl rfl) ?_
    refine WL_nil ?_
    refine WQ_code ?_
    refine WC_T rfl ?_
    refine WC_seq ?_
    refine WC_region ?_
    refine WL_val rfl rfl rfl (R_loadA (vs := [_, _, _, _, _, _, _, _]) rfl ag54 rfl (mmD) rfl (atZ)) ?_
    refine WL_do0 rfl rfl (D_store (vs := [_, _, _, _, _, _, _, _]) rfl Tryz.sizeOf54 rfl rfl rfl rfl rfl (plD) (by exact Nat.le_of_ble_eq_true rfl)) ?_
    rintro _ _ rfl
    refine WL_val rfl rfl rfl (R_assign rfl rfl) ?_
    refine WL_nil ?_
    refine WQ_code ?_
    refine WC_ret ?_
    refine WQ_ret rfl rfl (.cons (.cell (vs := [_, _, _, _, _, _, _, _]) rfl ag54 (mmD) rfl (atZ)) (.cons (.tmp rfl) .nil)) rfl (by
        have hP : u.step k body = (u, 6) := by unfold PC.step; rw [if_pos (by rw [k17]; omega)]
        rw [hP]
        exact ⟨[], m, h, rfl, rfl⟩) (pqD)
  · have hk : k.toNat = 17 := by have := c1; omega
    refine WL_val rfl rfl rfl (R_fieldAddr rfl fa112_1 rfl) ?_
    refine WL_val rfl rfl rfl (R_load rfl sc26 rfl (mmD) rfl) ?_
    refine WL_val rfl rfl rfl (R_len rfl Tryz.underlying26 rfl) ?_
    refine WL_val rfl rfl rfl (R_lss rfl rfl rfl) ?_
    refine WL_val rfl rfl rfl (R_pickF rfl rfl rfl) ?_
    refine WL_nil ?_
    refine WQ_code ?_
    refine WC_dec rfl (fun c2 => ?_) (fun c2 => ?_)
    · have hP : u.step k body = (u, 6) := by unfold PC.step; rw [if_pos (by rw [k17]; omega)]
      refine WC_seq ?_
      refine WC_region ?_
      refine WL_val rfl rfl rfl (R_loadA (vs := [_, _, _, _, _, _, _, _]) rfl ag54 rfl (mmD) rfl (atZ)) ?_
      refine WL_do0 rfl rfl (D_store (vs := [_, _, _, _, _, _, _, _]) rfl Tryz.sizeOf54 rfl rfl rfl rfl rfl (plD) (by exact Nat.le_of_ble_eq_true rfl)) ?_
      rintro _ _ rfl
      refine WL_val rfl rfl rfl (R_assign rfl rfl) ?_
      refine WL_nil ?_
      refine WQ_code ?_
      refine WC_ret ?_
      refine WQ_ret rfl rfl (.cons (.cell (vs := [_, _, _, _, _, _, _, _]) rfl ag54 (mmD) rfl (atZ)) (.cons (.tmp rfl) .nil)) rfl (by
          rw [hP]
          exact ⟨[], m, h, rfl, rfl⟩) (pqD)
    · have h6 : ¬ ¬ (k = 17 ∧ 6 ≤ body.length) := fun e => e ⟨k17.2 hk, by omega⟩
      refine WC_skip ?_
      refine WQ_code ?_
      refine WC_seq ?_
      refine WC_region ?_
      refine WL_val rfl rfl rfl (R_fieldAddr rfl fa112_1 rfl) ?_
      refine WL_val rfl rfl rfl (R_load rfl sc26 rfl (mmD) rfl) ?_
      refine WL_val rfl rfl rfl (R_sliceTo (m := 4) rfl Tryz.underlying26 Tryz.sizeOf5 rfl rfl (by omega)) ?_
      refine WL_set (s := 19) (v := .slice oa (body.take 4).length c) rfl (by rw [show (body.take 4).length = 4 from by simp; omega]) ?_
      refine WL_do rfl rfl rfl (D_call (wval_s (hr.take 4) (by simp; omega)) rfl rfl rfl rfl (pqD)) ?_
      rintro _ _ ⟨_, ⟨rfl, rfl⟩, rfl⟩
      refine WL_val rfl rfl rfl (R_conv (r := (valB (body.take 4) : Int)) rfl Tryz.underlying40 Tryz.underlying3 rfl (by rw [wrap64_in (by omega) (by omega)])) ?_
      refine WL_val rfl rfl rfl (R_assign rfl rfl) ?_
      refine WL_nil ?_
      refine WQ_code ?_
      refine WC_seq ?_
      refine WC_seq ?_
      refine WC_region ?_
      refine WL_val rfl rfl rfl (R_move rfl rfl) ?_
      refine WL_val rfl rfl rfl (R_lss rfl rfl rfl) ?_
      refine WL_val rfl rfl rfl (R_move rfl rfl) ?_
      refine WL_splitD (s := 24) rfl (fun c3 => ?_) (fun c3 => ?_)
      · have hq0 := c3
        refine WL_skip rfl rfl rfl ?_
        refine WL_skip rfl rfl rfl ?_
        refine WL_skip rfl rfl rfl ?_
        refine WL_skip rfl rfl rfl ?_
        refine WL_val rfl rfl rfl (R_pickT rfl rfl rfl) ?_
        refine WL_nil ?_
        refine WQ_code ?_
        refine WC_T rfl ?_
        refine WC_seq ?_
        refine WC_region ?_
        refine WL_val rfl rfl rfl (R_loadA (vs := [_, _, _, _, _, _, _, _]) rfl ag54 rfl (mmD) rfl (atZ)) ?_
        refine WL_do0 rfl rfl (D_store (vs := [_, _, _, _, _, _, _, _]) rfl Tryz.sizeOf54 rfl rfl rfl rfl rfl (plD) (by exact Nat.le_of_ble_eq_true rfl)) ?_
        rintro _ _ rfl
        refine WL_val rfl rfl rfl (R_assign rfl rfl) ?_
        refine WL_nil ?_
        refine WQ_code ?_
        refine WC_ret ?_
        refine WQ_ret rfl rfl (.cons (.cell (vs := [_, _, _, _, _, _, _, _]) rfl ag54 (mmD) rfl (atZ)) (.cons (.tmp rfl) .nil)) rfl (by
            have hP : u.step k body = (u, 10) := by unfold PC.step; rw [if_neg h6, if_pos (by omega)]
            rw [hP]
            exact ⟨[], m, h, rfl, rfl⟩) (pqD)
      · have hq0 := c3
        refine WL_val rfl rfl rfl (R_move rfl rfl) ?_
        refine WL_val rfl rfl rfl (R_fieldAddr rfl fa54_1 rfl) ?_
        refine WL_val rfl rfl rfl (R_load rfl sc3 rfl (mmD) rfl) ?_
        refine WL_val rfl rfl rfl (R_gtr rfl rfl rfl) ?_
        refine WL_val rfl rfl rfl (R_pickF rfl rfl rfl) ?_
        refine WL_nil ?_
        refine WQ_code ?_
        refine WC_dec rfl (fun c4 => ?_) (fun c4 => ?_)
        · have hP : u.step k body = (u, 10) := by unfold PC.step; rw [if_neg h6, if_pos (by omega)]
          refine WC_seq ?_
          refine WC_region ?_
          refine WL_val rfl rfl rfl (R_loadA (vs := [_, _, _, _, _, _, _, _]) rfl ag54 rfl (mmD) rfl (atZ)) ?_
          refine WL_do0 rfl rfl (D_store (vs := [_, _, _, _, _, _, _, _]) rfl Tryz.sizeOf54 rfl rfl rfl rfl rfl (plD) (by exact Nat.le_of_ble_eq_true rfl)) ?_
          rintro _ _ rfl
          refine WL_val rfl rfl rfl (R_assign rfl rfl) ?_
          refine WL_nil ?_
          refine WQ_code ?_
          refine WC_ret ?_
          refine WQ_ret rfl rfl (.cons (.cell (vs := [_, _, _, _, _, _, _, _]) rfl ag54 (mmD) rfl (atZ)) (.cons (.tmp rfl) .nil)) rfl (by
              rw [hP]
              exact ⟨[], m, h, rfl, rfl⟩) (pqD)
        · have hin : ¬ ¬ (0 < valB (body.take 4) ∧ valB (body.take 4) ≤ u.last) := fun e => e ⟨by omega, by omega⟩
          refine WC_skip ?_
          refine WQ_code ?_
          refine WC_seq ?_
          refine WC_seq ?_
          refine WC_region ?_
          refine WL_val rfl rfl rfl (R_loadA (vs := [_, _, _, _, _, _, _, _]) rfl ag54 rfl (mmD) rfl (atZ)) ?_
          refine WL_val rfl rfl rfl (R_move rfl rfl) ?_
          refine WL_do rfl rfl rfl (D_call (wiso_ok h.calls (by omega) _ _ _ _ _ _ _ _ _ _ _ _ _ _) rfl rfl rfl rfl (pqD)) ?_
          rintro _ _ ⟨_, ⟨rfl, rfl⟩, rfl⟩
          refine WL_nil ?_
          refine WQ_code ?_
          refine WC_if rfl (fun c5 => ?_) (fun c5 => ?_)
          · have hP : u.step k body = (u.end1 (valB (body.take 4) : Int) (valB ((body.drop 4).take 2) : Int) (body.drop 6), 0) := by unfold PC.step; rw [if_neg h6, if_neg hin, end1_eq hJ c5]
            refine WC_drawL 11 [] [] [(0, .q), (1, .q), (2, .q), (3, .q), (4, .q), (7, .q), (8, .q), (9, .q), (5, .n []), (6, .q), (10, .n [])] followsMixed rfl (by kernel_rfl) rfl (by kernel_rfl) (pqD) .nil ?_
            obtain ⟨ent, hm, hr9⟩ := hr.b
            obtain ⟨rb, rk, rcs, re, rfr, rfl, rfl, hat⟩ := hr9 (by omega)
            refine WX_val rfl rfl rfl rfl (R_loadA (vs := [_, _, _, _, _, _, _, _]) rfl ag54 rfl (mmD) rfl (atZ)) ?_
            refine WX_val rfl rfl rfl rfl (R_move rfl rfl) ?_
            refine WX_val rfl rfl rfl rfl (R_fieldAddr rfl fa112_1 rfl) ?_
            refine WX_val rfl rfl rfl rfl (R_load rfl sc26 rfl (mmD) rfl) ?_
            refine WX_val rfl rfl rfl rfl (R_sliceLH (m := 4) (h := 6) rfl Tryz.underlying26 Tryz.sizeOf5 rfl rfl rfl (by omega) (by omega)) ?_
            rw [if_neg (show ¬ c = 4 by omega), show 6 - 4 = ((body.drop 4).take 2).length from by simp; omega]
            refine WX_val rfl rfl rfl rfl (R_fieldAddr rfl fa112_1 rfl) ?_
            refine WX_val rfl rfl rfl rfl (R_load rfl sc26 rfl (mmD) rfl) ?_
            refine WX_val rfl rfl rfl rfl (R_sliceFromK (m := 6) rfl Tryz.underlying26 Tryz.sizeOf5 rfl rfl (by omega)) ?_
            rw [show body.length - 6 = (body.drop 6).length from by simp]
            refine WX_do rfl rfl rfl rfl .nil (fun _ => D_call (wval_s (RdM.of hm (rd_sub (i := 4) (n := 2) hat)) (by simp; omega)) rfl rfl rfl rfl (pqD)) ?_
            rintro _ _ ⟨_, ⟨rfl, rfl⟩, rfl⟩
            refine ⟨⟨_, pqD⟩, .nil, ?_⟩
            refine WX_val rfl rfl rfl rfl (R_conv (r := (valB ((body.drop 4).take 2) : Int)) rfl Tryz.underlying40 Tryz.underlying3 rfl (by have := val_le (l := (body.drop 4).take 2) (k := 2) (by simp; omega); rw [wrap64_in (by omega) (by omega)])) ?_
            refine WX_do rfl rfl rfl rfl .nil (fun _ => D_call (wend_ok h.calls (by omega) h.res (by omega) _ _ _ _ _ _ _ _ _ _ _ (valB (body.take 4) : Int) (valB ((body.drop 4).take 2) : Int) (body.drop 6) (some ⟨rb, if c = 6 then rk else rk + 6 * 1, none⟩) (c - 6)) rfl rfl rfl rfl (pqD)) ?_
            rintro _ _ ⟨_, ⟨o1, k1, t1, o2, k2, t2, rfl, own1, own2, rfl⟩, rfl⟩
            refine ⟨⟨_, pqD⟩, .nil, ?_⟩
            refine WX_nil ?_
            refine WQ_last0 rfl rfl rfl (D_store (vs := [_, _, _, _, _, _, _, _]) rfl Tryz.sizeOf54 rfl rfl rfl rfl rfl (plD) (by exact Nat.le_of_ble_eq_true rfl)) ?_
            rintro _ _ rfl
            refine WQ_code ?_
            refine WC_seq ?_
            refine WC_region ?_
            refine WL_val rfl rfl rfl (R_loadA (vs := [_, _, _, _, _, _, _, _]) rfl ag54 rfl (mmD) rfl (atZ)) ?_
            refine WL_do0 rfl rfl (D_store (vs := [_, _, _, _, _, _, _, _]) rfl Tryz.sizeOf54 rfl rfl rfl rfl rfl (plD) (by exact Nat.le_of_ble_eq_true rfl)) ?_
            rintro _ _ rfl
            refine WL_val rfl rfl rfl (R_assign rfl rfl) ?_
            refine WL_nil ?_
            refine WQ_code ?_
            refine WC_ret ?_
            refine WQ_ret rfl rfl (.cons (.cell (vs := [_, _, _, _, _, _, _, _]) rfl ag54 (mmD) rfl (atZ)) (.cons (.tmp rfl) .nil)) rfl (by
                rw [hP]
                exact ⟨_, _, CvR.ended (e1 := 98) (e2 := 89) h _ _ (hr.drop encY1 hc 6) own1 own2, rfl, rfl⟩) (pqD)
          · have hno : u.calls.any (isId (valB (body.take 4) : Int)) = false := by simpa using c5
            have hP : u.step k body = (u, 0) := by unfold PC.step; rw [if_neg h6, if_neg hin, endW_no hno]
            refine WC_skip ?_
            refine WQ_code ?_
            refine WC_seq ?_
            refine WC_region ?_
            refine WL_val rfl rfl rfl (R_loadA (vs := [_, _, _, _, _, _, _, _]) rfl ag54 rfl (mmD) rfl (atZ)) ?_
            refine WL_do0 rfl rfl (D_store (vs := [_, _, _, _, _, _, _, _]) rfl Tryz.sizeOf54 rfl rfl rfl rfl rfl (plD) (by exact Nat.le_of_ble_eq_true rfl)) ?_
            rintro _ _ rfl
            refine WL_val rfl rfl rfl (R_assign rfl rfl) ?_
            refine WL_nil ?_
            refine WQ_code ?_
            refine WC_ret ?_
            refine WQ_ret rfl rfl (.cons (.cell (vs := [_, _, _, _, _, _, _, _]) rfl ag54 (mmD) rfl (atZ)) (.cons (.tmp rfl) .nil)) rfl (by
                rw [hP]
                exact ⟨[], m, h, rfl, rfl⟩) (pqD)
end Go.Proofs.YtdelhikejgoffaaGreat
end
section
set_option linter.unusedVariables false
set_option maxRecDepth 20000
set_option maxHeartbeats 1000000
namespace Go.Proofs.YtdelhikejgoffaaGreat
theorem stepC_bs (u : PC) (k : UInt8) (body x : Bs) : ({ u with bs := x }).step k body = ({ (u.step k body).1 with bs := x }, (u.step k body).2) := by
  unfold PC.step
  repeat' split
  all_goals first | rfl | (rename_i h1 h2; rfl)
theorem stepC_br (u : PC) (k : UInt8) (body : Bs) : (u.step k body).1.br = u.br ∧ (u.step k body).1.bs = u.bs ∧ (u.step k body).1.closed = u.closed ∧ (u.step k body).1.out = u.out := by
  unfold PC.step
  repeat' split
  all_goals exact ⟨rfl, rfl, rfl, rfl⟩
theorem PCJ.endW {u : PC} (h : PCJ u) (q : Ca → Bool) (code : Int) (body : Bs) : PCJ (u.endW q code body) := ⟨Nat.le_trans (List.length_filter_le ..) h.len, h.inc.filter _, fun c hc => h.le c (List.mem_filter.1 hc).1, h.last⟩
theorem PCJ.step {u : PC} (h : PCJ u) (k : UInt8) (body : Bs) : PCJ (u.step k body).1 := by
  unfold PC.step
  repeat' split
  · exact h
  · exact h
  · exact h.endW ..
/-- How many results there may be: one for each call that is open. -/
theorem endW_sum (u : PC) (q : Ca → Bool) (code : Int) (body : Bs) : (u.endW q code body).calls.length + (u.endW q code body).res.length = u.calls.length + u.res.length := by
  show (u.calls.filter (nq q)).length + (u.res ++ (overC q code u.calls).map _).length = _
  rw [List.length_append, List.length_map, (overC_perm q code u.calls).length_eq]
  have h1 : ∀ l : List Ca, (l.filter (nq q)).length + (l.filter q).length = l.length := fun l => by
    induction l with
    | nil => rfl
    | cons c r ih => by_cases e : q c = true <;> simp [nq, e] at ih ⊢ <;> omega
  have := h1 u.calls
  omega
theorem step_sum (u : PC) (k : UInt8) (body : Bs) : (u.step k body).1.calls.length + (u.step k body).1.res.length = u.calls.length + u.res.length := by
  unfold PC.step
  repeat' split
  · rfl
  · rfl
  · exact endW_sum ..
theorem rcvC_got {u : PC} {n mm : Nat} {k : UInt8} {body : Bs} (hN : nxt u.bs = .got k body mm) : rcvN PC.step (n + 1) { u with bs := [] } u.bs =
    if (({ u with bs := u.bs.drop mm } : PC).step k body).2 = 0 then rcvN PC.step n { (({ u with bs := u.bs.drop mm } : PC).step k body).1 with bs := [] } (u.bs.drop mm)
    else ({ (({ u with bs := u.bs.drop mm } : PC).step k body).1 with bs := [] }, u.bs.drop mm, 0, (({ u with bs := u.bs.drop mm } : PC).step k body).2) := by
  have e2 := stepC_bs u k body []
  have e1 := stepC_bs u k body (u.bs.drop mm)
  rw [e1]
  by_cases h4 : body.length < 4
  · have h6 : u.step k body = (u, 6) := by unfold PC.step; rw [if_pos (by omega)]
    rw [rcv_short hN h4, h6]; rfl
  · by_cases h5 : (u.step k body).2 = 0
    · rw [rcv_ok hN (by omega) (by rw [e2]; exact h5), if_pos h5, e2]
    · rw [rcv_no hN (by omega) (by rw [e2]; exact h5), if_neg h5, e2]
def PC.fin (q : PC × Bs × Int × Int) : PC × Int := (if q.2.2.2 = 0 then ({ q.1 with bs := q.2.1, rb := q.2.2.1, br := q.2.2.2 } : PC) else ({ q.1 with bs := q.2.1, rb := q.2.2.1, br := q.2.2.2 } : PC).endW allQ 14 [], q.2.2.2)
theorem recvC_fin {u : PC} {b : Bs} (h1 : ¬ (u.closed = true ∨ u.br ≠ 0)) (h2 : u.bs.length + b.length ≤ 65536) : u.recv b = PC.fin (rcvN PC.step (u.bs.length + b.length + 1) { u with bs := [] } (u.bs ++ b)) := by
  unfold PC.recv PC.fin
  rw [if_neg h1, if_neg (by omega)]
structure CrW where
  u : PC
  n : Nat
  m : CvV
  N : Heap
end Go.Proofs.YtdelhikejgoffaaGreat
end
section
set_option linter.unusedVariables false
set_option maxRecDepth 20000
set_option maxHeartbeats 2000000
namespace Go.Proofs.YtdelhikejgoffaaGreat
def idsK (l : List Ca) : List Int := l.map fun c => (c.id : Int)
theorem idsK_next {l : List Ca} {k : Nat} {x : Ca} (h : l[k]? = some x) : idsK (l.take (k + 1)) = idsK (l.take k) ++ [(x.id : Int)] := by unfold idsK; rw [take_next h, List.map_append]; rfl
theorem wopn_ok {M : Heap} {calls : List Ca} {a1 : Option Addr} {c1 : Nat} (h1 : RdM encC M a1 calls) (hl : calls.length ≤ 1000000) (now last br : Int) (a2 a3 a4 : Option Addr) (n2 c2 n3 c3 n4 c4 : Nat) (cd : Bool) : Spec Tryz.prog 12 [.agg #[.int .u64 now, .int .i64 last, .slice a1 calls.length c1, .slice a2 n2 c2, .slice a3 n3 c3, .slice a4 n4 c4, .int .i64 br, .bool cd]] M (fun r H' => ∃ o c tl, r = slV o (idsK calls).length c ∧ Own o (idsK calls).length c 1 ((idsK calls).flatMap encI) tl ∧ H' = [⟨o, cl ((idsK calls).flatMap encI ++ tl) 3⟩] ++ M) := by
  refine Spec.of (E := [(0, .agg #[.int .u64 now, .int .i64 last, .slice a1 calls.length c1, .slice a2 n2 c2, .slice a3 n3 c3, .slice a4 n4 c4, .int .i64 br, .bool cd])]) Tryz.func12 rfl (by kernel_rfl) Tryz.ntmps12 rfl rfl (fun w => ?_)
  refine WC_seq ?_
  refine WC_region ?_
  refine WL_do rfl rfl rfl (D_box (cs := [_, _, _, _, _, _, _, _]) rfl rfl rfl) ?_
  rintro _ _ ⟨b1, rfl, rfl⟩
  refine WL_val rfl rfl rfl (R_assign rfl rfl) ?_
  refine WL_nil ?_
  refine WQ_code ?_
  refine WC_seq ?_
  refine WC_region ?_
  refine WL_val rfl rfl rfl (R_assign rfl rfl) ?_
  refine WL_nil ?_
  refine WQ_code ?_
  refine WC_seq ?_
  refine WC_seq ?_
  refine WC_region ?_
  refine WL_val rfl rfl rfl (R_assign rfl rfl) ?_
  refine WL_nil ?_
  refine WQ_code ?_
  refine WC_block ?_
  refine WC_none 3 ?_
  refine WC_loopF (G := WoW) [3, 4, 5, 6, 7, 8, 9, 10, 11, 12, 13, 14, 15, 16, 17, 18, 19, 20] (fun y => y.k ≤ calls.length ∧ y.l = idsK (calls.take y.k) ∧ y.l.length ≤ y.k ∧ Own y.o y.l.length y.c 1 (y.l.flatMap encI) y.tl) (fun y => [(4, .int .i64 (y.k : Int)), (3, slV y.o y.l.length y.c)]) (fun y => [⟨y.o, cl (y.l.flatMap encI ++ y.tl) 3⟩]) (fun y => calls.length - y.k) (⟨0, [], none, 0, []⟩) (⟨Nat.zero_le _, rfl, Nat.le_refl _, Own.empty 1⟩) leZ (pqD) ?_
  rintro y ⟨hk, hll0, hll, hO⟩
  refine WC_seq ?_
  refine WC_seq ?_
  refine WC_region ?_
  refine WL_val rfl rfl rfl (R_move rfl rfl) ?_
  refine WL_val rfl rfl rfl (R_fieldAddr rfl fa54_2 rfl) ?_
  refine WL_val rfl rfl rfl (R_load rfl sc52 rfl (mmD) rfl) ?_
  refine WL_val rfl rfl rfl (R_len rfl Tryz.underlying52 rfl) ?_
  refine WL_val rfl rfl rfl (R_lss rfl rfl rfl) ?_
  refine WL_nil ?_
  refine WQ_code ?_
  refine WC_dec rfl (fun c1 => ?_) (fun c1 => ?_)
  · refine WC_skip ?_
    refine WQ_code ?_
    refine WC_seq ?_
    refine WC_block ?_
    refine WC_region ?_
    refine WL_val rfl rfl rfl (R_move rfl rfl) ?_
    refine WL_val rfl rfl rfl (R_fieldAddr rfl fa54_2 rfl) ?_
    refine WL_val rfl rfl rfl (R_load rfl sc52 rfl (mmD) rfl) ?_
    refine WL_val rfl rfl rfl (R_move rfl rfl) ?_
    obtain ⟨x, hx⟩ := getE (T := calls) (i := y.k) (by omega)
    obtain ⟨ent, hm, hr9⟩ := h1
    obtain ⟨rb, rk, rcs, re, rfr, rfl, rfl, hat⟩ := hr9 (by omega)
    refine WL_val rfl rfl rfl (R_indexAddr rfl Tryz.underlying52 Tryz.sizeOf98 rfl rfl (by omega)) ?_
    refine WL_val rfl rfl rfl (R_fieldAddr rfl fa98_0 rfl) ?_
    refine WL_val rfl rfl rfl (R_loadG (v := .int .i64 (x.id : Int)) rfl sc3 rfl (pulls_mem (pqD : Pulls M _ _) hm) (At.fm hat encC2 hx 0 _ rfl)) ?_
    refine WL_do rfl rfl rfl (D_buildSlice rfl si32 rfl rfl rfl) ?_
    rintro _ _ ⟨b2, rfl, rfl⟩
    refine WL_do rfl rfl rfl (D_append rfl si32 rfl hO plD rfl mmD (atZ : At _ 0 [_]) rfl rfl (by omega) (by omega)) ?_
    rintro _ _ ⟨ob9, c9, tl9, rfl, own9, rfl⟩
    rw [show y.l.flatMap encI ++ [Value.int .i64 (x.id : Int)] = (y.l ++ [(x.id : Int)]).flatMap encI from by simp, show y.l.length + 1 = (y.l ++ [(x.id : Int)]).length from by simp] at own9
    rw [show y.l.flatMap encI ++ [Value.int .i64 (x.id : Int)] = (y.l ++ [(x.id : Int)]).flatMap encI from by simp]
    refine WL_set (s := 20) (v := slV ob9 (y.l ++ [(x.id : Int)]).length c9) rfl (by rw [List.length_append]; rfl) ?_
    refine WL_val rfl rfl rfl (R_assign rfl rfl) ?_
    refine WL_nil ?_
    refine WQ_code ?_
    refine WC_region ?_
    refine WL_val rfl rfl rfl (R_move rfl rfl) ?_
    refine WL_val rfl rfl rfl (R_add rfl rfl rfl (by omega)) ?_
    refine WL_val rfl rfl rfl (R_assign rfl rfl) ?_
    refine WL_nil ?_
    refine WQ_nextF (⟨y.k + 1, y.l ++ [(x.id : Int)], ob9, c9, tl9⟩) (⟨by dsimp only; omega, by dsimp only; rw [idsK_next hx, ← hll0], by dsimp only; rw [List.length_append]; simp; omega, own9⟩) (by dsimp only; omega) leZ (psZ) rfl (pqD)
  · have hkl : y.k = calls.length := by omega
    have hl9 : y.l = idsK calls := by rw [hll0, hkl, List.take_length]
    refine WC_exit ?_
    refine WQ_code ?_
    refine WC_seq ?_
    refine WC_region ?_
    refine WL_val rfl rfl rfl (R_move rfl rfl) ?_
    refine WL_val rfl rfl rfl (R_assign rfl rfl) ?_
    refine WL_nil ?_
    refine WQ_code ?_
    refine WC_ret ?_
    refine WQ_ret rfl rfl (.cons (.tmp rfl) .nil) rfl (by
        rw [← hl9]
        exact ⟨y.o, y.c, y.tl, rfl, hO, rfl⟩) (pqD)
end Go.Proofs.YtdelhikejgoffaaGreat
end
section
set_option linter.unusedVariables false
set_option maxRecDepth 20000
set_option maxHeartbeats 1000000
namespace Go.Proofs.YtdelhikejgoffaaGreat
/-- One call that is due ends by the reference's Advance. -/
def PC.adv1 (u : PC) (c : Ca) : PC := { u.end1 c.id 12 [] with out := u.out ++ encF 18 (bigB c.id 4) }
def PC.advs (u : PC) (q : Ca → Bool) : PC := { u.endW q 12 [] with out := u.out ++ cnlF (overC q 12 u.calls) }
/-- Among the first k calls the first of the smallest deadline that is due is the one at f (none where f is negative). -/
def FstAt (q : Ca → Bool) (l : List Ca) (k : Nat) (f : Int) : Prop := (f = -1 ∧ ∀ d ∈ l.take k, q d = false) ∨
  (∃ c, 0 ≤ f ∧ f.toNat < k ∧ l[f.toNat]? = some c ∧ q c = true ∧ (∀ d ∈ l.take f.toNat, q d = true → c.dl < d.dl) ∧ (∀ d ∈ l.take k, q d = true → c.dl ≤ d.dl))
theorem FstAt.zero (q : Ca → Bool) (l : List Ca) : FstAt q l 0 (-1) := .inl ⟨rfl, fun d hd => by cases hd⟩
theorem mem_tk {l : List Ca} {k : Nat} {x d : Ca} (hx : l[k]? = some x) (h : d ∈ l.take (k + 1)) : d ∈ l.take k ∨ d = x := by
  rw [take_next hx, List.mem_append, List.mem_singleton] at h; exact h
theorem FstAt.skip {q : Ca → Bool} {l : List Ca} {k : Nat} {f : Int} {x : Ca} (h : FstAt q l k f) (hx : l[k]? = some x) (hq : q x = false) : FstAt q l (k + 1) f := by
  rcases h with ⟨hf, h⟩ | ⟨c, h0, h1, h2, h3, h4, h5⟩
  · refine .inl ⟨hf, fun d hd => ?_⟩
    rcases mem_tk hx hd with hd | rfl
    · exact h d hd
    · exact hq
  · refine .inr ⟨c, h0, by omega, h2, h3, h4, fun d hd hqd => ?_⟩
    rcases mem_tk hx hd with hd | rfl
    · exact h5 d hd hqd
    · rw [hq] at hqd; cases hqd
theorem FstAt.first {q : Ca → Bool} {l : List Ca} {k : Nat} {f : Int} {x : Ca} (h : FstAt q l k f) (hf : f < 0) (hx : l[k]? = some x) (hq : q x = true) : FstAt q l (k + 1) (k : Int) := by
  rcases h with ⟨_, h⟩ | ⟨c, h0, _⟩
  · refine .inr ⟨x, by omega, by rw [Int.toNat_natCast]; omega, hx, hq, fun d hd hqd => ?_, fun d hd hqd => ?_⟩
    · rw [Int.toNat_natCast] at hd; rw [h d hd] at hqd; cases hqd
    · rcases mem_tk hx hd with hd | rfl
      · rw [h d hd] at hqd; cases hqd
      · exact Nat.le_refl _
  · omega
theorem FstAt.get {q : Ca → Bool} {l : List Ca} {k : Nat} {f : Int} (h : FstAt q l k f) (hf : ¬ f < 0) : ∃ c n, f = ((n : Nat) : Int) ∧ n < k ∧ l[n]? = some c ∧ q c = true ∧ (∀ d ∈ l.take n, q d = true → c.dl < d.dl) ∧ (∀ d ∈ l.take k, q d = true → c.dl ≤ d.dl) := by
  rcases h with ⟨h, _⟩ | ⟨c, h0, h1, h2, h3, h4, h5⟩
  · omega
  · exact ⟨c, f.toNat, by omega, h1, h2, h3, h4, h5⟩
theorem FstAt.less {q : Ca → Bool} {l : List Ca} {k : Nat} {x c : Ca} (hx : l[k]? = some x) (hq : q x = true) (hlt : x.dl < c.dl) (h5 : ∀ d ∈ l.take k, q d = true → c.dl ≤ d.dl) : FstAt q l (k + 1) (k : Int) := by
  refine .inr ⟨x, by omega, by rw [Int.toNat_natCast]; omega, hx, hq, fun d hd hqd => ?_, fun d hd hqd => ?_⟩
  · rw [Int.toNat_natCast] at hd; have := h5 d hd hqd; omega
  · rcases mem_tk hx hd with hd | rfl
    · have := h5 d hd hqd; omega
    · exact Nat.le_refl _
theorem FstAt.keep {q : Ca → Bool} {l : List Ca} {k n : Nat} {x c : Ca} (hx : l[k]? = some x) (hge : ¬ x.dl < c.dl) (hn : n < k) (hc : l[n]? = some c) (hqc : q c = true) (h4 : ∀ d ∈ l.take n, q d = true → c.dl < d.dl) (h5 : ∀ d ∈ l.take k, q d = true → c.dl ≤ d.dl) : FstAt q l (k + 1) (n : Int) := by
  refine .inr ⟨c, by omega, by rw [Int.toNat_natCast]; omega, by rw [Int.toNat_natCast]; exact hc, hqc, by rw [Int.toNat_natCast]; exact h4, fun d hd hqd => ?_⟩
  rcases mem_tk hx hd with hd | rfl
  · exact h5 d hd hqd
  · omega
theorem advs_none {q : Ca → Bool} {u : PC} {f : Int} (h : FstAt q u.calls u.calls.length f) (hf : f < 0) : u.advs q = u := by
  rcases h with ⟨_, h⟩ | ⟨c, h0, _⟩
  · rw [List.take_length] at h
    have e1 : u.calls.filter q = [] := List.filter_eq_nil_iff.2 fun c hc => by simp [h c hc]
    have e2 : u.calls.filter (nq q) = u.calls := List.filter_eq_self.2 fun c hc => by simp [nq, h c hc]
    unfold PC.advs PC.endW overC cnlF
    rw [e1, e2]
    simp [srtC]
  · omega
theorem split_at {l : List Ca} {n : Nat} {c : Ca} (h : l[n]? = some c) : l = l.take n ++ c :: l.drop (n + 1) := by
  rw [← drop_at h, List.take_append_drop]
theorem neC_at {l : List Ca} (hp : l.Pairwise fun a b => a.id < b.id) {n : Nat} {c : Ca} (hc : l[n]? = some c) : l.filter (neC c.id) = l.take n ++ l.drop (n + 1) ∧ (∀ b ∈ l.drop (n + 1), c.id < b.id) := by
  have e := split_at hc
  obtain ⟨hA, hB, hAB⟩ := List.pairwise_append.1 (e ▸ hp)
  have hB1 := (List.pairwise_cons.1 hB).1
  refine ⟨?_, hB1⟩
  conv => lhs; rw [e]
  rw [List.filter_append, List.filter_cons_of_neg (by simp [neC]), List.filter_eq_self.2 fun y hy => by have := hAB y hy c (List.mem_cons_self ..); simp [neC]; omega, List.filter_eq_self.2 fun y hy => by have := hB1 y hy; simp [neC]; omega]
theorem neC_len {l : List Ca} (hp : l.Pairwise fun a b => a.id < b.id) {n : Nat} {c : Ca} (hc : l[n]? = some c) : (l.filter (neC c.id)).length + 1 = l.length := by
  have := (List.getElem?_eq_some_iff.1 hc).1
  rw [(neC_at hp hc).1, List.length_append, List.length_take, List.length_drop]
  omega
theorem srt_first {q : Ca → Bool} {l : List Ca} (hp : l.Pairwise fun a b => a.id < b.id) {n : Nat} {c : Ca} (hc : l[n]? = some c) (hq : q c = true) (h4 : ∀ d ∈ l.take n, q d = true → c.dl < d.dl) (h5 : ∀ d ∈ l, q d = true → c.dl ≤ d.dl) :
    srtC (l.filter q) = c :: srtC ((l.filter (neC c.id)).filter q) := by
  have e := split_at hc
  obtain ⟨e2, hB1⟩ := neC_at hp hc
  refine srt_one ((srtC_perm _).trans (List.Perm.trans ?_ ((srtC_perm _).symm.cons c))) (srtC_pw _) (List.pairwise_cons.2 ⟨fun b hb => ?_, srtC_pw _⟩)
  · rw [e2]
    conv => lhs; rw [e]
    rw [List.filter_append, List.filter_append, List.filter_cons_of_pos hq]
    exact List.perm_middle
  · have hb2 := List.mem_filter.1 ((srtC_perm _).mem_iff.1 hb)
    have hbl := (List.mem_filter.1 hb2.1).1
    rw [e2] at hb2
    have h9 := h5 b hbl hb2.2
    unfold caLt
    rcases List.mem_append.1 hb2.1 with h | h
    · have := h4 b h hb2.2; omega
    · have := hB1 b h; omega
theorem advs_step {q : Ca → Bool} {u : PC} (hJ : PCJ u) {n : Nat} {c : Ca} (hc : u.calls[n]? = some c) (hq : q c = true) (h4 : ∀ d ∈ u.calls.take n, q d = true → c.dl < d.dl) (h5 : ∀ d ∈ u.calls.take u.calls.length, q d = true → c.dl ≤ d.dl) : (u.adv1 c).advs q = u.advs q := by
  rw [List.take_length] at h5
  have e := srt_first hJ.inc hc hq h4 h5
  have e2 : (u.calls.filter (neC c.id)).filter (nq q) = u.calls.filter (nq q) := by
    rw [List.filter_filter]
    refine List.filter_congr fun d hd => ?_
    by_cases hdc : (d.id : Int) = c.id
    · have hdd : d = c := by
        have h1 := flt_one hJ.inc d hd hdc
        have h2 := flt_one hJ.inc c (List.mem_of_getElem? hc) rfl
        rw [h1] at h2; exact (List.cons.inj h2).1
      simp [nq, hdd, hq]
    · simp [neC]; omega
  unfold PC.advs PC.adv1 PC.end1 PC.endW overC
  simp only [if_true, e, e2]
  simp [cnlF, List.append_assoc]
theorem PCJ.adv1 {u : PC} (h : PCJ u) (c : Ca) : PCJ (u.adv1 c) := (h.end1 c.id 12 []).re rfl rfl
theorem advance_do {u : PC} {now : Nat} (h : ¬ (now < u.now ∨ now = 18446744073709551615)) : u.advance now = (({ u with now := now } : PC).advs (passQ now), 0) := by
  unfold PC.advance
  rw [if_neg h]
  rfl
theorem passQ_one {now : Nat} (h : now ≠ 18446744073709551615) (c : Ca) : passQ now c = decide (c.dl ≤ now) := by
  unfold passQ passB
  simp [h]
structure AvW where
  u : PC
  m : CvV
  N : Heap
structure FsW where
  k : Nat
  f : Int
end Go.Proofs.YtdelhikejgoffaaGreat
end
section
set_option linter.unusedVariables false
set_option maxRecDepth 20000
set_option maxHeartbeats 1000000
namespace Go.Proofs.YtdelhikejgoffaaGreat
/-- What a call of the law does with a client. -/
def PC.actC (u : PC) (a : Ac) : PC :=
  if a.what = 0 then (u.call a.data a.t).1 else if a.what = 1 then (u.cancel a.id).1 else if a.what = 2 then (u.advance a.t).1 else if a.what = 3 then (u.recv a.data).1 else if a.what = 4 then u.close.1 else if a.what = 5 then u.next.1 else if a.what = 6 then (u.take a.n).1 else u
structure LcN (i : Nat) (u : PC) : Prop where
  J : PCJ u
  last : u.last ≤ i
  o : u.out.length ≤ 1100 * i
  s : u.calls.length + u.res.length ≤ i
  now : u.now ≤ 18446744073709551615
  dl : ∀ c ∈ u.calls, c.dl ≤ 18446744073709551615
  resb : ∀ r ∈ u.res, r.body.length ≤ 1024
structure LcI (i : Nat) (u : PC) : Prop where
  n : LcN i u
  b : u.bs.length ≤ 1100 * i
  rb : u.br = 0 → u.rb = 0
theorem LcN.re {i : Nat} {u u' : PC} (h : LcN i u) (h1 : u'.calls = u.calls) (h2 : u'.res = u.res) (h3 : u'.last = u.last) (h4 : u'.out = u.out) (h5 : u'.now = u.now) : LcN i u' := ⟨h.J.re h1 h3, h3 ▸ h.last, h4 ▸ h.o, by rw [h1, h2]; exact h.s, h5 ▸ h.now, h1 ▸ h.dl, h2 ▸ h.resb⟩
theorem LcN.up {i : Nat} {u : PC} (h : LcN i u) : LcN (i + 1) u := ⟨h.J, by have := h.last; omega, by have := h.o; omega, by have := h.s; omega, h.now, h.dl, h.resb⟩
theorem LcI.up {i : Nat} {u : PC} (h : LcI i u) : LcI (i + 1) u := ⟨h.n.up, by have := h.b; omega, h.rb⟩
theorem LcN.endW {i : Nat} {u : PC} (h : LcN i u) (q : Ca → Bool) (code : Int) {body : Bs} (hb : body.length ≤ 1024) : LcN i (u.endW q code body) := by
  refine ⟨h.J.endW q code body, h.last, h.o, by rw [endW_sum]; exact h.s, h.now, fun c hc => h.dl c (List.mem_filter.1 hc).1, fun r hr => ?_⟩
  rcases List.mem_append.1 hr with h1 | h1
  · exact h.resb r h1
  · obtain ⟨c, _, rfl⟩ := List.mem_map.1 h1
    exact hb
theorem LcN.step {i : Nat} {u : PC} (h : LcN i u) (k : UInt8) {body : Bs} (hb : body.length ≤ 1024) : LcN i (u.step k body).1 := by
  unfold PC.step
  repeat' split
  · exact h
  · exact h
  · exact h.endW _ _ (by rw [List.length_drop]; omega)
theorem LcN.rcv {i : Nat} : ∀ (n : Nat) (q : PC) (bs : Bs), LcN i q → LcN i (rcvN PC.step n q bs).1 ∧ (rcvN PC.step n q bs).2.1.length ≤ bs.length ∧ ((rcvN PC.step n q bs).2.2.2 = 0 → (rcvN PC.step n q bs).2.2.1 = 0)
  | 0, q, bs, h => ⟨h, Nat.le_refl _, fun _ => rfl⟩
  | n + 1, q, bs, h => by
    cases hN : nxt bs with
    | wait => rw [rcv_wait hN]; exact ⟨h, Nat.le_refl _, fun _ => rfl⟩
    | bad e => rw [rcv_bad hN]; exact ⟨h, Nat.le_refl _, fun e => e⟩
    | got k body m =>
      obtain ⟨h1, h2, h3⟩ := nxt_got hN
      have hd : (bs.drop m).length ≤ bs.length := by rw [List.length_drop]; omega
      by_cases h4 : body.length < 4
      · rw [rcv_short hN h4]; exact ⟨h, hd, fun _ => rfl⟩
      · by_cases h6 : (q.step k body).2 = 0
        · rw [rcv_ok hN (by omega) h6]
          obtain ⟨e1, e2, e3⟩ := LcN.rcv n _ (bs.drop m) (h.step k h3)
          exact ⟨e1, Nat.le_trans e2 hd, e3⟩
        · rw [rcv_no hN (by omega) h6]; exact ⟨h.step k h3, hd, fun _ => rfl⟩
theorem LcI.pcb {i : Nat} {u : PC} (h : LcI i u) (hi : i ≤ 41) : PCB u := by
  have h1 := h.n.o
  have h2 := h.b
  have h3 := h.n.s
  have h4 := h.n.last
  refine ⟨by omega, by omega, by omega, h.n.J.len, by omega, h.n.now, h.n.dl, fun c hc => ?_, h.rb⟩
  have := h.n.J.le c hc
  omega
theorem LcI.call {i : Nat} {u : PC} (h : LcI i u) (hi : i ≤ 41) (l : Bs) (dl : Nat) (hdl : dl ≤ 18446744073709551615) : LcI (i + 1) (u.call l dl).1 := by
  unfold PC.call
  (repeat' split) <;> try exact h.up
  rename_i h1 h2 h3 h4
  have hl := h.n.last
  refine ⟨⟨⟨?_, ?_, fun c hc => ?_, ?_⟩, ?_, ?_, ?_, h.n.now, fun c hc => ?_, h.n.resb⟩, by have := h.b; show u.bs.length ≤ _; omega, h.rb⟩
  · show (u.calls ++ _).length ≤ 32
    simp; omega
  · refine List.pairwise_append.2 ⟨h.n.J.inc, List.pairwise_singleton .., fun a ha b hb => ?_⟩
    have := h.n.J.le a ha
    rw [List.mem_singleton.1 hb]
    show a.id < u.last + 1
    omega
  · show c.id ≤ u.last + 1
    rcases List.mem_append.1 hc with h5 | h5
    · have := h.n.J.le c h5; omega
    · rw [List.mem_singleton.1 h5]; exact Nat.le_refl _
  · show u.last + 1 ≤ 1000000
    omega
  · show u.last + 1 ≤ i + 1
    omega
  · show (u.out ++ _).length ≤ _
    rw [List.length_append, encF_len, List.length_append, List.length_append, bigB_len, bigB_len]
    have := h.n.o
    omega
  · show (u.calls ++ _).length + u.res.length ≤ i + 1
    have := h.n.s
    simp; omega
  · rcases List.mem_append.1 hc with h5 | h5
    · exact h.n.dl c h5
    · rw [List.mem_singleton.1 h5]; exact hdl
theorem LcI.cnl {i : Nat} {u : PC} (h : LcI i u) (q : Ca → Bool) (code : Int) : LcI (i + 1) { u.endW q code [] with out := u.out ++ cnlF (overC q code u.calls) } := by
  have h1 := (h.n.endW q code (body := []) (by decide)).up
  refine ⟨⟨h1.J.re rfl rfl, h1.last, ?_, h1.s, h1.now, h1.dl, h1.resb⟩, h.up.b, h.rb⟩
  show (u.out ++ _).length ≤ _
  rw [List.length_append, cnlF_len]
  have h2 := overC_len q code u.calls
  have h3 := h.n.J.len
  have := h.n.o
  omega
theorem LcI.cancel {i : Nat} {u : PC} (h : LcI i u) (id : Int) : LcI (i + 1) (u.cancel id).1 := by
  unfold PC.cancel
  (repeat' split) <;> try exact h.up
  exact h.cnl _ _
theorem LcI.adv {i : Nat} {u : PC} (h : LcI i u) (now : Nat) (hn : now ≤ 18446744073709551615) : LcI (i + 1) (u.advance now).1 := by
  unfold PC.advance
  split
  · exact h.up
  · have h1 : LcI i { u with now := now } := ⟨⟨h.n.J.re rfl rfl, h.n.last, h.n.o, h.n.s, hn, h.n.dl, h.n.resb⟩, h.b, h.rb⟩
    exact h1.cnl _ _
theorem LcI.close {i : Nat} {u : PC} (h : LcI i u) : LcI (i + 1) u.close.1 := by
  unfold PC.close
  split
  · exact h.up
  · have h1 : LcN i { u with closed := true } := h.n.re rfl rfl rfl rfl rfl
    exact ⟨(h1.endW _ _ (by decide)).up, h.up.b, h.rb⟩
theorem LcI.recv {i : Nat} {u : PC} (h : LcI i u) {l : Bs} (hl : l.length ≤ 1100) : LcI (i + 1) (u.recv l).1 := by
  by_cases h1 : u.closed = true ∨ u.br ≠ 0
  · unfold PC.recv; rw [if_pos h1]; exact h.up
  · by_cases h2 : u.bs.length + l.length ≤ 65536
    · rw [recvC_fin h1 h2]
      obtain ⟨e1, e2, e3⟩ := LcN.rcv (u.bs.length + l.length + 1) { u with bs := [] } (u.bs ++ l) (h.n.up.re rfl rfl rfl rfl rfl)
      have hb := h.b
      rw [List.length_append] at e2
      generalize rcvN PC.step (u.bs.length + l.length + 1) { u with bs := [] } (u.bs ++ l) = R at *
      have e9 : LcN (i + 1) ({ R.1 with bs := R.2.1, rb := R.2.2.1, br := R.2.2.2 } : PC) := e1.re rfl rfl rfl rfl rfl
      unfold PC.fin
      split
      · exact ⟨e9, by dsimp only; omega, e3⟩
      · rename_i h9
        refine ⟨e9.endW allQ 14 (body := []) (by decide), ?_, fun e => absurd e h9⟩
        show R.2.1.length ≤ _
        omega
    · unfold PC.recv; rw [if_neg h1, if_pos (by omega)]; exact h.up
theorem LcI.nextX {i : Nat} {u : PC} (h : LcI i u) {r : Res} {l : List Res} (he : u.res = r :: l) : LcI i { u with res := l } := by
  refine ⟨⟨h.n.J.re rfl rfl, h.n.last, h.n.o, ?_, h.n.now, h.n.dl, fun r hr => h.n.resb r (by rw [he]; exact List.mem_cons_of_mem _ hr)⟩, h.b, h.rb⟩
  have := h.n.s
  rw [he, List.length_cons] at this
  show u.calls.length + l.length ≤ i
  omega
theorem LcI.next {i : Nat} {u : PC} (h : LcI i u) : LcI i u.next.1 := by
  unfold PC.next
  split
  · exact h
  · rename_i he
    exact h.nextX he
theorem LcI.actC {i : Nat} {u : PC} (h : LcI i u) (hi : i ≤ 41) {a : Ac} (hl : a.data.length ≤ 1100) (ht : a.t ≤ 18446744073709551615) : LcI (i + 1) (u.actC a) := by
  unfold PC.actC
  repeat' split
  · exact h.call hi _ _ ht
  · exact h.cancel _
  · exact h.adv _ ht
  · exact h.recv hl
  · exact h.close
  · exact h.next.up
  · unfold PC.take
    split
    · exact h.up
    · refine ⟨⟨h.n.J.re rfl rfl, h.up.n.last, ?_, h.up.n.s, h.n.now, h.n.dl, h.n.resb⟩, h.up.b, h.rb⟩
      have := h.up.n.o
      show (u.out.drop _).length ≤ _
      simp
      omega
  · exact h.up
end Go.Proofs.YtdelhikejgoffaaGreat
end
section
set_option linter.unusedVariables false
set_option maxRecDepth 20000
set_option maxHeartbeats 1000000
namespace Go.Proofs.YtdelhikejgoffaaGreat
theorem CvR.next {M : Heap} {m : CvV} {u : PC} (h : CvR M m u) {w : Rx} {rest : List Rx} (hq : m.R = w :: rest) : u.res = w.v :: rest.map Rx.v ∧ CvR M { m with a2 := dropA m.a2 m.c2 1 3, c2 := m.c2 - 1, R := m.R.drop 1 } { u with res := rest.map Rx.v } := by
  refine ⟨by rw [← h.rv, hq]; rfl, ⟨h.calls, h.res.dropG encX3 h.rc 1, by rw [hq]; rfl, fun r hr => h.rb r (List.mem_of_mem_drop hr), h.out, h.bs, ?_, h.oc, h.bc⟩⟩
  have := h.rc
  show (m.R.drop 1).length ≤ m.c2 - 1
  rw [List.length_drop]; omega
theorem ends_self {u : PC} {w : Rx} {l : List Res} (h : u.res = w.v :: l) : u.ends w.id w.code (byt ⟨w.body.toArray⟩) = true := by
  unfold PC.ends; rw [h, byt_mk]; simp [Rx.v]
end Go.Proofs.YtdelhikejgoffaaGreat
end
section
set_option linter.unusedVariables false
set_option maxRecDepth 20000
set_option maxHeartbeats 4000000
namespace Go.Proofs.YtdelhikejgoffaaGreat
theorem wadv_ok {M : Heap} {m : CvV} {u : PC} (h : CvR M m u) (hJ : PCJ u) (now : Nat) (hn : now ≤ 18446744073709551615) (hu : u.now ≤ 18446744073709551615) (hdl : ∀ c ∈ u.calls, c.dl ≤ 18446744073709551615) (hout : u.out.length ≤ 800000) (hsum : u.calls.length + u.res.length ≤ 100000) :
    Spec Tryz.prog 31 [cvv m u, .int .u64 (now : Int)] M (RcP M (u.advance now)) := by
  obtain ⟨R, hRd⟩ : ∃ R, R = (({ u with now := now } : PC).advs (passQ now)) := ⟨_, rfl⟩
  refine Spec.of (E := [(0, cvv m u), (1, .int .u64 (now : Int))]) Tryz.func31 rfl (by kernel_rfl) Tryz.ntmps31 rfl rfl (fun w => ?_)
  refine WC_seq ?_
  refine WC_region ?_
  refine WL_do rfl rfl rfl (D_box (cs := [_, _, _, _, _, _, _, _]) rfl rfl rfl) ?_
  rintro _ _ ⟨b1, rfl, rfl⟩
  refine WL_do rfl rfl rfl (D_alloc rfl zv54) ?_
  rintro _ _ ⟨b2, rfl, rfl⟩
  refine WL_val rfl rfl rfl (R_assign rfl rfl) ?_
  refine WL_nil ?_
  refine WQ_code ?_
  refine WC_seq ?_
  refine WC_seq ?_
  refine WC_region ?_
  refine WL_val rfl rfl rfl (R_move rfl rfl) ?_
  refine WL_val rfl rfl rfl (R_fieldAddr rfl fa54_0 rfl) ?_
  refine WL_val rfl rfl rfl (R_load rfl sc41 rfl (mmD) rfl) ?_
  refine WL_val rfl rfl rfl (R_lss rfl rfl rfl) ?_
  refine WL_val rfl rfl rfl (R_move rfl rfl) ?_
  refine WL_splitD (s := 13) rfl (fun c1 => ?_) (fun c1 => ?_)
  · have hP : u.advance now = (u, 3) := by have := c1; unfold PC.advance; rw [if_pos (.inl (by omega))]
    refine WL_skip rfl rfl rfl ?_
    refine WL_skip rfl rfl rfl ?_
    refine WL_val rfl rfl rfl (R_pickT rfl rfl rfl) ?_
    refine WL_nil ?_
    refine WQ_code ?_
    refine WC_T rfl ?_
    refine WC_seq ?_
    refine WC_region ?_
    refine WL_val rfl rfl rfl (R_loadA (vs := [_, _, _, _, _, _, _, _]) rfl ag54 rfl (mmD) rfl (atZ)) ?_
    refine WL_do0 rfl rfl (D_store (vs := [_, _, _, _, _, _, _, _]) rfl Tryz.sizeOf54 rfl rfl rfl rfl rfl (plD) (by exact Nat.le_of_ble_eq_true rfl)) ?_
    rintro _ _ rfl
    refine WL_val rfl rfl rfl (R_assign rfl rfl) ?_
    refine WL_nil ?_
    refine WQ_code ?_
    refine WC_ret ?_
    refine WQ_ret rfl rfl (.cons (.cell (vs := [_, _, _, _, _, _, _, _]) rfl ag54 (mmD) rfl (atZ)) (.cons (.tmp rfl) .nil)) rfl (by
        rw [hP]
        exact ⟨[], m, h, rfl, rfl⟩) (pqD)
  · have hlt := c1
    refine WL_val rfl rfl rfl (R_move rfl rfl) ?_
    refine WL_val rfl rfl rfl (R_eql rfl rfl rfl) ?_
    refine WL_val rfl rfl rfl (R_pickF rfl rfl rfl) ?_
    refine WL_nil ?_
    refine WQ_code ?_
    refine WC_dec rfl (fun c2 => ?_) (fun c2 => ?_)
    · have hP : u.advance now = (u, 3) := by have := c2; unfold PC.advance; rw [if_pos (.inr (by omega))]
      refine WC_seq ?_
      refine WC_region ?_
      refine WL_val rfl rfl rfl (R_loadA (vs := [_, _, _, _, _, _, _, _]) rfl ag54 rfl (mmD) rfl (atZ)) ?_
      refine WL_do0 rfl rfl (D_store (vs := [_, _, _, _, _, _, _, _]) rfl Tryz.sizeOf54 rfl rfl rfl rfl rfl (plD) (by exact Nat.le_of_ble_eq_true rfl)) ?_
      rintro _ _ rfl
      refine WL_val rfl rfl rfl (R_assign rfl rfl) ?_
      refine WL_nil ?_
      refine WQ_code ?_
      refine WC_ret ?_
      refine WQ_ret rfl rfl (.cons (.cell (vs := [_, _, _, _, _, _, _, _]) rfl ag54 (mmD) rfl (atZ)) (.cons (.tmp rfl) .nil)) rfl (by
          rw [hP]
          exact ⟨[], m, h, rfl, rfl⟩) (pqD)
    · have hnn : now ≠ 18446744073709551615 := by have := c2; omega
      have hP : u.advance now = (R, 0) := by rw [hRd]; exact advance_do (by omega)
      refine WC_skip ?_
      refine WQ_code ?_
      refine WC_seq ?_
      refine WC_region ?_
      refine WL_val rfl rfl rfl (R_move rfl rfl) ?_
      refine WL_val rfl rfl rfl (R_fieldAddr rfl fa54_0 rfl) ?_
      refine WL_do0 rfl rfl (D_store (vs := [_]) rfl Tryz.sizeOf41 rfl rfl rfl rfl rfl (plD) (by exact Nat.le_of_ble_eq_true rfl)) ?_
      rintro _ _ rfl
      refine WL_nil ?_
      refine WQ_code ?_
      refine WC_block ?_
      refine WC_none 5 ?_
      refine WC_loopF (G := AvW) [5, 6, 7, 8, 20, 21, 22, 23, 24, 25, 26, 27, 28, 29, 30, 31, 32, 33, 34, 35, 36, 37, 38, 39, 40, 41, 42, 43, 44, 45, 46, 47, 48, 49, 50, 51, 52, 53, 54, 55, 56, 57, 58, 59, 60, 61, 62, 63, 64, 65, 66, 67, 68, 69, 70, 71, 72, 73, 74, 75, 76, 77, 78, 79, 80, 81, 82] (fun y => CvR (y.N ++ M) y.m y.u ∧ PCJ y.u ∧ y.u.advs (passQ now) = R ∧ (⟨none, cl [] 5⟩ : Ent) ∈ y.N ∧ y.u.out.length + 10 * y.u.calls.length ≤ 900000 ∧ y.u.calls.length + y.u.res.length ≤ 100000) (fun y => []) (fun y => [⟨some b1, cl (cvc y.m y.u) 54⟩] ++ (y.N ++ M)) (fun y => y.u.calls.length) (⟨{ u with now := now }, m, [⟨none, cl [] 5⟩]⟩) (⟨(h.up _).reb rfl rfl rfl rfl, hJ.re rfl rfl, hRd.symm, List.mem_cons_self .., by have := hJ.len; dsimp only; omega, hsum⟩) leZ (pqD) ?_
      rintro y ⟨hC, hJy, hR, hdm, hob, hsb⟩
      refine WC_block ?_
      refine WC_seq ?_
      refine WC_region ?_
      refine WL_val rfl rfl rfl (R_assign rfl rfl) ?_
      refine WL_nil ?_
      refine WQ_code ?_
      refine WC_seq ?_
      refine WC_seq ?_
      refine WC_region ?_
      refine WL_val rfl rfl rfl (R_assign rfl rfl) ?_
      refine WL_nil ?_
      refine WQ_code ?_
      refine WC_block ?_
      refine WC_loopF (G := FsW) [6, 7, 20, 21, 22, 23, 24, 25, 26, 27, 28, 29, 30, 31, 32, 33, 34, 35, 36, 37, 38, 39, 40, 41, 42, 43, 44, 45, 46, 47, 48, 49, 50, 51, 52, 53, 54, 55, 56, 57, 58, 59, 60, 61, 62, 63] (fun z => z.k ≤ y.u.calls.length ∧ FstAt (passQ now) y.u.calls z.k z.f) (fun z => [(7, .int .i64 (z.k : Int)), (6, .int .i64 z.f)]) (fun z => []) (fun z => y.u.calls.length - z.k) (⟨0, -1⟩) (⟨Nat.zero_le _, FstAt.zero _ _⟩) leZ (pqD) ?_
      rintro z ⟨hzl, hF⟩
      refine WC_seq ?_
      refine WC_seq ?_
      refine WC_region ?_
      refine WL_val rfl rfl rfl (R_move rfl rfl) ?_
      refine WL_val rfl rfl rfl (R_fieldAddr rfl fa54_2 rfl) ?_
      refine WL_val rfl rfl rfl (R_load rfl sc52 rfl (mmD) rfl) ?_
      refine WL_val rfl rfl rfl (R_len rfl Tryz.underlying52 rfl) ?_
      refine WL_val rfl rfl rfl (R_lss rfl rfl rfl) ?_
      refine WL_nil ?_
      refine WQ_code ?_
      refine WC_dec rfl (fun c3 => ?_) (fun c3 => ?_)
      · refine WC_skip ?_
        refine WQ_code ?_
        refine WC_seq ?_
        refine WC_block ?_
        refine WC_seq ?_
        refine WC_draw _ [(0, true), (1, true), (2, true), (3, true), (4, true), (5, true), (6, true), (7, true), (8, true), (9, true), (10, true), (11, true), (12, true), (13, true), (14, true), (15, true), (16, true), (17, true), (18, true), (19, true), (20, true), (21, true), (22, true), (23, true), (24, true), (25, true), (26, true), (27, true), (28, true), (29, true), (30, true), (31, true), (32, true), (33, true), (34, true), (35, true)] followsMixed rfl rfl (by kernel_rfl) .all ?_
        obtain ⟨x, hx⟩ := getE (T := y.u.calls) (i := z.k) (by omega)
        obtain ⟨ent, hm, hr9⟩ := hC.calls
        obtain ⟨rb, rk, rcs, re, rfr, hoa, rfl, hat⟩ := hr9 (by omega)
        refine WM_val rfl rfl rfl rfl (R_fieldAddr rfl fa54_2 rfl) ?_
        refine WM_val rfl rfl rfl rfl (R_load rfl sc52 rfl (mmD) rfl) ?_
        refine WM_set (s := 28) (v := .slice (some ⟨rb, rk, none⟩) y.u.calls.length y.m.c1) rfl (by rw [hoa]) ?_
        refine WM_val rfl rfl rfl rfl (R_move rfl rfl) ?_
        refine WM_val rfl rfl rfl rfl (R_indexAddr rfl Tryz.underlying52 Tryz.sizeOf98 rfl rfl (by omega)) ?_
        refine WM_val rfl rfl rfl rfl (R_fieldAddr rfl fa98_1 rfl) ?_
        refine WM_val rfl rfl rfl rfl (R_loadG (v := .int .u64 (x.dl : Int)) rfl sc41 rfl (pulls_mem (pqD : Pulls (y.N ++ M) _ _) hm) (At.fm hat encC2 hx 1 _ rfl)) ?_
        refine WM_val rfl rfl rfl rfl (R_neq rfl rfl rfl) ?_
        refine WM_val rfl rfl rfl rfl (R_move rfl rfl) ?_
        refine WM_splitD (s := 34) rfl (fun c4 => ?_) (fun c4 => ?_)
        · have hnv := c4
          refine WM_val rfl rfl rfl rfl (R_fieldAddr rfl fa54_2 rfl) ?_
          refine WM_val rfl rfl rfl rfl (R_load rfl sc52 rfl (mmD) rfl) ?_
          refine WM_set (s := 36) (v := .slice (some ⟨rb, rk, none⟩) y.u.calls.length y.m.c1) rfl (by rw [hoa]) ?_
          refine WM_val rfl rfl rfl rfl (R_move rfl rfl) ?_
          skip
          refine WM_val rfl rfl rfl rfl (R_indexAddr rfl Tryz.underlying52 Tryz.sizeOf98 rfl rfl (by omega)) ?_
          refine WM_val rfl rfl rfl rfl (R_fieldAddr rfl fa98_1 rfl) ?_
          refine WM_val rfl rfl rfl rfl (R_loadG (v := .int .u64 (x.dl : Int)) rfl sc41 rfl (pulls_mem (pqD : Pulls (y.N ++ M) _ _) hm) (At.fm hat encC2 hx 1 _ rfl)) ?_
          refine WM_val rfl rfl rfl rfl (R_move rfl rfl) ?_
          refine WM_val rfl rfl rfl rfl (R_leq rfl rfl rfl) ?_
          refine WM_val rfl rfl rfl rfl (R_pickT rfl rfl rfl) ?_
          refine WM_val rfl rfl rfl rfl (R_move rfl rfl) ?_
          refine WM_splitD (s := 44) rfl (fun c5 => ?_) (fun c5 => ?_)
          · have hqx : passQ now x = true := by have := c5; rw [passQ_one hnn]; exact decide_eq_true (by omega)
            refine WM_val rfl rfl rfl rfl (R_move rfl rfl) ?_
            refine WM_val rfl rfl rfl rfl (R_lss rfl rfl rfl) ?_
            refine WM_val rfl rfl rfl rfl (R_move rfl rfl) ?_
            refine WM_splitD (s := 47) rfl (fun c6 => ?_) (fun c6 => ?_)
            · have hf0 := c6
              refine WM_skip rfl rfl rfl rfl ?_
              refine WM_skip rfl rfl rfl rfl ?_
              refine WM_skip rfl rfl rfl rfl ?_
              refine WM_skip rfl rfl rfl rfl ?_
              refine WM_skip rfl rfl rfl rfl ?_
              refine WM_skip rfl rfl rfl rfl ?_
              refine WM_skip rfl rfl rfl rfl ?_
              refine WM_skip rfl rfl rfl rfl ?_
              refine WM_skip rfl rfl rfl rfl ?_
              refine WM_skip rfl rfl rfl rfl ?_
              refine WM_skip rfl rfl rfl rfl ?_
              refine WM_skip rfl rfl rfl rfl ?_
              refine WM_skip rfl rfl rfl rfl ?_
              refine WM_val rfl rfl rfl rfl (R_pickT rfl rfl rfl) ?_
              refine WM_val rfl rfl rfl rfl (R_pickT rfl rfl rfl) ?_
              refine WM_nil ?_
              refine WQ_code ?_
              refine WC_T rfl ?_
              refine WC_region ?_
              refine WL_val rfl rfl rfl (R_move rfl rfl) ?_
              refine WL_val rfl rfl rfl (R_assign rfl rfl) ?_
              refine WL_nil ?_
              refine WQ_code ?_
              refine WC_region ?_
              refine WL_val rfl rfl rfl (R_move rfl rfl) ?_
              refine WL_val rfl rfl rfl (R_add rfl rfl rfl (by omega)) ?_
              refine WL_val rfl rfl rfl (R_assign rfl rfl) ?_
              refine WL_nil ?_
              refine WQ_nextF (⟨z.k + 1, (z.k : Int)⟩) (⟨by dsimp only; omega, hF.first hf0 hx hqx⟩) (by dsimp only; omega) leZ (psZ) rfl (pqD)
            · have hf0 := c6
              obtain ⟨cf, nf, hzf, hnk, hcf, hqc, h4, h5⟩ := hF.get (by omega)
              refine WM_val rfl rfl rfl rfl (R_fieldAddr rfl fa54_2 rfl) ?_
              refine WM_val rfl rfl rfl rfl (R_load rfl sc52 rfl (mmD) rfl) ?_
              refine WM_set (s := 49) (v := .slice (some ⟨rb, rk, none⟩) y.u.calls.length y.m.c1) rfl (by rw [hoa]) ?_
              refine WM_val rfl rfl rfl rfl (R_move rfl rfl) ?_
              refine WM_val rfl rfl rfl rfl (R_indexAddr rfl Tryz.underlying52 Tryz.sizeOf98 rfl rfl (by omega)) ?_
              refine WM_val rfl rfl rfl rfl (R_fieldAddr rfl fa98_1 rfl) ?_
              refine WM_val rfl rfl rfl rfl (R_loadG (v := .int .u64 (x.dl : Int)) rfl sc41 rfl (pulls_mem (pqD : Pulls (y.N ++ M) _ _) hm) (At.fm hat encC2 hx 1 _ rfl)) ?_
              refine WM_val rfl rfl rfl rfl (R_fieldAddr rfl fa54_2 rfl) ?_
              refine WM_val rfl rfl rfl rfl (R_load rfl sc52 rfl (mmD) rfl) ?_
              refine WM_set (s := 55) (v := .slice (some ⟨rb, rk, none⟩) y.u.calls.length y.m.c1) rfl (by rw [hoa]) ?_
              refine WM_val rfl rfl rfl rfl (R_move rfl rfl) ?_
              refine WM_set (s := 56) (v := .int .i64 (nf : Int)) rfl (by rw [hzf]) ?_
              refine WM_val rfl rfl rfl rfl (R_indexAddr rfl Tryz.underlying52 Tryz.sizeOf98 rfl rfl (by omega)) ?_
              refine WM_val rfl rfl rfl rfl (R_fieldAddr rfl fa98_1 rfl) ?_
              refine WM_val rfl rfl rfl rfl (R_loadG (v := .int .u64 (cf.dl : Int)) rfl sc41 rfl (pulls_mem (pqD : Pulls (y.N ++ M) _ _) hm) (At.fm hat encC2 hcf 1 _ rfl)) ?_
              refine WM_val rfl rfl rfl rfl (R_lss rfl rfl rfl) ?_
              refine WM_val rfl rfl rfl rfl (R_pickF rfl rfl rfl) ?_
              refine WM_val rfl rfl rfl rfl (R_pickT rfl rfl rfl) ?_
              refine WM_nil ?_
              refine WQ_code ?_
              refine WC_dec rfl (fun c7 => ?_) (fun c7 => ?_)
              · refine WC_region ?_
                refine WL_val rfl rfl rfl (R_move rfl rfl) ?_
                refine WL_val rfl rfl rfl (R_assign rfl rfl) ?_
                refine WL_nil ?_
                refine WQ_code ?_
                refine WC_region ?_
                refine WL_val rfl rfl rfl (R_move rfl rfl) ?_
                refine WL_val rfl rfl rfl (R_add rfl rfl rfl (by omega)) ?_
                refine WL_val rfl rfl rfl (R_assign rfl rfl) ?_
                refine WL_nil ?_
                refine WQ_nextF (⟨z.k + 1, (z.k : Int)⟩) (⟨by dsimp only; omega, FstAt.less hx hqx (by omega) h5⟩) (by dsimp only; omega) leZ (psZ) rfl (pqD)
              · refine WC_skip ?_
                refine WQ_code ?_
                refine WC_region ?_
                refine WL_val rfl rfl rfl (R_move rfl rfl) ?_
                refine WL_val rfl rfl rfl (R_add rfl rfl rfl (by omega)) ?_
                refine WL_val rfl rfl rfl (R_assign rfl rfl) ?_
                refine WL_nil ?_
                refine WQ_nextF (⟨z.k + 1, z.f⟩) (⟨by dsimp only; omega, by dsimp only; rw [hzf]; exact FstAt.keep hx (by omega) hnk hcf hqc h4 h5⟩) (by dsimp only; omega) leZ (psZ) rfl (pqD)
          · have hqx : passQ now x = false := by have := c5; rw [passQ_one hnn]; exact decide_eq_false (by omega)
            refine WM_skip rfl rfl rfl rfl ?_
            refine WM_skip rfl rfl rfl rfl ?_
            refine WM_skip rfl rfl rfl rfl ?_
            refine WM_skip rfl rfl rfl rfl ?_
            refine WM_skip rfl rfl rfl rfl ?_
            refine WM_skip rfl rfl rfl rfl ?_
            refine WM_skip rfl rfl rfl rfl ?_
            refine WM_skip rfl rfl rfl rfl ?_
            refine WM_skip rfl rfl rfl rfl ?_
            refine WM_skip rfl rfl rfl rfl ?_
            refine WM_skip rfl rfl rfl rfl ?_
            refine WM_skip rfl rfl rfl rfl ?_
            refine WM_skip rfl rfl rfl rfl ?_
            refine WM_skip rfl rfl rfl rfl ?_
            refine WM_skip rfl rfl rfl rfl ?_
            refine WM_skip rfl rfl rfl rfl ?_
            refine WM_skip rfl rfl rfl rfl ?_
            refine WM_val rfl rfl rfl rfl (R_pickF rfl rfl rfl) ?_
            refine WM_nil ?_
            refine WQ_code ?_
            refine WC_F rfl ?_
            refine WC_skip ?_
            refine WQ_code ?_
            refine WC_region ?_
            refine WL_val rfl rfl rfl (R_move rfl rfl) ?_
            refine WL_val rfl rfl rfl (R_add rfl rfl rfl (by omega)) ?_
            refine WL_val rfl rfl rfl (R_assign rfl rfl) ?_
            refine WL_nil ?_
            refine WQ_nextF (⟨z.k + 1, z.f⟩) (⟨by dsimp only; omega, hF.skip hx hqx⟩) (by dsimp only; omega) leZ (psZ) rfl (pqD)
        · have hnv := c4
          refine WM_skip rfl rfl rfl rfl ?_
          refine WM_skip rfl rfl rfl rfl ?_
          refine WM_skip rfl rfl rfl rfl ?_
          refine WM_skip rfl rfl rfl rfl ?_
          refine WM_skip rfl rfl rfl rfl ?_
          refine WM_skip rfl rfl rfl rfl ?_
          refine WM_skip rfl rfl rfl rfl ?_
          refine WM_skip rfl rfl rfl rfl ?_
          refine WM_val rfl rfl rfl rfl (R_pickF rfl rfl rfl) ?_
          refine WM_val rfl rfl rfl rfl (R_move rfl rfl) ?_
          refine WM_skip rfl rfl rfl rfl ?_
          refine WM_skip rfl rfl rfl rfl ?_
          refine WM_skip rfl rfl rfl rfl ?_
          refine WM_skip rfl rfl rfl rfl ?_
          refine WM_skip rfl rfl rfl rfl ?_
          refine WM_skip rfl rfl rfl rfl ?_
          refine WM_skip rfl rfl rfl rfl ?_
          refine WM_skip rfl rfl rfl rfl ?_
          refine WM_skip rfl rfl rfl rfl ?_
          refine WM_skip rfl rfl rfl rfl ?_
          refine WM_skip rfl rfl rfl rfl ?_
          refine WM_skip rfl rfl rfl rfl ?_
          refine WM_skip rfl rfl rfl rfl ?_
          refine WM_skip rfl rfl rfl rfl ?_
          refine WM_skip rfl rfl rfl rfl ?_
          refine WM_skip rfl rfl rfl rfl ?_
          refine WM_skip rfl rfl rfl rfl ?_
          refine WM_val rfl rfl rfl rfl (R_pickF rfl rfl rfl) ?_
          refine WM_nil ?_
          refine WQ_code ?_
          refine WC_F rfl ?_
          refine WC_skip ?_
          refine WQ_code ?_
          refine WC_region ?_
          refine WL_val rfl rfl rfl (R_move rfl rfl) ?_
          refine WL_val rfl rfl rfl (R_add rfl rfl rfl (by omega)) ?_
          refine WL_val rfl rfl rfl (R_assign rfl rfl) ?_
          refine WL_nil ?_
          refine WQ_nextF (⟨z.k + 1, z.f⟩) (⟨by dsimp only; omega, hF.skip hx (by rw [passQ_one hnn]; exact decide_eq_false (by have := hnv; omega))⟩) (by dsimp only; omega) leZ (psZ) rfl (pqD)
      · have hzk : z.k = y.u.calls.length := by omega
        refine WC_exit ?_
        refine WQ_code ?_
        refine WC_seq ?_
        refine WC_seq ?_
        refine WC_region ?_
        refine WL_val rfl rfl rfl (R_move rfl rfl) ?_
        refine WL_val rfl rfl rfl (R_lss rfl rfl rfl) ?_
        refine WL_nil ?_
        refine WQ_code ?_
        refine WC_dec rfl (fun c8 => ?_) (fun c8 => ?_)
        · have hE : R = y.u := by rw [hzk] at hF; rw [← hR]; exact advs_none hF (by omega)
          refine WC_seq ?_
          refine WC_region ?_
          refine WL_val rfl rfl rfl (R_loadA (vs := [_, _, _, _, _, _, _, _]) rfl ag54 rfl (mmD) rfl (atZ)) ?_
          refine WL_do0 rfl rfl (D_store (vs := [_, _, _, _, _, _, _, _]) rfl Tryz.sizeOf54 rfl rfl rfl rfl rfl (plD) (by exact Nat.le_of_ble_eq_true rfl)) ?_
          rintro _ _ rfl
          refine WL_val rfl rfl rfl (R_assign rfl rfl) ?_
          refine WL_nil ?_
          refine WQ_code ?_
          refine WC_ret ?_
          refine WQ_ret rfl rfl (.cons (.cell (vs := [_, _, _, _, _, _, _, _]) rfl ag54 (mmD) rfl (atZ)) (.cons (.tmp rfl) .nil)) rfl (by
              rw [hP, hE]
              exact ⟨y.N, y.m, hC, rfl, rfl⟩) (pqD)
        · have hfn := c8
          refine WC_skip ?_
          refine WQ_code ?_
          refine WC_seq ?_
          refine WC_region ?_
          obtain ⟨cf, nf, hzf, hnk, hcf, hqc, h4, h5⟩ := hF.get (by omega)
          rw [hzk] at h5 hnk
          have hcl9 := hJy.le cf (List.mem_of_getElem? hcf)
          have hcl8 := hJy.last
          obtain ⟨ent, hm, hr9⟩ := hC.calls
          obtain ⟨rb, rk, rcs, re, rfr, hoa, rfl, hat⟩ := hr9 (by omega)
          have hrl := hC.rlen
          refine WL_val rfl rfl rfl (R_fieldAddr rfl fa54_2 rfl) ?_
          refine WL_val rfl rfl rfl (R_load rfl sc52 rfl (mmD) rfl) ?_
          refine WL_set (s := 68) (v := .slice (some ⟨rb, rk, none⟩) y.u.calls.length y.m.c1) rfl (by rw [hoa]) ?_
          refine WL_val rfl rfl rfl (R_move rfl rfl) ?_
          refine WL_set (s := 69) (v := .int .i64 (nf : Int)) rfl (by rw [hzf]) ?_
          refine WL_val rfl rfl rfl (R_indexAddr rfl Tryz.underlying52 Tryz.sizeOf98 rfl rfl (by omega)) ?_
          refine WL_val rfl rfl rfl (R_fieldAddr rfl fa98_0 rfl) ?_
          refine WL_val rfl rfl rfl (R_loadG (v := .int .i64 (cf.id : Int)) rfl sc3 rfl (pulls_mem (pqD : Pulls (y.N ++ M) _ _) hm) (At.fm hat encC2 hcf 0 _ rfl)) ?_
          refine WL_val rfl rfl rfl (R_assign rfl rfl) ?_
          refine WL_nil ?_
          refine WQ_code ?_
          refine WC_seq ?_
          refine WC_region ?_
          refine WL_val rfl rfl rfl (R_loadA (vs := [_, _, _, _, _, _, _, _]) rfl ag54 rfl (mmD) rfl (atZ)) ?_
          refine WL_val rfl rfl rfl (R_move rfl rfl) ?_
          refine WL_do rfl rfl rfl (D_call (wend_ok hC.calls (by omega) hC.res (by omega) _ _ _ _ _ _ _ _ _ _ _ (cf.id : Int) 12 [] none 0) rfl rfl rfl rfl (pqD)) ?_
          rintro _ _ ⟨_, ⟨o1, k1, t1, o2, k2, t2, rfl, own1, own2, rfl⟩, rfl⟩
          refine WL_do0 rfl rfl (D_store (vs := [_, _, _, _, _, _, _, _]) rfl Tryz.sizeOf54 rfl rfl rfl rfl rfl (plD) (by exact Nat.le_of_ble_eq_true rfl)) ?_
          rintro _ _ rfl
          refine WL_nil ?_
          refine WQ_code ?_
          refine WC_drawL 7 [] [] [(0, .q), (1, .q), (2, .q), (3, .q), (4, .n []), (5, .n []), (6, .q)] followsMixed rfl (by kernel_rfl) rfl (by kernel_rfl) (pqD) .nil ?_
          refine WX_val rfl rfl rfl rfl (R_fieldAddr rfl fa54_4 rfl) ?_
          refine WX_val rfl rfl rfl rfl (R_load rfl sc26 rfl (mmD) rfl) ?_
          refine WX_val rfl rfl rfl rfl (R_move rfl rfl) ?_
          refine WX_val rfl rfl rfl rfl (R_conv (r := (cf.id : Int)) rfl Tryz.underlying3 Tryz.underlying40 rfl (by rw [w64 ⟨by omega, by omega⟩])) ?_
          refine WX_do rfl rfl rfl rfl .nil (fun _ => D_call (wbig_ok cf.id 4 (by omega) (by decide)) rfl rfl rfl rfl (pqD)) ?_
          rintro _ _ ⟨_, ⟨oB, cB, tB, rfl, ownB, rfl⟩, rfl⟩
          refine ⟨⟨_, pqD⟩, .nil, ?_⟩
          refine WX_do rfl rfl rfl rfl .nil (fun _ => D_call (wsent_ok 18 (body := bigB cf.id 4) (M := [⟨oB, cl (bvs (bigB cf.id 4) ++ tB) 5⟩] ++ (y.N ++ M)) (hC.out.up [⟨oB, cl (bvs (bigB cf.id 4) ++ tB) 5⟩]) (RdM.own (e := 5) ownB _) (by omega) (by rw [bigB_len]; omega)) rfl rfl rfl rfl (pqD)) ?_
          rintro _ _ ⟨_, ⟨oS, cS, tS, rfl, ownS, rfl⟩, rfl⟩
          refine ⟨⟨_, pqD⟩, .nil, ?_⟩
          refine WX_val rfl rfl rfl rfl (R_fieldAddr rfl fa54_4 rfl) ?_
          refine WX_nil ?_
          refine WQ_last0 rfl rfl rfl (D_store (vs := [_]) rfl Tryz.sizeOf26 rfl rfl rfl rfl rfl (plD) (by exact Nat.le_of_ble_eq_true rfl)) ?_
          rintro _ _ rfl
          refine WQ_nextF (gg := y) (⟨y.u.adv1 cf, { y.m with a1 := o1.map fun b => ⟨b, 0, none⟩, c1 := k1, a2 := o2.map fun b => ⟨b, 0, none⟩, c2 := k2, R := y.m.R ++ [(⟨(cf.id : Int), 12, [], none, 0⟩ : Rx)], a3 := oS.map fun b => ⟨b, 0, none⟩, c3 := cS }, [⟨oS, cl (bvs (y.u.out ++ encF 18 (bigB cf.id 4)) ++ tS) 5⟩] ++ ([⟨o1, cl ((y.u.calls.filter (neC cf.id)).flatMap encC ++ t1) 98⟩, ⟨o2, cl ((y.m.R ++ [(⟨(cf.id : Int), 12, [], none, 0⟩ : Rx)]).flatMap encX ++ t2) 89⟩] ++ y.N)⟩) (⟨by rw [List.append_assoc, List.append_assoc]; exact CvR.outed (e := 5) (CvR.ended (e1 := 98) (e2 := 89) hC (cf.id : Int) 12 (c := 0) (RdM.none none (List.mem_append_left _ hdm)) own1 own2) ownS, hJy.adv1 cf, (advs_step hJy hcf hqc h4 h5).trans hR, List.mem_append_right _ (List.mem_append_right _ hdm), by have := neC_len hJy.inc hcf; show (y.u.out ++ _).length + 10 * (y.u.calls.filter (neC cf.id)).length ≤ _; rw [List.length_append, encF_len, bigB_len]; omega, by have := neC_len hJy.inc hcf; show (y.u.calls.filter (neC cf.id)).length + (y.u.res ++ _).length ≤ _; rw [List.length_append]; simp; omega⟩) (by have := neC_len hJy.inc hcf; show (y.u.calls.filter (neC cf.id)).length < _; omega) leZ (psZ) rfl (pqD)
end Go.Proofs.YtdelhikejgoffaaGreat
end
