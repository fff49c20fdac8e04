/-
  A region that draws its order: loads of cells that stay as they are, from blocks that the region turns elsewhere.
-/
import Derived.Test.YteofigbgdbpjgaaZB
set_option linter.unusedVariables false
namespace Go.Proofs.Yteofigbgdbpjgaa
/-- Cells that are known: block, place, value. -/
def PtW (ps : List (Nat × Nat × Value)) (w : World) : Prop := ∀ t ∈ ps, ∃ cs e, w.heap[t.1]? = some (cl cs e) ∧ cs[t.2.1]? = some t.2.2
inductive PtH (H : Heap) : List (Nat × Nat × Value) → Prop
  | nil : PtH H []
  | cons {b j : Nat} {v : Value} {cs : List Value} {e : TypeId} {ps : List (Nat × Nat × Value)} : (⟨some b, cl cs e⟩ : Ent) ∈ H → cs[j]? = some v → PtH H ps → PtH H ((b, j, v) :: ps)
theorem PtH.here {H H0 : Heap} {w0 w : World} {ps : List (Nat × Nat × Value)} (h : PtH H ps) (hw : HW H0 w0 H w) : PtW ps w := by
  induction h with
  | nil => intro t ht; cases ht
  | cons h1 h2 _ ih =>
    intro t ht
    rcases List.mem_cons.1 ht with rfl | ht
    · exact ⟨_, _, hw.hok.ok _ h1, h2⟩
    · exact ih t ht
theorem PtW.bel {ps : List (Nat × Nat × Value)} {w w' : World} (h : PtW ps w) (hb : Bel w w') : PtW ps w' := fun t ht => by
  obtain ⟨cs, e, h1, h2⟩ := h t ht
  exact ⟨cs, e, by rw [hb.block _ (Array.getElem?_eq_some_iff.1 h1).1]; exact h1, h2⟩
abbrev CX (X : Ctx) (ps : List (Nat × Nat × Value)) (Hq : Heap) (w : World) : Prop := HW X.H0 X.w0 Hq w ∧ PtW ps w
def WX (X : Ctx) (ops : Array Oper) (p : Post) (ps : List (Nat × Nat × Value)) (Hq : Heap) (l : List (Nat × Tag)) (E : Env) (H : Heap) : Prop :=
  ∀ a w S, (∀ k, S k ↔ k ∈ keys H) → AE X E a → HW X.H0 X.w0 H w → BW X ops p (CX X ps Hq) l S a w
section
variable {X : Ctx} {ops : Array Oper} {p : Post} {Hq : Heap} {E : Env} {H F : Heap} {r : List (Nat × Tag)} {i : Nat} {o : Oper} {B : List Nat} {ps : List (Nat × Nat × Value)}
theorem BornsE.bornsX {a : Act} (h : BornsE X ops Hq B E) (ha : AE X E a) : Borns X ops (CX X ps Hq) B a := fun k hk => by
  obtain ⟨o, V, O, ho, hg, hb⟩ := h k hk
  exact ⟨o, V, O, ho, wantedE_spec ha hg, fun w hw => hb a w ha hw.1⟩
theorem WC_drawX {id : Nat} {l : List Oper} (xs : Heap) (ps : List (Nat × Nat × Value)) (ord : List (Nat × Tag)) (hm : X.P.follows .mixedOrders = true) (hsd : noSD l.toArray = true) (hlen : ord.length = l.length)
    (hB : orderW l.toArray ord (Array.replicate l.length false) = true) (hq : Pulls xs H Hq) (hp : PtH H ps) (h : WX X l.toArray p ps Hq ord E H) : WC X (.region id l.toArray true) p E H := by
  intro a w ha hw
  refine wpIn_region_any hm ?_
  have hb : Bel w { w with drawn := w.drawn + 1 } := Bel.drew' w
  have hw1 := hw.bel hb
  have h1 := BW.any (X := X) (p := p) (C := CX X ps Hq) (fun _ h => h.1.size) (fun _ _ h b => ⟨h.1.bel b, h.2.bel b⟩) hsd ord _ hB ord.length [] a _ (fun k => k ∈ keys H) (by simp)
    ⟨fun e h => (by cases h), List.nodup_nil, fun e h => (by cases h), fun e h => (by cases h), fun e h => (by cases h), ⟨pulls_rest hq hw1, hp.here hw1⟩, fun k hk => hw1.hok.lt hk⟩
    (fun w' hb' => h a _ _ (fun _ => Iff.rfl) ha (hw1.bel hb'))
  rw [hlen] at h1
  have := AnyC.sound _ _ _ _ h1
  simpa [marks, puts] using this
theorem WX_nil (h : WQ X p.nrm E H) : WX X ops p ps Hq [] E H := fun a w _ _ ha hw => h a w ha hw
theorem WX_val {d : Nat} {v : Value} (ho : ops[i]? = some o) (hg : wantedE ops E o = some true) (hd : o.dst = some d) (hN : Nat.blt d X.N = true) (h : Runs X o E Hq v)
    (k : WX X ops p ps Hq r ((d, v) :: E) H) : WX X ops p ps Hq ((i, .q) :: r) E H := fun a w S hS ha hw =>
  ⟨o, v, ho, .inl ⟨wantedE_spec ha hg, fun w' hw' => .inl (h.2 a w' ha hw'.1)⟩, fun w' hb => k _ _ S hS (by rw [hd]; exact ha.put d v hN) (hw.bel hb)⟩
/-- A load of a cell that is known. -/
theorem WX_load {d : Nat} {t : TypeId} {x : Operand} {b j : Nat} {v : Value} (ho : ops[i]? = some o) (hg : wantedE ops E o = some true) (hd : o.dst = some d) (hN : Nat.blt d X.N = true) (hop : o.op = .load t x) (ht : Sc X.P t) (hx : ev E x = some (.pointer (some ⟨b, j, none⟩))) (hm : (b, j, v) ∈ ps)
    (k : WX X ops p ps Hq r ((d, v) :: E) H) : WX X ops p ps Hq ((i, .q) :: r) E H := fun a w S hS ha hw =>
  ⟨o, v, ho, .inl ⟨wantedE_spec ha hg, fun w' hw' => .inl (by
    obtain ⟨cs, e, h1, h2⟩ := hw'.2 _ hm
    have hc : w'.cell? ⟨b, j, none⟩ = some v := by simp only [World.cell?, h1, cl]; simpa using h2
    simp [execOp, hop, ha.eval hx, Instr.loadAt, Instr.sureAddr, loadVar, (ht w').1, hc])⟩, fun w' hb => k _ _ S hS (by rw [hd]; exact ha.put d v hN) (hw.bel hb)⟩
theorem WX_skip {d : Nat} (ho : ops[i]? = some o) (hg : wantedE ops E o = some false) (hd : o.dst = some d) (hN : Nat.blt d X.N = true)
    (k : WX X ops p ps Hq r ((d, undef) :: E) H) : WX X ops p ps Hq ((i, .q) :: r) E H := fun a w S hS ha hw =>
  ⟨o, undef, ho, .inr ⟨wantedE_spec ha hg, rfl⟩, fun w' hb => k _ _ S hS (by rw [hd]; exact ha.put d undef hN) (hw.bel hb)⟩
theorem WX_turn {a : Act} {w : World} {S : Nat → Prop} {R : Value → Heap → Prop} (hS : ∀ k, S k ↔ k ∈ keys H) (hbs : BornsE X ops Hq B E) (ho : ops[i]? = some o) (hg : wantedE ops E o = some true)
    (h : ∀ w, Does (X.at H w) o E H R) (ha : AE X E a) (hw : HW X.H0 X.w0 H w) (k : ∀ v H' w'', R v H' → HW X.H0 X.w0 H' w'' → (∃ F, Pulls Hq H' F) ∧ PtH H' ps ∧ ∀ S', (∀ k, S' k ↔ k ∈ keys H') → BW X ops p (CX X ps Hq) r S' (a.put o.dst v) w'') :
    BW X ops p (CX X ps Hq) ((i, .n B) :: r) S a w := by
  refine ⟨hbs.bornsX ha, ?_⟩
  simp only [wpOpIn, ho, wantedE_spec ha hg, if_true]
  refine h w a w ⟨ha.size, ha.defers, ha.env⟩ (HW.start hw.hok) _ _ fun v H' w' hr (hw' : HW H w H' w') => ?_
  have hwX := hw.self hw'
  obtain ⟨⟨F, hq⟩, hp, -⟩ := k v H' w' hr hwX
  refine ⟨⟨(hwX.perm hq.perm).left, hp.here hwX⟩, hw'.size, fun j => j ∈ keys H', fun j hj => ⟨?_, hw'.hok.lt hj⟩, fun j hj hn => hw'.kept j hj (fun h => hn ((hS j).2 h)), fun w'' hb => (k v H' w'' hr (hwX.bel hb)).2.2 _ fun _ => Iff.rfl⟩
  rcases hw'.own j hj with h | h
  · exact .inl ((hS j).2 h)
  · exact .inr h
theorem WX_do {d : Nat} {R : Value → Heap → Prop} (ho : ops[i]? = some o) (hg : wantedE ops E o = some true) (hd : o.dst = some d) (hN : Nat.blt d X.N = true) (hbs : BornsE X ops Hq B E) (h : ∀ w, Does (X.at H w) o E H R)
    (k : ∀ v H', R v H' → (∃ F, Pulls Hq H' F) ∧ PtH H' ps ∧ WX X ops p ps Hq r ((d, v) :: E) H') : WX X ops p ps Hq ((i, .n B) :: r) E H := fun _ _ _ hS ha hw =>
  WX_turn hS hbs ho hg h ha hw fun v H' _ hr hw' => ⟨(k v H' hr).1, (k v H' hr).2.1, fun S' hS' => (k v H' hr).2.2 _ _ S' hS' (by rw [hd]; exact ha.put d v hN) hw'⟩
theorem WX_do0 {R : Value → Heap → Prop} (ho : ops[i]? = some o) (hg : wantedE ops E o = some true) (hd : o.dst = none) (hbs : BornsE X ops Hq B E) (h : ∀ w, Does (X.at H w) o E H R)
    (k : ∀ v H', R v H' → (∃ F, Pulls Hq H' F) ∧ PtH H' ps ∧ WX X ops p ps Hq r E H') : WX X ops p ps Hq ((i, .n B) :: r) E H := fun _ _ _ hS ha hw =>
  WX_turn hS hbs ho hg h ha hw fun v H' _ hr hw' => ⟨(k v H' hr).1, (k v H' hr).2.1, fun S' hS' => (k v H' hr).2.2 _ _ S' hS' (by rw [hd]; exact ha.put0 v) hw'⟩
theorem WX_birth {d : Nat} {V : Nat → Value} {O : Obj} (ho : ops[i]? = some o) (hg : wantedE ops E o = some true) (hd : o.dst = some d) (hN : Nat.blt d X.N = true) (hbs : BornsE X ops Hq B E) (h : Births X o E Hq V O)
    (k : ∀ b, WX X ops p ps Hq r ((d, V b) :: E) (⟨some b, O⟩ :: H)) : WX X ops p ps Hq ((i, .b B) :: r) E H := fun a w S hS ha hw => by
  refine ⟨hbs.bornsX ha, o, V, O, ho, ⟨wantedE_spec ha hg, fun w' hw' => h a w' ha hw'.1⟩, fun b w' hb hge hO hn => ?_⟩
  have hw' := hw.bel hb
  refine k b _ w' _ (fun j => ?_) (by rw [hd]; exact ha.put d _ hN) ⟨⟨?_, fun x hx => ?_⟩, hw'.os, hw'.tape, hw'.output, hw'.size, hw'.kept, fun j hj => ?_, hw'.dr⟩
  · simp only [keys, List.filterMap_cons, List.mem_cons]
    rw [hS j, or_comm]; rfl
  · have hn' : b ∉ keys H := fun h => hn ((hS b).2 h)
    simpa [keys] using ⟨by simpa [keys] using hn', by simpa [keys] using hw'.hok.nodup⟩
  · rcases List.mem_cons.1 hx with rfl | hx
    · exact hO
    · exact hw'.hok.ok x hx
  · have hj' : j = b ∨ j ∈ keys H := by simpa [keys] using hj
    rcases hj' with rfl | hj'
    · exact .inr hge
    · exact hw'.own j hj'
theorem WX_set {s : Nat} {v v' : Value} {l : List (Nat × Tag)} (h : gtE E s = some v') (he : v' = v) (k : WX X ops p ps Hq l ((s, v) :: E) H) : WX X ops p ps Hq l E H := by
  subst he
  intro a w S hS ha hw
  refine k a w S hS ⟨ha.size, ha.defers, fun t v ht => ?_⟩ hw
  rw [get_cons] at ht
  split at ht
  · rename_i e; subst e; cases ht; exact ha.env _ _ h
  · exact ha.env _ _ ht
end
end Go.Proofs.Yteofigbgdbpjgaa
