/- The pure layer and the contracts of the functions, part 3: what the functions of the program leave, as values. -/
import Derived.Test.YtdmlfhmnlddooaaB1
set_option linter.unusedSimpArgs false
set_option linter.unusedVariables false
/- The pure layer, part 26: own slices inside of own slices: literals, append, standing still. Any program. -/
namespace Go.Pu
open Go

/-- The parts of a literal, with headers of the call's own in them: places from n on, each with its cells. -/
inductive EvL (r : List REv) (sz : Nat) : List (Nat × Operand) → Nat → List (List LC) → List (Operand × PV) → Prop where
  | nil (n : Nat) : EvL r sz [] n [] []
  | put {n : Nat} {x : Operand} {v : PV} {l : List (Nat × Operand)} {ys : List LC} {es : List (List LC)} {xs : List (Operand × PV)} (hx : ev r x = some v) (hy : pcells v = ys) (hn : ys.length = sz) (h1 : ys.all LC.one = true) (ht : ∀ vs, v ≠ .tup vs)
      (k : EvL r sz l (n + 1) es xs) : EvL r sz ((n, x) :: l) n (ys :: es) ((x, v) :: xs)
theorem EvL.own {r : List REv} {sz n : Nat} {x : Operand} {id off len : Nat} {l : List (Nat × Operand)} {es : List (List LC)} {xs : List (Operand × PV)} (hx : ev r x = some (.c (.osl id off len))) (hs : 1 = sz)
    (k : EvL r sz l (n + 1) es xs) : EvL r sz ((n, x) :: l) n ([.osl id off len] :: es) ((x, .c (.osl id off len)) :: xs) := .put hx rfl hs rfl (by intro vs h; cases h) k
theorem EvL.agg {r : List REv} {sz n : Nat} {x : Operand} {cs : List LC} {l : List (Nat × Operand)} {es : List (List LC)} {xs : List (Operand × PV)} (hx : ev r x = some (.agg cs)) (hs : cs.length = sz) (h1 : cs.all LC.one = true)
    (k : EvL r sz l (n + 1) es xs) : EvL r sz ((n, x) :: l) n (cs :: es) ((x, .agg cs) :: xs) := .put hx rfl hs h1 (by intro vs h; cases h) k
theorem EvL.spec {r : List REv} {sz : Nat} {l : List (Nat × Operand)} {n : Nat} {es : List (List LC)} {xs : List (Operand × PV)} (h : EvL r sz l n es xs) :
    l = ((l.map (fun p => p.2)).zipIdx n).map (fun p => (p.2, p.1)) := by
  induction h with
  | nil n => rfl
  | put hx hy hn h1 ht k ih => simp only [List.map_cons, List.zipIdx_cons]; rw [← ih]
theorem EvL.vals {r : List REv} {sz : Nat} {l : List (Nat × Operand)} {n : Nat} {es : List (List LC)} {xs : List (Operand × PV)} (h : EvL r sz l n es xs) :
    (∀ p ∈ xs, ev r p.1 = some p.2) ∧ es.length = l.length ∧ (∀ e ∈ es, e.length = sz) := by
  induction h with
  | nil n => simp
  | put hx hy hn h1 ht k ih => exact ⟨List.forall_mem_cons.2 ⟨hx, ih.1⟩, by simp [ih.2.1], List.forall_mem_cons.2 ⟨hn, ih.2.2⟩⟩
theorem EvL.cells {r : List REv} {sz : Nat} {l : List (Nat × Operand)} {n : Nat} {es : List (List LC)} {xs : List (Operand × PV)} (h : EvL r sz l n es xs) {F : FMap} {L : LMap} {ρ : Operand → Value}
    (hr : ∀ p ∈ xs, RP F L p.2 (ρ p.1)) : (∀ v ∈ l.map (fun p => ρ p.2), v.cells.size = sz) ∧
      ∀ (i j : Nat) (e : List LC) (x : LC), es[i]? = some e → e[j]? = some x → ∃ v u, (l.map (fun p => ρ p.2))[i]? = some v ∧ v.cells.toList[j]? = some u ∧ u.oneCell' = true ∧ RL F L x u := by
  induction h with
  | nil n => simp
  | @put n x v l ys es xs hx hy hn h1 ht k ih =>
    obtain ⟨i1, i2⟩ := ih (fun p hp => hr p (by simp [hp]))
    obtain ⟨vs, e1, e2, e3⟩ := RP_cells (hr (x, v) (by simp)) (by simp only [hy]; exact h1) ht
    simp only at e2 e3
    rw [hy] at e2 e3
    refine ⟨?_, ?_⟩
    · intro v' hv
      simp only [List.map_cons, List.mem_cons] at hv
      rcases hv with rfl | hv
      · rw [e1]; simpa [hn] using e2
      · exact i1 v' hv
    · intro i j e y he hy'
      cases i with
      | zero =>
        simp at he
        subst he
        obtain ⟨u, hu, h2, h3⟩ := e3 j y hy'
        exact ⟨ρ x, u, rfl, by rw [e1]; exact hu, h2, h3⟩
      | succ i =>
        simp at he
        obtain ⟨v', u, g1, g2⟩ := i2 i j e y he hy'
        exact ⟨v', u, by simpa using g1, g2⟩

section
variable {P : Program} {c : Ctx} {ops : Array Oper}
/-- A slice literal with headers of the call's own. -/
theorem S_litL {r : List REv} {o : List OEv} {d n : Nat} {t ty e : TypeId} {pos : String} {af : Array Edge} {l : List (Nat × Operand)} {sz : Nat} {es : List (List LC)} {xs : List (Operand × PV)} [ht : TSlice P t e] [hz : TApp P e sz]
    (hl : EvL r sz l 0 es xs) (hn : Nat.beq l.length n = true) (hmax : Nat.ble (n * sz) 16777216 = true) (hnr : (es.all fun el => el.all fun x => x.noRef d) = true) (hd : Nat.blt d c.n = true) :
    Op1 P c ops (some d) (.buildSlice t n l.toArray) ty pos af ⟨r, o⟩ ⟨xs.flatMap rdx, [], [.set d (.c (.osl d 0 n)), .kill d], [.set d ⟨e, 0, .loc es⟩, .free d]⟩ := by
  obtain ⟨i, z, zs, e1, e2, e3, e4, e5, e6, e7⟩ := hz.h
  have hmax' : n * sz ≤ 16777216 := by simpa [Nat.ble_eq] using hmax
  have hnn : n ≤ 16777216 := Nat.le_trans (Nat.le_mul_of_pos_right n e6) hmax'
  obtain ⟨v1, v2, v3⟩ := hl.vals
  have hlen : es.length = n := by rw [v2]; exact beq_of hn
  refine S_newS xs ⟨e, 0, .loc es⟩ n sz (by simp [Cont.cells, hlen]) (fun el hel => v3 el hel) (by simp only [maxLen]; omega) hd v1 ?_ ⟨i, e1, e5⟩ ?_
  · intro el hel x hx
    exact List.all_eq_true.1 (List.all_eq_true.1 hnr el hel) x hx
  · intro ρ w F L hr
    obtain ⟨c1, c2⟩ := hl.cells hr
    refine ⟨(l.map (fun p => ρ p.2)).flatMap fun v => v.cells.toList, ?_, ?_, ?_⟩
    · have hsp := hl.spec
      have hparts : (l.toArray.map fun (p : Nat × Operand) => (p.1, ρ p.2)) = (((l.map (fun p => ρ p.2)).zipIdx 0).map fun p => (p.2, p.1)).toArray := by
        simp only [List.map_toArray]
        congr 1
        have : l.map (fun p => ρ p.2) = (l.map (·.2)).map ρ := by simp
        rw [this, List.zipIdx_map]
        conv => lhs; rw [hsp]
        simp [Function.comp_def]
      have := run_fill (P := P) (w := w) e1 e2 e5 (by rw [e3]; simpa using e4) e6 t ht.h n hmax' (l.map fun p => ρ p.2) c1 (by simpa using beq_of hn)
      rw [show execOp ρ _ = (do pure (.value (← Instr.buildSlice t n (l.toArray.map fun (p : Nat × Operand) => (p.1, ρ p.2)))) : Sem Next) from rfl, hparts]
      simp [this]
    · rw [List.flatMap_def, flat_len (sz := sz) (by intro a ha; obtain ⟨v, hv, rfl⟩ := List.mem_map.1 ha; simpa using c1 v hv)]
      simp [beq_of hn]
    · intro i j el x hel hx
      obtain ⟨v, u, g1, g2, g3, g4⟩ := c2 i j el x hel hx
      refine ⟨u, ?_, g3, g4⟩
      rw [List.flatMap_def]
      exact flat_at (by intro a ha; obtain ⟨v, hv, rfl⟩ := List.mem_map.1 ha; simpa using c1 v hv) (i := i) (j := j) (l := v.cells.toList) (by rw [List.getElem?_map, g1]; rfl) g2

/-! ### what an own slice of any content reads -/
def SrcL (F : FMap) (L : LMap) (w : World) (sz : Nat) (es : List (List LC)) (v : Value) : Prop :=
  (es = [] ∧ ∃ a cp, v = .slice a 0 cp) ∨ ∃ (b o cp : Nat) (vs : List Value), v = .slice (some ⟨b, o, none⟩) es.length cp ∧ vs.length = es.length * sz ∧ (∀ (j : Nat) (u : Value), vs[j]? = some u → w.cell? ⟨b, o + j, none⟩ = some u ∧ u.oneCell' = true) ∧
    ∀ (i j : Nat) (el : List LC) (x : LC), es[i]? = some el → el[j]? = some x → ∃ u, vs[i * sz + j]? = some u ∧ RL F L x u
theorem src_ownL {F : FMap} {L : LMap} {w : World} {id len fz : Nat} {e : TypeId} {B : Cont} {v : Value} {sz : Nat} (hi : ∃ i, P.info? e = some i ∧ i.size = sz) (h : RP F L (.c (.osl id 0 len)) v) (ho : ObjOk P F L w id ⟨e, fz, B⟩) (hle : B.cells.length = len) :
    SrcL F L w sz B.cells v := by
  simp only [RP, RL] at h
  obtain ⟨p, hp, hcap, hcase⟩ := h
  obtain ⟨p', hp', _, ⟨i1, hi1, hi2⟩, h4, h5, _, h7⟩ := ho
  rw [hp] at hp'
  cases hp'
  obtain ⟨i2, hi3, hi4⟩ := hi
  simp only at hi1
  rw [hi1] at hi3
  cases hi3
  have hsz : p.sz = sz := by omega
  by_cases hl : len = 0
  · have hnil : B.cells = [] := List.eq_nil_of_length_eq_zero (by omega)
    subst hl
    rcases hcase with ⟨_, hv, _⟩ | ⟨b, o', _, hv, _⟩
    · exact Or.inl ⟨hnil, _, _, hv⟩
    · exact Or.inl ⟨hnil, _, _, hv⟩
  rcases hcase with ⟨_, _, _, hl0⟩ | ⟨b, o', hb, hv, ho'⟩
  · exact absurd hl0 hl
  rcases h7 with ⟨h7, _⟩ | ⟨b', cur, hb', hcur, hsize, hread⟩
  · rw [hb] at h7; cases h7
  rw [hb] at hb'
  cases hb'
  have hoo := ho' (by omega)
  simp only at h4
  obtain ⟨vs, g1, g2, g3⟩ := row_of hle h4 (fun x u => RL F L x u ∧ u.oneCell' = true) (fun k => w.cell? ⟨b, o' + k, none⟩) (by
    intro i j l x hl hx
    obtain ⟨u, hu, hu1, hu2⟩ := hread i j l x hl hx
    refine ⟨u, ?_, hu2, hu1⟩
    rw [cell_of_row w b _ cur _ _ hcur, ← hu, hoo]
    congr 1
    omega)
  subst hsz
  refine Or.inr ⟨b, o', p.cap - 0, vs, by rw [hv, hle], by rw [g1, hle], ?_, fun i j el x he hx => by obtain ⟨u, hu, hr, _⟩ := g3 i j el x he hx; exact ⟨u, hu, hr⟩⟩
  intro j u hj
  refine ⟨g2 j u hj, ?_⟩
  have hlt : j < len * p.sz := by rw [← g1]; exact (List.getElem?_eq_some_iff.1 hj).1
  obtain ⟨k1, k2, k3⟩ := two_at hlt
  have hl : B.cells[j / p.sz]? = some (B.cells[j / p.sz]'(by rw [hle]; exact k1)) := List.getElem?_eq_getElem _
  have hx : (B.cells[j / p.sz]'(by rw [hle]; exact k1))[j % p.sz]? = some ((B.cells[j / p.sz]'(by rw [hle]; exact k1))[j % p.sz]'(by rw [h4 _ (List.getElem_mem _)]; exact k2)) := List.getElem?_eq_getElem _
  obtain ⟨u', hu', _, ho1⟩ := g3 _ _ _ _ hl hx
  rw [k3, hj] at hu'
  cases hu'
  exact ho1
theorem srcL_first {F : FMap} {L : LMap} {w : World} {sz : Nat} {ys : List (List LC)} {v : Value} (h : SrcL F L w sz ys v) : ∃ news : List Value, news.length = ys.length * sz ∧ (∃ a cp, v = .slice a ys.length cp) ∧
    (∀ w' : World, w'.heap = w.heap → (Builtin.firstCells sz ys.length v).run P w' = .ok ⟨news⟩ w') ∧ (∀ u ∈ news, u.oneCell' = true) ∧
    (∀ (i j : Nat) (el : List LC) (x : LC), ys[i]? = some el → el[j]? = some x → ∃ u, news[i * sz + j]? = some u ∧ RL F L x u) := by
  rcases h with ⟨rfl, a, cp, rfl⟩ | ⟨b, o, cp, vs, rfl, h2, h3, h4⟩
  · refine ⟨[], by simp, ⟨a, cp, rfl⟩, ?_, by simp, by simp⟩
    intro w' _
    cases a <;> simp [Builtin.firstCells, loadCells, loadCellsFrom]
  · refine ⟨vs, h2, ⟨_, _, rfl⟩, ?_, ?_, h4⟩
    · intro w' hw
      exact run_firstCells_some (P := P) w' sz ys.length ⟨b, o, none⟩ ys.length cp vs h2 (fun j u hj => by
        rw [add_off]
        have := (h3 j u hj).1
        simp only [World.cell?] at this ⊢
        rw [hw]; exact this)
    · intro u hu
      obtain ⟨j, hj⟩ := List.getElem?_of_mem hu
      exact (h3 j u hj).2
theorem RL_drop {F : FMap} {L : LMap} {id : Nat} {x : LC} {u : Value} (hn : x.noRef id = true) (h : RL F L x u) : RL F (updL L id none) x u := by
  have hne : ∀ i, (!Nat.beq i id) = true → i ≠ id := by
    intro i hb e
    subst e
    simp at hb
  cases x with
  | g v => exact h
  | junk => trivial
  | osl i o l => obtain ⟨p, hp, hr⟩ := h; exact ⟨p, by rw [updL_ne i (hne i hn)]; exact hp, hr⟩
  | optr i e o => obtain ⟨p, b, hp, hr⟩ := h; exact ⟨p, b, by rw [updL_ne i (hne i hn)]; exact hp, hr⟩

/-- The state after an append, of own content, to an own slice. -/
theorem SimFL.appL {s : St} {a : Act} {w : World} {F : FMap} {L : LMap} (h : SimFL P c s a w F L) {t ty e : TypeId} {sz id len fz m : Nat} {B : Cont} {D : List (List LC)} [ht : TSlice P t e] [hz : TApp P e sz] (hid : id < c.n) (ho : lookO s.objs id = some ⟨e, fz, B⟩)
    {v x : Value} (hv : RP F L (.c (.osl id 0 len)) v) (hx : SrcL F L w sz D x) (hys : ∀ l ∈ D, l.length = sz) (hm : D.length = m) (hmp : 0 < m) (hle : B.cells.length = len) (hfz : fz ≤ len) (hsmall : len + m ≤ 2147483648)
    (hnB : ∀ el ∈ B.cells, ∀ x ∈ el, x.noRef id = true) (hnD : ∀ el ∈ D, ∀ x ∈ el, x.noRef id = true) :
    ∃ v' w' L', (Builtin.append_ #[t, t] ty #[v, x]).run P w = .ok v' w' ∧ SimFL P c ⟨.kill id :: s.regs, .set id ⟨e, fz, .loc (B.cells ++ D)⟩ :: .free id :: s.objs⟩ a w' F L' ∧ RP F L' (.c (.osl id 0 (len + m))) v' := by
  subst hm
  obtain ⟨i, z, zs, i1, i2, i3, i4, i5, i6, i7⟩ := hz.h
  have hsrc := src_ownL ⟨i, i1, i5⟩ hv (h.ob id _ ho) hle
  obtain ⟨news, n1, ⟨xa, xc, n2⟩, n3, n4, n5⟩ := srcL_first (P := P) hx
  have hv2 := hv
  simp only [RP, RL] at hv2
  obtain ⟨p, hp, hcap, hcase⟩ := hv2
  have hpsz : p.sz = sz := by
    obtain ⟨p', hp', _, ⟨i', hi', hs'⟩, _⟩ := h.ob id _ ho
    rw [hp] at hp'
    cases hp'
    simp only at hi'
    rw [i1] at hi'
    cases hi'
    omega
  have hess : ∀ l ∈ B.cells, l.length = sz := by
    obtain ⟨p', hp', _, _, h4, _⟩ := h.ob id _ ho
    rw [hp] at hp'
    cases hp'
    intro l hl
    rw [h4 l hl, hpsz]
  have hcellsz : ∀ el ∈ (Cont.loc (B.cells ++ D)).cells, el.length = sz := by
    intro el hel
    rcases List.mem_append.1 hel with h | h
    · exact hess el h
    · exact hys el h
  have hcelllen : (Cont.loc (B.cells ++ D)).cells.length = len + D.length := by show (B.cells ++ D).length = _; rw [List.length_append, hle]
  have hF := h.free id hid
  have hnone : updL L id none id = none := updL_same _ _ _
  have content : ∀ {row : List Value} {q : Nat} {cur' : Array Value}, (∀ (i j : Nat) (l : List LC) (x : LC), (B.cells ++ D)[i]? = some l → l[j]? = some x → ∃ u, row[i * sz + j]? = some u ∧ RL F (updL L id none) x u ∧ u.oneCell' = true) → (∀ k u, row[k]? = some u → cur'[q + k]? = some u) →
      ∀ (i j : Nat) (el : List LC) (x : LC), (Cont.loc (B.cells ++ D)).cells[i]? = some el → el[j]? = some x → ∃ v, cur'[q + i * sz + j]? = some v ∧ v.oneCell' = true ∧ RL F (updL L id none) x v := by
    intro row q cur' h1 h2 i j el x hel hx
    obtain ⟨u, hu, hr, h1'⟩ := h1 i j el x hel hx
    exact ⟨u, by rw [Nat.add_assoc]; exact h2 _ _ hu, h1', hr⟩
  obtain ⟨olds, o1, ⟨oa, oc, o2⟩, o3, o4, o5⟩ := srcL_first (P := P) hsrc
  have both := zipped (sz := sz) (R := fun x u => RL F (updL L id none) x u ∧ u.oneCell' = true) (by rw [o1]) hess hys
    (fun i j l x hl hx => by obtain ⟨u, hu, hr⟩ := o5 i j l x hl hx; exact ⟨u, hu, RL_drop (hnB l (List.mem_of_getElem? hl) x (List.mem_of_getElem? hx)) hr, o4 u (List.mem_of_getElem? hu)⟩)
    (fun i j l x hl hx => by obtain ⟨u, hu, hr⟩ := n5 i j l x hl hx; exact ⟨u, hu, RL_drop (hnD l (List.mem_of_getElem? hl) x (List.mem_of_getElem? hx)) hr, n4 u (List.mem_of_getElem? hu)⟩)
  rw [hle] at o1 o2 o3
  have rowlen : (olds ++ news).length = (len + D.length) * sz := by rw [List.length_append, o1, n1, Nat.add_mul]
  -- a new block
  have grown : ∀ cp, cp < len + D.length → SimFL P c ⟨.kill id :: s.regs, .set id ⟨e, fz, .loc (B.cells ++ D)⟩ :: .free id :: s.objs⟩ a
      (w.drew.alloc (.cells ((olds ++ news).toArray ++ Builtin.zeroCells z.cells (grownCap w (len + D.length) cp e - (len + D.length))) e)) F (updL (updL L id none) id (some ⟨some w.heap.size, 0, grownCap w (len + D.length) cp e, sz, 0⟩)) := by
    intro cp _
    have hge := grownCap_ge w (len + D.length) cp e
    have hmx := grownCap_le_maxLen w (len + D.length) cp e (by simp only [maxLen]; omega)
    have hg : SimFL P c _ a (w.drew.alloc (.cells ((olds ++ news).toArray ++ Builtin.zeroCells z.cells (grownCap w (len + D.length) cp e - (len + D.length))) e)) F _ := hF.grow rfl rfl rfl (by simp) (fun k hk => heap_alloc_old _ _ hk)
    refine hg.adopt hid (by simp [freeO]) _ ⟨some w.heap.size, 0, grownCap w (len + D.length) cp e, sz, 0⟩ (Nat.zero_le _) ⟨i, i1, i5⟩ hcellsz (by rw [hcelllen]; exact hge) hmx (.inr ⟨w.heap.size, _, rfl, heap_alloc_new w.drew _, ?_, .inl h.fr.size, fun o _ => h.ag.none_new (Nat.le_refl _) o, ?_, content both ?_⟩)
    · simp only [Array.size_append, List.size_toArray, rowlen, Builtin.zeroCells, Array.size_map, Array.size_range, i3, i4]
      have : (len + D.length) * sz + (grownCap w (len + D.length) cp e - (len + D.length)) * sz = grownCap w (len + D.length) cp e * sz := by rw [← Nat.add_mul]; congr 1; omega
      omega
    · intro j q hq hb
      unfold updL at hq
      split at hq
      · cases hq
      · have := (h.lk.own j q _ hq hb).2
        omega
    · intro k u hu
      rw [Nat.zero_add, Array.getElem?_append_left (by simp only [List.size_toArray]; exact (List.getElem?_eq_some_iff.1 hu).1)]
      simpa using hu
  have header : ∀ cp, cp < len + D.length → RP F (updL (updL L id none) id (some ⟨some w.heap.size, 0, grownCap w (len + D.length) cp e, sz, 0⟩)) (.c (.osl id 0 (len + D.length))) (.slice (some ⟨w.heap.size, 0, none⟩) (len + D.length) (grownCap w (len + D.length) cp e)) := by
    intro cp _
    exact ⟨_, updL_same _ _ _, by simpa using grownCap_ge w (len + D.length) cp e, .inr ⟨w.heap.size, 0, rfl, by simp, fun _ => by simp⟩⟩
  rcases hcase with ⟨hbn, rfl, hoff, hlen⟩ | ⟨b, o', hb, rfl, ho'⟩
  · -- nil
    subst hlen
    have hr := run_app_new (P := P) (w := w) (ty := ty) ht.h i1 i2 (a1 := none) (len := 0) (cp := 0) n2 (olds := olds) (news := news) (by
      have := o3 w.drew rfl
      rw [← i5] at this
      simpa using this) (by rw [i5]; exact n3 w.drew rfl) (by omega) hsmall i7
    exact ⟨_, _, _, hr, grown 0 (by omega), header 0 (by omega)⟩
  · by_cases hroom : len + D.length ≤ p.cap - 0
    · -- in place
      obtain ⟨p', q1, q2, q3, q4, q5, q6, q7⟩ := h.ob id _ ho
      rw [hp] at q1
      cases q1
      rcases q7 with ⟨q7, _⟩ | ⟨b', cur, q7, q8, q9, q10⟩
      · rw [hb] at q7; cases q7
      rw [hb] at q7
      cases q7
      have hoo : o' = p.o + 0 * p.sz := ho' (by omega)
      rw [hpsz] at hoo q9 q10
      have hsub : (p.cap - 0) * sz = p.cap * sz := by rw [Nat.sub_zero]
      have hneed : (len + D.length) * sz ≤ (p.cap - 0) * sz := Nat.mul_le_mul_right _ hroom
      rw [Nat.add_mul, Nat.sub_zero] at hneed
      have hr := run_app_in (P := P) (w := w) (ty := ty) ht.h i1 (b := b) (o := o') (len := len) (cp := p.cap - 0) n2 (news := news) (by rw [i5]; exact n3 w rfl) q8 hroom (by rw [i5, n1]; omega) n4
      rw [i5] at hr
      generalize hcur' : (patch cur.toList (o' + len * sz) news).toArray = cur' at hr
      have hat : ∀ k, cur'[k]? = if o' + len * sz ≤ k ∧ k < o' + len * sz + news.length then news[k - (o' + len * sz)]? else cur[k]? := by
        intro k
        rw [← hcur', List.getElem?_toArray, patch_at (by simp only [Array.length_toList]; rw [n1]; omega)]
        simp
      have hsize : cur'.size = cur.size := by rw [← hcur', List.size_toArray, patch_len (by simp only [Array.length_toList]; rw [n1]; omega)]; simp
      simp only at q2
      have hfzmul : p.fz * sz ≤ len * sz := Nat.mul_le_mul_right _ (by omega)
      have hbno : ∀ j q, updL L id none j = some q → q.blk ≠ some b := by
        intro j q hq hbq
        unfold updL at hq
        split at hq
        · cases hq
        · rename_i hj
          exact hj (h.lk.inj j id q p b hq hp hbq hb)
      have hpk := hF.poke (cur' := cur') q8 (h.lk.own id p b hp hb).1 hbno (by
        intro k u hu
        rw [hat, if_neg]
        rintro ⟨g1, g2⟩
        rw [h.lk.free id p b k hp hb (by rw [hpsz]; omega)] at hu
        cases hu)
      refine ⟨_, _, updL (updL L id none) id (some ⟨some b, o', p.cap - 0, sz, p.fz⟩), hr, hpk.adopt hid (by simp [freeO]) _ ⟨some b, o', p.cap - 0, sz, p.fz⟩ q2 ⟨i, i1, i5⟩ hcellsz (by rw [hcelllen]; exact hroom) (by simp only; omega) (.inr ⟨b, cur', rfl, heap_setRow_same q8, by rw [hsize]; simp only; omega, (h.lk.own id p b hp hb).1, ?_, hbno, content both ?_⟩),
        ⟨_, updL_same _ _ _, by simpa using hroom, .inr ⟨b, o', rfl, by simp, fun _ => by simp⟩⟩⟩
      · intro k hk
        refine h.lk.free id p b k hp hb ?_
        rw [hpsz]
        simp only at hk
        omega
      · intro k u hu
        show cur'[o' + k]? = some u
        by_cases hk : k < olds.length
        · rw [List.getElem?_append_left hk] at hu
          rw [hat, if_neg (by rw [o1] at hk; omega)]
          have hBr : ∃ u2, cur[o' + k]? = some u2 ∧ olds[k]? = some u2 := by
            have hcell := o3 w rfl
            rw [o1] at hk
            obtain ⟨k1, k2, k3⟩ := two_at hk
            rcases hsrc with ⟨hnil, _⟩ | ⟨b2, o2', cp2, vs2, hv2, e2, e3, e4⟩
            · exfalso
              rw [hnil] at hle
              have hl0 : len = 0 := hle.symm
              rw [hl0] at k1
              exact Nat.not_lt_zero _ k1
            · rw [hle] at e2
              have hfc := run_firstCells_some (P := P) w sz len ⟨b, o', none⟩ len (p.cap - 0) vs2 e2 (fun j u hj => by
                rw [add_off]
                simp only [Value.slice.injEq, Option.some.injEq, Addr.mk.injEq, and_true] at hv2
                rw [hv2.1.1, hv2.1.2]
                exact (e3 j u hj).1)
              rw [hfc] at hcell
              simp only [Result.ok.injEq, and_true] at hcell
              have hvo : vs2 = olds := by simpa using congrArg Array.toList hcell
              subst hvo
              have := (e3 k u hu).1
              simp only [Value.slice.injEq, Option.some.injEq, Addr.mk.injEq, and_true] at hv2
              rw [← hv2.1.1, ← hv2.1.2, cell_of_row w b _ cur _ _ q8] at this
              exact ⟨u, this, hu⟩
          obtain ⟨u2, g1, g2⟩ := hBr
          rw [hu] at g2
          cases g2
          exact g1
        · rw [List.getElem?_append_right (by omega)] at hu
          have hk2 := (List.getElem?_eq_some_iff.1 hu).1
          rw [hat, if_pos (by rw [o1] at hk hk2; omega), ← hu]
          congr 1
          rw [o1]
          omega
    · -- grows
      have hr := run_app_new (P := P) (w := w) (ty := ty) ht.h i1 i2 (a1 := some ⟨b, o', none⟩) (len := len) (cp := p.cap - 0) n2 (olds := olds) (news := news) (by
        have := o3 w.drew rfl
        rw [i5]
        exact this) (by rw [i5]; exact n3 w.drew rfl) (by omega) hsmall i7
      exact ⟨_, _, _, hr, grown _ (by omega), header _ (by omega)⟩

/-- 'append', of an own slice of any content, to another. -/
theorem S_appL {r : List REv} {o : List OEv} {d : Nat} {x y : Operand} {t e ty : TypeId} {pos : String} {af : Array Edge} {id len fz id2 m fz2 sz : Nat} {B D : Cont} [ht : TSlice P t e] [hz : TApp P e sz]
    (hx : ev r x = some (.c (.osl id 0 len))) (hid : Nat.blt id c.n = true) (ho : lookO o id = some ⟨e, fz, B⟩) (hy : ev r y = some (.c (.osl id2 0 m))) (ho2 : lookO o id2 = some ⟨e, fz2, D⟩)
    (hle : B.cells.length = len) (hm : D.cells.length = m) (hmp : 0 < m) (hfz : fz ≤ len) (hsmall : len + m ≤ 2147483648) (hnB : ∀ el ∈ B.cells, ∀ x ∈ el, x.noRef id = true) (hnD : ∀ el ∈ D.cells, ∀ x ∈ el, x.noRef id = true) (hd : Nat.blt d c.n = true) :
    Op1 P c ops (some d) (.call { callee := .builtin .append, args := #[x, y], argTypes := #[t, t] }) ty pos af ⟨r, o⟩ ⟨[(x, .c (.osl id 0 len)), (y, .c (.osl id2 0 m))].flatMap rdx, [(id, ⟨e, fz, B⟩), (id2, ⟨e, fz2, D⟩)], [.set d (.c (.osl id 0 (len + m))), .kill id], [.set id ⟨e, fz, .loc (B.cells ++ D.cells)⟩, .free id]⟩ := by
  have hxs : ∀ p ∈ [(x, PV.c (.osl id 0 len)), (y, PV.c (.osl id2 0 m))], ev r p.1 = some p.2 := by simpa using ⟨hx, hy⟩
  refine ⟨?_, holds_of hxs (by simpa using ⟨ho, ho2⟩)⟩
  rintro ⟨r', o'⟩ a w hh ⟨F, L, hsim⟩
  rw [if_pos (by simp [Region.wanted])]
  have hx' := ev_of_holds hxs hh
  have e1 := ev_ok hsim.rg (hx' (x, .c (.osl id 0 len)) (by simp))
  have e2 := ev_ok hsim.rg (hx' (y, .c (.osl id2 0 m)) (by simp))
  obtain ⟨i, z, zs, i1, i2, i3, i4, i5, i6, i7⟩ := hz.h
  have hob2 := hsim.ob id2 _ (hh.2 (id2, ⟨e, fz2, D⟩) (by simp))
  have hsrc := src_ownL ⟨i, i1, i5⟩ e2 hob2 hm
  have hDs : ∀ l ∈ D.cells, l.length = sz := by
    obtain ⟨p', hp', _, ⟨i', hi', hs'⟩, h4, _⟩ := hob2
    intro l hl
    simp only at hi'
    rw [i1] at hi'
    cases hi'
    rw [h4 l hl, ← hs', i5]
  obtain ⟨v', w', L', hr, hsim', hv'⟩ := hsim.appL (t := t) (ty := ty) (Nat.blt_lt hid) (hh.2 (id, ⟨e, fz, B⟩) (by simp)) e1 hsrc hDs hm hmp hle hfz hsmall hnB hnD
  unfold Oper.wp
  simp only at hr
  simp only [execOp, resolve, invoke, builtin, Sem.run_bind, Sem.run_pure, Result.andThen_ok, List.map_toArray, List.map_cons, List.map_nil, hr]
  exact ⟨F, L', hsim'.set (Nat.blt_lt hd) hv'⟩
end

section
variable {P : Program} {c : Ctx} {Q : Exit → St → Prop} {s : St}
/-- An own slice whose header lies in another own piece stands still from now on. -/
theorem PW_frzC {code : Code} (i id : Nat) {el j off k fz fz2 : Nat} {e e2 : TypeId} {es : List (List GV)} {B : Cont} {cs : List LC} (B' : Cont) (hi : lookO s.objs i = some ⟨e2, fz2, B⟩) (hc : B.cells[el]? = some cs) (hx : cs[j]? = some (.osl id off k))
    (hlo : lookO s.objs id = some ⟨e, fz, .gnd es⟩) (hne : Nat.beq id i = false) (hb : off + k ≤ es.length) (hid : Nat.blt id c.n = true) (hB : B'.cells = B.cells.set el (cs.set j (.g (.sl ((es.drop off).take k)))))
    (hnr : ∀ a b r y, B.cells[a]? = some r → r[b]? = some y → (a = el ∧ b = j) ∨ y.noRef id = true)
    (h : PW P c code Q ⟨.kill id :: s.regs, .set i ⟨e2, fz2, B'⟩ :: .free id :: s.objs⟩) : PW P c code Q s := by
  rintro a w ⟨F, L, hs⟩
  have hst := hs.still (Nat.blt_lt hid)
  have hii : i ≠ id := by rintro rfl; simp at hne
  have hobj := hs.ob i _ hi
  refine h a w ⟨_, _, { hst with ob := ?_, fe := ?_ }⟩
  · intro i' ob' hl
    simp only [lookO] at hl
    cases hbq : Nat.beq i i' with
    | false =>
      rw [hbq] at hl
      exact hst.ob i' ob' hl
    | true =>
      rw [hbq] at hl
      cases hl
      rw [← beq_of hbq]
      obtain ⟨p, q1, q2, q3, q4, q5, q6, q7⟩ := hobj
      have hlen : B'.cells.length = B.cells.length := by rw [hB, List.length_set]
      refine ⟨p, by rw [updL_ne i hii]; exact q1, q2, q3, ?_, by simp only at q5 ⊢; omega, q6, ?_⟩
      · intro l hl
        simp only [hB] at hl
        rcases List.mem_or_eq_of_mem_set hl with hl | rfl
        · exact q4 l hl
        · rw [List.length_set]; exact q4 cs (List.mem_of_getElem? hc)
      · rcases q7 with ⟨q7, q8⟩ | ⟨b, cur, g1, g2, g3, g4⟩
        · simp only at q8
          rw [q8] at hc
          simp at hc
        · refine .inr ⟨b, cur, g1, g2, g3, ?_⟩
          intro a' b' l y hl hy
          simp only [hB] at hl
          have keep : ∀ (r : List LC) (y : LC), B.cells[a']? = some r → r[b']? = some y → y.noRef id = true → ∃ v, cur[p.o + a' * p.sz + b']? = some v ∧ v.oneCell' = true ∧ RL (frz (· = id) F L w) (updL L id none) y v := by
            intro r y hr hy hn
            obtain ⟨v, v1, v2, v3⟩ := g4 a' b' r y hr hy
            refine ⟨v, v1, v2, RL_drop hn ?_⟩
            cases y with
            | g v => exact RG.mono (fun b o v => frz_ext b o v) v3
            | junk => trivial
            | osl i o l => exact v3
            | optr i e o => exact v3
          rw [List.getElem?_set] at hl
          by_cases ha : el = a'
          · subst ha
            rw [if_pos rfl, if_pos (List.getElem?_eq_some_iff.1 hc).1] at hl
            cases hl
            rw [List.getElem?_set] at hy
            by_cases hb' : j = b'
            · subst hb'
              rw [if_pos rfl, if_pos (List.getElem?_eq_some_iff.1 hx).1] at hy
              cases hy
              obtain ⟨v, v1, v2, v3⟩ := g4 el j cs _ hc hx
              exact ⟨v, v1, v2, rg_bor hs (Z := (· = id)) rfl hlo hb v3⟩
            · rw [if_neg hb'] at hy
              rcases hnr el b' cs y hc hy with ⟨_, h2⟩ | hn
              · exact absurd h2.symm hb'
              · exact keep cs y hc hy hn
          · rw [if_neg ha] at hl
            rcases hnr a' b' l y hl hy with ⟨h1, _⟩ | hn
            · exact absurd h1.symm ha
            · exact keep l y hl hy hn
  · intro i' hf
    simp only [freeO] at hf
    cases hbq : Nat.beq i i' with
    | false => rw [hbq] at hf; exact hst.fe i' hf
    | true => rw [hbq] at hf; cases hf
end
end Go.Pu
namespace Go.Proofs.Ytdmlfhmnlddooaa
open Go Go.Pu
noncomputable abbrev P : Program := Go.Proofs.Try.prog
/- 1: func() -/
instance : TSz P 1 1 := tsz_of (by kernel_rfl)
instance : TOne P 1 := tone_of (by kernel_rfl)
/- 2: int64 -/
instance : TSz P 2 1 := tsz_of (by kernel_rfl)
instance : TOne P 2 := tone_of (by kernel_rfl)
instance : TInt P 2 .i64 := ⟨by kernel_rfl⟩
instance : TZero P 2 [.int .i64 0] := tzero_of (i := Go.Proofs.Try.t2) (by kernel_rfl) (by kernel_rfl) (by kernel_rfl) (by kernel_rfl)
instance : TApp P 2 1 := tapp_of (i := Go.Proofs.Try.t2) (by kernel_rfl) (by kernel_rfl) (by kernel_rfl) (by kernel_rfl) (by kernel_rfl)
/- 3: int -/
instance : TSz P 3 1 := tsz_of (by kernel_rfl)
instance : TOne P 3 := tone_of (by kernel_rfl)
instance : TInt P 3 .i64 := ⟨by kernel_rfl⟩
instance : TZero P 3 [.int .i64 0] := tzero_of (i := Go.Proofs.Try.t3) (by kernel_rfl) (by kernel_rfl) (by kernel_rfl) (by kernel_rfl)
instance : TApp P 3 1 := tapp_of (i := Go.Proofs.Try.t3) (by kernel_rfl) (by kernel_rfl) (by kernel_rfl) (by kernel_rfl) (by kernel_rfl)
/- 4: bool -/
instance : TSz P 4 1 := tsz_of (by kernel_rfl)
instance : TOne P 4 := tone_of (by kernel_rfl)
instance : TBool P 4 := ⟨by kernel_rfl⟩
instance : TZero P 4 [.bool false] := tzero_of (i := Go.Proofs.Try.t4) (by kernel_rfl) (by kernel_rfl) (by kernel_rfl) (by kernel_rfl)
instance : TApp P 4 1 := tapp_of (i := Go.Proofs.Try.t4) (by kernel_rfl) (by kernel_rfl) (by kernel_rfl) (by kernel_rfl) (by kernel_rfl)
/- 5: uint8 -/
instance : TSz P 5 1 := tsz_of (by kernel_rfl)
instance : TOne P 5 := tone_of (by kernel_rfl)
instance : TInt P 5 .u8 := ⟨by kernel_rfl⟩
instance : TZero P 5 [.int .u8 0] := tzero_of (i := Go.Proofs.Try.t5) (by kernel_rfl) (by kernel_rfl) (by kernel_rfl) (by kernel_rfl)
instance : TApp P 5 1 := tapp_of (i := Go.Proofs.Try.t5) (by kernel_rfl) (by kernel_rfl) (by kernel_rfl) (by kernel_rfl) (by kernel_rfl)
/- 9: string -/
instance : TSz P 9 1 := tsz_of (by kernel_rfl)
instance : TOne P 9 := tone_of (by kernel_rfl)
instance : TStr P 9 := ⟨by kernel_rfl⟩
instance : TZero P 9 [.str []] := tzero_of (i := Go.Proofs.Try.t9) (by kernel_rfl) (by kernel_rfl) (by kernel_rfl) (by kernel_rfl)
instance : TApp P 9 1 := tapp_of (i := Go.Proofs.Try.t9) (by kernel_rfl) (by kernel_rfl) (by kernel_rfl) (by kernel_rfl) (by kernel_rfl)
/- 12: uintptr -/
instance : TSz P 12 1 := tsz_of (by kernel_rfl)
instance : TOne P 12 := tone_of (by kernel_rfl)
instance : TInt P 12 .u64 := ⟨by kernel_rfl⟩
instance : TZero P 12 [.int .u64 0] := tzero_of (i := Go.Proofs.Try.t12) (by kernel_rfl) (by kernel_rfl) (by kernel_rfl) (by kernel_rfl)
instance : TApp P 12 1 := tapp_of (i := Go.Proofs.Try.t12) (by kernel_rfl) (by kernel_rfl) (by kernel_rfl) (by kernel_rfl) (by kernel_rfl)
/- 13: struct { msg string; addr uintptr } -/
instance : TSz P 13 2 := tsz_of (by kernel_rfl)
instance : TAgg P 13 := tagg_of (by kernel_rfl)
instance : TField P 13 0 0 9 := tfield_of (by kernel_rfl)
instance : TField P 13 1 1 12 := tfield_of (by kernel_rfl)
instance : TStruct P 13 [(0, 1), (1, 1)] := tstruct_of (by kernel_rfl)
instance : TZero P 13 [.str [], .int .u64 0] := tzero_of (i := Go.Proofs.Try.t13) (by kernel_rfl) (by kernel_rfl) (by kernel_rfl) (by kernel_rfl)
instance : TApp P 13 2 := tapp_of (i := Go.Proofs.Try.t13) (by kernel_rfl) (by kernel_rfl) (by kernel_rfl) (by kernel_rfl) (by kernel_rfl)
/- 21: int32 -/
instance : TSz P 21 1 := tsz_of (by kernel_rfl)
instance : TOne P 21 := tone_of (by kernel_rfl)
instance : TInt P 21 .i32 := ⟨by kernel_rfl⟩
instance : TZero P 21 [.int .i32 0] := tzero_of (i := Go.Proofs.Try.t21) (by kernel_rfl) (by kernel_rfl) (by kernel_rfl) (by kernel_rfl)
instance : TApp P 21 1 := tapp_of (i := Go.Proofs.Try.t21) (by kernel_rfl) (by kernel_rfl) (by kernel_rfl) (by kernel_rfl) (by kernel_rfl)
/- 22: []uint8 -/
instance : TSz P 22 1 := tsz_of (by kernel_rfl)
instance : TOne P 22 := tone_of (by kernel_rfl)
instance : TSlice P 22 5 := ⟨by kernel_rfl⟩
instance : TZero P 22 [.nil] := tzero_of (i := Go.Proofs.Try.t22) (by kernel_rfl) (by kernel_rfl) (by kernel_rfl) (by kernel_rfl)
instance : TApp P 22 1 := tapp_of (i := Go.Proofs.Try.t22) (by kernel_rfl) (by kernel_rfl) (by kernel_rfl) (by kernel_rfl) (by kernel_rfl)
/- 23: []impl.Pane -/
instance : TSz P 23 1 := tsz_of (by kernel_rfl)
instance : TOne P 23 := tone_of (by kernel_rfl)
instance : TSlice P 23 82 := ⟨by kernel_rfl⟩
instance : TZero P 23 [.nil] := tzero_of (i := Go.Proofs.Try.t23) (by kernel_rfl) (by kernel_rfl) (by kernel_rfl) (by kernel_rfl)
instance : TApp P 23 1 := tapp_of (i := Go.Proofs.Try.t23) (by kernel_rfl) (by kernel_rfl) (by kernel_rfl) (by kernel_rfl) (by kernel_rfl)
/- 24: struct { W int; H int; Panes []impl.Pane } -/
instance : TSz P 24 3 := tsz_of (by kernel_rfl)
instance : TAgg P 24 := tagg_of (by kernel_rfl)
instance : TField P 24 0 0 3 := tfield_of (by kernel_rfl)
instance : TField P 24 1 1 3 := tfield_of (by kernel_rfl)
instance : TField P 24 2 2 23 := tfield_of (by kernel_rfl)
instance : TStruct P 24 [(0, 1), (1, 1), (2, 1)] := tstruct_of (by kernel_rfl)
instance : TZero P 24 [.int .i64 0, .int .i64 0, .nil] := tzero_of (i := Go.Proofs.Try.t24) (by kernel_rfl) (by kernel_rfl) (by kernel_rfl) (by kernel_rfl)
instance : TApp P 24 3 := tapp_of (i := Go.Proofs.Try.t24) (by kernel_rfl) (by kernel_rfl) (by kernel_rfl) (by kernel_rfl) (by kernel_rfl)
/- 25: impl.Work -/
instance : TSz P 25 3 := tsz_of (by kernel_rfl)
instance : TAgg P 25 := tagg_of (by kernel_rfl)
instance : TField P 25 0 0 3 := tfield_of (by kernel_rfl)
instance : TField P 25 1 1 3 := tfield_of (by kernel_rfl)
instance : TField P 25 2 2 23 := tfield_of (by kernel_rfl)
instance : TStruct P 25 [(0, 1), (1, 1), (2, 1)] := tstruct_of (by kernel_rfl)
instance : TZero P 25 [.int .i64 0, .int .i64 0, .nil] := tzero_of (i := Go.Proofs.Try.t25) (by kernel_rfl) (by kernel_rfl) (by kernel_rfl) (by kernel_rfl)
instance : TApp P 25 3 := tapp_of (i := Go.Proofs.Try.t25) (by kernel_rfl) (by kernel_rfl) (by kernel_rfl) (by kernel_rfl) (by kernel_rfl)
/- 26: []int -/
instance : TSz P 26 1 := tsz_of (by kernel_rfl)
instance : TOne P 26 := tone_of (by kernel_rfl)
instance : TSlice P 26 3 := ⟨by kernel_rfl⟩
instance : TZero P 26 [.nil] := tzero_of (i := Go.Proofs.Try.t26) (by kernel_rfl) (by kernel_rfl) (by kernel_rfl) (by kernel_rfl)
instance : TApp P 26 1 := tapp_of (i := Go.Proofs.Try.t26) (by kernel_rfl) (by kernel_rfl) (by kernel_rfl) (by kernel_rfl) (by kernel_rfl)
/- 28: func([]uint8) (impl.Work, []int) -/
instance : TSz P 28 1 := tsz_of (by kernel_rfl)
instance : TOne P 28 := tone_of (by kernel_rfl)
/- 29: func(impl.Work, []int) int -/
instance : TSz P 29 1 := tsz_of (by kernel_rfl)
instance : TOne P 29 := tone_of (by kernel_rfl)
/- 30: []impl.Plan -/
instance : TSz P 30 1 := tsz_of (by kernel_rfl)
instance : TOne P 30 := tone_of (by kernel_rfl)
instance : TSlice P 30 34 := ⟨by kernel_rfl⟩
instance : TZero P 30 [.nil] := tzero_of (i := Go.Proofs.Try.t30) (by kernel_rfl) (by kernel_rfl) (by kernel_rfl) (by kernel_rfl)
instance : TApp P 30 1 := tapp_of (i := Go.Proofs.Try.t30) (by kernel_rfl) (by kernel_rfl) (by kernel_rfl) (by kernel_rfl) (by kernel_rfl)
/- 31: func(impl.Work) []impl.Plan -/
instance : TSz P 31 1 := tsz_of (by kernel_rfl)
instance : TOne P 31 := tone_of (by kernel_rfl)
/- 32: func(impl.Work, impl.Plan, []int) int -/
instance : TSz P 32 1 := tsz_of (by kernel_rfl)
instance : TOne P 32 := tone_of (by kernel_rfl)
/- 33: struct { Op int; At int; Pane int; Turned bool; Kids []impl.Plan } -/
instance : TSz P 33 5 := tsz_of (by kernel_rfl)
instance : TAgg P 33 := tagg_of (by kernel_rfl)
instance : TField P 33 0 0 3 := tfield_of (by kernel_rfl)
instance : TField P 33 1 1 3 := tfield_of (by kernel_rfl)
instance : TField P 33 2 2 3 := tfield_of (by kernel_rfl)
instance : TField P 33 3 3 4 := tfield_of (by kernel_rfl)
instance : TField P 33 4 4 30 := tfield_of (by kernel_rfl)
instance : TStruct P 33 [(0, 1), (1, 1), (2, 1), (3, 1), (4, 1)] := tstruct_of (by kernel_rfl)
instance : TZero P 33 [.int .i64 0, .int .i64 0, .int .i64 0, .bool false, .nil] := tzero_of (i := Go.Proofs.Try.t33) (by kernel_rfl) (by kernel_rfl) (by kernel_rfl) (by kernel_rfl)
instance : TApp P 33 5 := tapp_of (i := Go.Proofs.Try.t33) (by kernel_rfl) (by kernel_rfl) (by kernel_rfl) (by kernel_rfl) (by kernel_rfl)
/- 34: impl.Plan -/
instance : TSz P 34 5 := tsz_of (by kernel_rfl)
instance : TAgg P 34 := tagg_of (by kernel_rfl)
instance : TField P 34 0 0 3 := tfield_of (by kernel_rfl)
instance : TField P 34 1 1 3 := tfield_of (by kernel_rfl)
instance : TField P 34 2 2 3 := tfield_of (by kernel_rfl)
instance : TField P 34 3 3 4 := tfield_of (by kernel_rfl)
instance : TField P 34 4 4 30 := tfield_of (by kernel_rfl)
instance : TStruct P 34 [(0, 1), (1, 1), (2, 1), (3, 1), (4, 1)] := tstruct_of (by kernel_rfl)
instance : TZero P 34 [.int .i64 0, .int .i64 0, .int .i64 0, .bool false, .nil] := tzero_of (i := Go.Proofs.Try.t34) (by kernel_rfl) (by kernel_rfl) (by kernel_rfl) (by kernel_rfl)
instance : TApp P 34 5 := tapp_of (i := Go.Proofs.Try.t34) (by kernel_rfl) (by kernel_rfl) (by kernel_rfl) (by kernel_rfl) (by kernel_rfl)
/- 35: func([]uint8) bool -/
instance : TSz P 35 1 := tsz_of (by kernel_rfl)
instance : TOne P 35 := tone_of (by kernel_rfl)
/- 37: func([]uint8) (impl.Work, impl.Plan, []int) -/
instance : TSz P 37 1 := tsz_of (by kernel_rfl)
instance : TOne P 37 := tone_of (by kernel_rfl)
/- 38: []impl.Box -/
instance : TSz P 38 1 := tsz_of (by kernel_rfl)
instance : TOne P 38 := tone_of (by kernel_rfl)
instance : TSlice P 38 102 := ⟨by kernel_rfl⟩
instance : TZero P 38 [.nil] := tzero_of (i := Go.Proofs.Try.t38) (by kernel_rfl) (by kernel_rfl) (by kernel_rfl) (by kernel_rfl)
instance : TApp P 38 1 := tapp_of (i := Go.Proofs.Try.t38) (by kernel_rfl) (by kernel_rfl) (by kernel_rfl) (by kernel_rfl) (by kernel_rfl)
/- 40: func(impl.Work, impl.Plan, []int) ([]impl.Box, bool) -/
instance : TSz P 40 1 := tsz_of (by kernel_rfl)
instance : TOne P 40 := tone_of (by kernel_rfl)
/- 41: func([]impl.Box, []impl.Box) bool -/
instance : TSz P 41 1 := tsz_of (by kernel_rfl)
instance : TOne P 41 := tone_of (by kernel_rfl)
/- 42: func(impl.Plan, []int) bool -/
instance : TSz P 42 1 := tsz_of (by kernel_rfl)
instance : TOne P 42 := tone_of (by kernel_rfl)
/- 43: func(impl.Plan) int -/
instance : TSz P 43 1 := tsz_of (by kernel_rfl)
instance : TOne P 43 := tone_of (by kernel_rfl)
/- 44: func([]impl.Place) []impl.Box -/
instance : TSz P 44 1 := tsz_of (by kernel_rfl)
instance : TOne P 44 := tone_of (by kernel_rfl)
/- 45: []impl.Place -/
instance : TSz P 45 1 := tsz_of (by kernel_rfl)
instance : TOne P 45 := tone_of (by kernel_rfl)
instance : TSlice P 45 104 := ⟨by kernel_rfl⟩
instance : TZero P 45 [.nil] := tzero_of (i := Go.Proofs.Try.t45) (by kernel_rfl) (by kernel_rfl) (by kernel_rfl) (by kernel_rfl)
instance : TApp P 45 1 := tapp_of (i := Go.Proofs.Try.t45) (by kernel_rfl) (by kernel_rfl) (by kernel_rfl) (by kernel_rfl) (by kernel_rfl)
/- 46: func(impl.Work, impl.Plan) []impl.Place -/
instance : TSz P 46 1 := tsz_of (by kernel_rfl)
instance : TOne P 46 := tone_of (by kernel_rfl)
/- 47: func(impl.Work, impl.Plan) []impl.Box -/
instance : TSz P 47 1 := tsz_of (by kernel_rfl)
instance : TOne P 47 := tone_of (by kernel_rfl)
/- 48: func(impl.Plan) []int -/
instance : TSz P 48 1 := tsz_of (by kernel_rfl)
instance : TOne P 48 := tone_of (by kernel_rfl)
/- 49: []laws.Pane -/
instance : TSz P 49 1 := tsz_of (by kernel_rfl)
instance : TOne P 49 := tone_of (by kernel_rfl)
instance : TSlice P 49 167 := ⟨by kernel_rfl⟩
instance : TZero P 49 [.nil] := tzero_of (i := Go.Proofs.Try.t49) (by kernel_rfl) (by kernel_rfl) (by kernel_rfl) (by kernel_rfl)
instance : TApp P 49 1 := tapp_of (i := Go.Proofs.Try.t49) (by kernel_rfl) (by kernel_rfl) (by kernel_rfl) (by kernel_rfl) (by kernel_rfl)
/- 50: struct { W int; H int; Panes []laws.Pane } -/
instance : TSz P 50 3 := tsz_of (by kernel_rfl)
instance : TAgg P 50 := tagg_of (by kernel_rfl)
instance : TField P 50 0 0 3 := tfield_of (by kernel_rfl)
instance : TField P 50 1 1 3 := tfield_of (by kernel_rfl)
instance : TField P 50 2 2 49 := tfield_of (by kernel_rfl)
instance : TStruct P 50 [(0, 1), (1, 1), (2, 1)] := tstruct_of (by kernel_rfl)
instance : TZero P 50 [.int .i64 0, .int .i64 0, .nil] := tzero_of (i := Go.Proofs.Try.t50) (by kernel_rfl) (by kernel_rfl) (by kernel_rfl) (by kernel_rfl)
instance : TApp P 50 3 := tapp_of (i := Go.Proofs.Try.t50) (by kernel_rfl) (by kernel_rfl) (by kernel_rfl) (by kernel_rfl) (by kernel_rfl)
/- 51: laws.Work -/
instance : TSz P 51 3 := tsz_of (by kernel_rfl)
instance : TAgg P 51 := tagg_of (by kernel_rfl)
instance : TField P 51 0 0 3 := tfield_of (by kernel_rfl)
instance : TField P 51 1 1 3 := tfield_of (by kernel_rfl)
instance : TField P 51 2 2 49 := tfield_of (by kernel_rfl)
instance : TStruct P 51 [(0, 1), (1, 1), (2, 1)] := tstruct_of (by kernel_rfl)
instance : TZero P 51 [.int .i64 0, .int .i64 0, .nil] := tzero_of (i := Go.Proofs.Try.t51) (by kernel_rfl) (by kernel_rfl) (by kernel_rfl) (by kernel_rfl)
instance : TApp P 51 3 := tapp_of (i := Go.Proofs.Try.t51) (by kernel_rfl) (by kernel_rfl) (by kernel_rfl) (by kernel_rfl) (by kernel_rfl)
/- 52: []laws.Plan -/
instance : TSz P 52 1 := tsz_of (by kernel_rfl)
instance : TOne P 52 := tone_of (by kernel_rfl)
instance : TSlice P 52 54 := ⟨by kernel_rfl⟩
instance : TZero P 52 [.nil] := tzero_of (i := Go.Proofs.Try.t52) (by kernel_rfl) (by kernel_rfl) (by kernel_rfl) (by kernel_rfl)
instance : TApp P 52 1 := tapp_of (i := Go.Proofs.Try.t52) (by kernel_rfl) (by kernel_rfl) (by kernel_rfl) (by kernel_rfl) (by kernel_rfl)
/- 53: struct { Op int; At int; Pane int; Turned bool; Kids []laws.Plan } -/
instance : TSz P 53 5 := tsz_of (by kernel_rfl)
instance : TAgg P 53 := tagg_of (by kernel_rfl)
instance : TField P 53 0 0 3 := tfield_of (by kernel_rfl)
instance : TField P 53 1 1 3 := tfield_of (by kernel_rfl)
instance : TField P 53 2 2 3 := tfield_of (by kernel_rfl)
instance : TField P 53 3 3 4 := tfield_of (by kernel_rfl)
instance : TField P 53 4 4 52 := tfield_of (by kernel_rfl)
instance : TStruct P 53 [(0, 1), (1, 1), (2, 1), (3, 1), (4, 1)] := tstruct_of (by kernel_rfl)
instance : TZero P 53 [.int .i64 0, .int .i64 0, .int .i64 0, .bool false, .nil] := tzero_of (i := Go.Proofs.Try.t53) (by kernel_rfl) (by kernel_rfl) (by kernel_rfl) (by kernel_rfl)
instance : TApp P 53 5 := tapp_of (i := Go.Proofs.Try.t53) (by kernel_rfl) (by kernel_rfl) (by kernel_rfl) (by kernel_rfl) (by kernel_rfl)
/- 54: laws.Plan -/
instance : TSz P 54 5 := tsz_of (by kernel_rfl)
instance : TAgg P 54 := tagg_of (by kernel_rfl)
instance : TField P 54 0 0 3 := tfield_of (by kernel_rfl)
instance : TField P 54 1 1 3 := tfield_of (by kernel_rfl)
instance : TField P 54 2 2 3 := tfield_of (by kernel_rfl)
instance : TField P 54 3 3 4 := tfield_of (by kernel_rfl)
instance : TField P 54 4 4 52 := tfield_of (by kernel_rfl)
instance : TStruct P 54 [(0, 1), (1, 1), (2, 1), (3, 1), (4, 1)] := tstruct_of (by kernel_rfl)
instance : TZero P 54 [.int .i64 0, .int .i64 0, .int .i64 0, .bool false, .nil] := tzero_of (i := Go.Proofs.Try.t54) (by kernel_rfl) (by kernel_rfl) (by kernel_rfl) (by kernel_rfl)
instance : TApp P 54 5 := tapp_of (i := Go.Proofs.Try.t54) (by kernel_rfl) (by kernel_rfl) (by kernel_rfl) (by kernel_rfl) (by kernel_rfl)
/- 55: func(laws.Work, int) int -/
instance : TSz P 55 1 := tsz_of (by kernel_rfl)
instance : TOne P 55 := tone_of (by kernel_rfl)
/- 56: func(laws.Plan, int) int -/
instance : TSz P 56 1 := tsz_of (by kernel_rfl)
instance : TOne P 56 := tone_of (by kernel_rfl)
/- 57: func(laws.Work) impl.Work -/
instance : TSz P 57 1 := tsz_of (by kernel_rfl)
instance : TOne P 57 := tone_of (by kernel_rfl)
/- 58: func(laws.Plan) impl.Plan -/
instance : TSz P 58 1 := tsz_of (by kernel_rfl)
instance : TOne P 58 := tone_of (by kernel_rfl)
/- 59: func([]int) []int -/
instance : TSz P 59 1 := tsz_of (by kernel_rfl)
instance : TOne P 59 := tone_of (by kernel_rfl)
/- 60: func(impl.Work, impl.Work) bool -/
instance : TSz P 60 1 := tsz_of (by kernel_rfl)
instance : TOne P 60 := tone_of (by kernel_rfl)
/- 61: func(impl.Plan, impl.Plan) bool -/
instance : TSz P 61 1 := tsz_of (by kernel_rfl)
instance : TOne P 61 := tone_of (by kernel_rfl)
/- 62: func([]int, []int) bool -/
instance : TSz P 62 1 := tsz_of (by kernel_rfl)
instance : TOne P 62 := tone_of (by kernel_rfl)
/- 63: func(impl.Work, int) int -/
instance : TSz P 63 1 := tsz_of (by kernel_rfl)
instance : TOne P 63 := tone_of (by kernel_rfl)
/- 64: func(impl.Plan, int) int -/
instance : TSz P 64 1 := tsz_of (by kernel_rfl)
instance : TOne P 64 := tone_of (by kernel_rfl)
/- 65: func([]int, int) int -/
instance : TSz P 65 1 := tsz_of (by kernel_rfl)
instance : TOne P 65 := tone_of (by kernel_rfl)
/- 66: func([]impl.Box, int) int -/
instance : TSz P 66 1 := tsz_of (by kernel_rfl)
instance : TOne P 66 := tone_of (by kernel_rfl)
/- 67: func(laws.Work, laws.Plan, []int) bool -/
instance : TSz P 67 1 := tsz_of (by kernel_rfl)
instance : TOne P 67 := tone_of (by kernel_rfl)
/- 68: func([]uint8) []int -/
instance : TSz P 68 1 := tsz_of (by kernel_rfl)
instance : TOne P 68 := tone_of (by kernel_rfl)
/- 69: func([]int) bool -/
instance : TSz P 69 1 := tsz_of (by kernel_rfl)
instance : TOne P 69 := tone_of (by kernel_rfl)
/- 71: func([]int, []int) ([]int, bool) -/
instance : TSz P 71 1 := tsz_of (by kernel_rfl)
instance : TOne P 71 := tone_of (by kernel_rfl)
/- 72: func([]int) int -/
instance : TSz P 72 1 := tsz_of (by kernel_rfl)
instance : TOne P 72 := tone_of (by kernel_rfl)
/- 73: func([]int, []int) int -/
instance : TSz P 73 1 := tsz_of (by kernel_rfl)
instance : TOne P 73 := tone_of (by kernel_rfl)
/- 74: func([]int, int) []int -/
instance : TSz P 74 1 := tsz_of (by kernel_rfl)
instance : TOne P 74 := tone_of (by kernel_rfl)
/- 75: func([]uint8) impl.Work -/
instance : TSz P 75 1 := tsz_of (by kernel_rfl)
instance : TOne P 75 := tone_of (by kernel_rfl)
/- 76: func([]impl.Plan, []impl.Plan) bool -/
instance : TSz P 76 1 := tsz_of (by kernel_rfl)
instance : TOne P 76 := tone_of (by kernel_rfl)
/- 77: func([]impl.Box) int -/
instance : TSz P 77 1 := tsz_of (by kernel_rfl)
instance : TOne P 77 := tone_of (by kernel_rfl)
/- 79: func(impl.Work, []impl.Place) (impl.Plan, bool) -/
instance : TSz P 79 1 := tsz_of (by kernel_rfl)
instance : TOne P 79 := tone_of (by kernel_rfl)
/- 80: func(impl.Work, impl.Plan, impl.Plan) bool -/
instance : TSz P 80 1 := tsz_of (by kernel_rfl)
instance : TOne P 80 := tone_of (by kernel_rfl)
/- 81: struct { W int; H int; Turns bool; Kind int } -/
instance : TSz P 81 4 := tsz_of (by kernel_rfl)
instance : TAgg P 81 := tagg_of (by kernel_rfl)
instance : TField P 81 0 0 3 := tfield_of (by kernel_rfl)
instance : TField P 81 1 1 3 := tfield_of (by kernel_rfl)
instance : TField P 81 2 2 4 := tfield_of (by kernel_rfl)
instance : TField P 81 3 3 3 := tfield_of (by kernel_rfl)
instance : TStruct P 81 [(0, 1), (1, 1), (2, 1), (3, 1)] := tstruct_of (by kernel_rfl)
instance : TZero P 81 [.int .i64 0, .int .i64 0, .bool false, .int .i64 0] := tzero_of (i := Go.Proofs.Try.t81) (by kernel_rfl) (by kernel_rfl) (by kernel_rfl) (by kernel_rfl)
instance : TApp P 81 4 := tapp_of (i := Go.Proofs.Try.t81) (by kernel_rfl) (by kernel_rfl) (by kernel_rfl) (by kernel_rfl) (by kernel_rfl)
/- 82: impl.Pane -/
instance : TSz P 82 4 := tsz_of (by kernel_rfl)
instance : TAgg P 82 := tagg_of (by kernel_rfl)
instance : TField P 82 0 0 3 := tfield_of (by kernel_rfl)
instance : TField P 82 1 1 3 := tfield_of (by kernel_rfl)
instance : TField P 82 2 2 4 := tfield_of (by kernel_rfl)
instance : TField P 82 3 3 3 := tfield_of (by kernel_rfl)
instance : TStruct P 82 [(0, 1), (1, 1), (2, 1), (3, 1)] := tstruct_of (by kernel_rfl)
instance : TZero P 82 [.int .i64 0, .int .i64 0, .bool false, .int .i64 0] := tzero_of (i := Go.Proofs.Try.t82) (by kernel_rfl) (by kernel_rfl) (by kernel_rfl) (by kernel_rfl)
instance : TApp P 82 4 := tapp_of (i := Go.Proofs.Try.t82) (by kernel_rfl) (by kernel_rfl) (by kernel_rfl) (by kernel_rfl) (by kernel_rfl)
/- 83: func(impl.Work, []int) (impl.Plan, bool) -/
instance : TSz P 83 1 := tsz_of (by kernel_rfl)
instance : TOne P 83 := tone_of (by kernel_rfl)
/- 84: func(impl.Plan, []int) []int -/
instance : TSz P 84 1 := tsz_of (by kernel_rfl)
instance : TOne P 84 := tone_of (by kernel_rfl)
/- 85: *spec.reader -/
instance : TSz P 85 1 := tsz_of (by kernel_rfl)
instance : TOne P 85 := tone_of (by kernel_rfl)
/- 86: func([]uint8) *spec.reader -/
instance : TSz P 86 1 := tsz_of (by kernel_rfl)
instance : TOne P 86 := tone_of (by kernel_rfl)
/- 87: func(*spec.reader, bool) impl.Work -/
instance : TSz P 87 1 := tsz_of (by kernel_rfl)
instance : TOne P 87 := tone_of (by kernel_rfl)
/- 88: func(int) int -/
instance : TSz P 88 1 := tsz_of (by kernel_rfl)
instance : TOne P 88 := tone_of (by kernel_rfl)
/- 89: func(impl.Work, []int) bool -/
instance : TSz P 89 1 := tsz_of (by kernel_rfl)
instance : TOne P 89 := tone_of (by kernel_rfl)
/- 90: [17]int -/
instance : TSz P 90 17 := tsz_of (by kernel_rfl)
instance : TAgg P 90 := tagg_of (by kernel_rfl)
instance : TArr P 90 17 3 := ⟨by kernel_rfl⟩
instance : TZero P 90 [.int .i64 0, .int .i64 0, .int .i64 0, .int .i64 0, .int .i64 0, .int .i64 0, .int .i64 0, .int .i64 0, .int .i64 0, .int .i64 0, .int .i64 0, .int .i64 0, .int .i64 0, .int .i64 0, .int .i64 0, .int .i64 0, .int .i64 0] := tzero_of (i := Go.Proofs.Try.t90) (by kernel_rfl) (by kernel_rfl) (by kernel_rfl) (by kernel_rfl)
instance : TApp P 90 17 := tapp_of (i := Go.Proofs.Try.t90) (by kernel_rfl) (by kernel_rfl) (by kernel_rfl) (by kernel_rfl) (by kernel_rfl)
/- 91: [17][17]int -/
instance : TSz P 91 289 := tsz_of (by kernel_rfl)
instance : TAgg P 91 := tagg_of (by kernel_rfl)
instance : TArr P 91 17 90 := ⟨by kernel_rfl⟩
instance : TZero P 91 (List.replicate 289 (.int .i64 0)) := tzero_of (i := Go.Proofs.Try.t91) (by kernel_rfl) (by kernel_rfl) (by kernel_rfl) (by kernel_rfl)
instance : TApp P 91 289 := tapp_of (i := Go.Proofs.Try.t91) (by kernel_rfl) (by kernel_rfl) (by kernel_rfl) (by kernel_rfl) (by kernel_rfl)
/- 92: impl.valueTable -/
instance : TSz P 92 289 := tsz_of (by kernel_rfl)
instance : TAgg P 92 := tagg_of (by kernel_rfl)
instance : TArr P 92 17 90 := ⟨by kernel_rfl⟩
instance : TZero P 92 (List.replicate 289 (.int .i64 0)) := tzero_of (i := Go.Proofs.Try.t92) (by kernel_rfl) (by kernel_rfl) (by kernel_rfl) (by kernel_rfl)
instance : TApp P 92 289 := tapp_of (i := Go.Proofs.Try.t92) (by kernel_rfl) (by kernel_rfl) (by kernel_rfl) (by kernel_rfl) (by kernel_rfl)
/- 93: func(impl.Work, []int) impl.valueTable -/
instance : TSz P 93 1 := tsz_of (by kernel_rfl)
instance : TOne P 93 := tone_of (by kernel_rfl)
/- 94: [][]int -/
instance : TSz P 94 1 := tsz_of (by kernel_rfl)
instance : TOne P 94 := tone_of (by kernel_rfl)
instance : TSlice P 94 26 := ⟨by kernel_rfl⟩
instance : TZero P 94 [.nil] := tzero_of (i := Go.Proofs.Try.t94) (by kernel_rfl) (by kernel_rfl) (by kernel_rfl) (by kernel_rfl)
instance : TApp P 94 1 := tapp_of (i := Go.Proofs.Try.t94) (by kernel_rfl) (by kernel_rfl) (by kernel_rfl) (by kernel_rfl) (by kernel_rfl)
/- 95: func(impl.Work, []int) [][]int -/
instance : TSz P 95 1 := tsz_of (by kernel_rfl)
instance : TOne P 95 := tone_of (by kernel_rfl)
/- 96: func(impl.Work) bool -/
instance : TSz P 96 1 := tsz_of (by kernel_rfl)
instance : TOne P 96 := tone_of (by kernel_rfl)
/- 97: [][][]int -/
instance : TSz P 97 1 := tsz_of (by kernel_rfl)
instance : TOne P 97 := tone_of (by kernel_rfl)
instance : TSlice P 97 94 := ⟨by kernel_rfl⟩
instance : TZero P 97 [.nil] := tzero_of (i := Go.Proofs.Try.t97) (by kernel_rfl) (by kernel_rfl) (by kernel_rfl) (by kernel_rfl)
instance : TApp P 97 1 := tapp_of (i := Go.Proofs.Try.t97) (by kernel_rfl) (by kernel_rfl) (by kernel_rfl) (by kernel_rfl) (by kernel_rfl)
/- 98: func(impl.Work) [][][]int -/
instance : TSz P 98 1 := tsz_of (by kernel_rfl)
instance : TOne P 98 := tone_of (by kernel_rfl)
/- 99: func(impl.Work, [][]int, int) impl.Plan -/
instance : TSz P 99 1 := tsz_of (by kernel_rfl)
instance : TOne P 99 := tone_of (by kernel_rfl)
/- 100: func(impl.Work, impl.Plan) bool -/
instance : TSz P 100 1 := tsz_of (by kernel_rfl)
instance : TOne P 100 := tone_of (by kernel_rfl)
/- 101: struct { X int; Y int; W int; H int } -/
instance : TSz P 101 4 := tsz_of (by kernel_rfl)
instance : TAgg P 101 := tagg_of (by kernel_rfl)
instance : TField P 101 0 0 3 := tfield_of (by kernel_rfl)
instance : TField P 101 1 1 3 := tfield_of (by kernel_rfl)
instance : TField P 101 2 2 3 := tfield_of (by kernel_rfl)
instance : TField P 101 3 3 3 := tfield_of (by kernel_rfl)
instance : TStruct P 101 [(0, 1), (1, 1), (2, 1), (3, 1)] := tstruct_of (by kernel_rfl)
instance : TZero P 101 [.int .i64 0, .int .i64 0, .int .i64 0, .int .i64 0] := tzero_of (i := Go.Proofs.Try.t101) (by kernel_rfl) (by kernel_rfl) (by kernel_rfl) (by kernel_rfl)
instance : TApp P 101 4 := tapp_of (i := Go.Proofs.Try.t101) (by kernel_rfl) (by kernel_rfl) (by kernel_rfl) (by kernel_rfl) (by kernel_rfl)
/- 102: impl.Box -/
instance : TSz P 102 4 := tsz_of (by kernel_rfl)
instance : TAgg P 102 := tagg_of (by kernel_rfl)
instance : TField P 102 0 0 3 := tfield_of (by kernel_rfl)
instance : TField P 102 1 1 3 := tfield_of (by kernel_rfl)
instance : TField P 102 2 2 3 := tfield_of (by kernel_rfl)
instance : TField P 102 3 3 3 := tfield_of (by kernel_rfl)
instance : TStruct P 102 [(0, 1), (1, 1), (2, 1), (3, 1)] := tstruct_of (by kernel_rfl)
instance : TZero P 102 [.int .i64 0, .int .i64 0, .int .i64 0, .int .i64 0] := tzero_of (i := Go.Proofs.Try.t102) (by kernel_rfl) (by kernel_rfl) (by kernel_rfl) (by kernel_rfl)
instance : TApp P 102 4 := tapp_of (i := Go.Proofs.Try.t102) (by kernel_rfl) (by kernel_rfl) (by kernel_rfl) (by kernel_rfl) (by kernel_rfl)
/- 103: struct { Pane int; Turned bool; Box impl.Box } -/
instance : TSz P 103 6 := tsz_of (by kernel_rfl)
instance : TAgg P 103 := tagg_of (by kernel_rfl)
instance : TField P 103 0 0 3 := tfield_of (by kernel_rfl)
instance : TField P 103 1 1 4 := tfield_of (by kernel_rfl)
instance : TField P 103 2 2 102 := tfield_of (by kernel_rfl)
instance : TStruct P 103 [(0, 1), (1, 1), (2, 4)] := tstruct_of (by kernel_rfl)
instance : TZero P 103 [.int .i64 0, .bool false, .int .i64 0, .int .i64 0, .int .i64 0, .int .i64 0] := tzero_of (i := Go.Proofs.Try.t103) (by kernel_rfl) (by kernel_rfl) (by kernel_rfl) (by kernel_rfl)
instance : TApp P 103 6 := tapp_of (i := Go.Proofs.Try.t103) (by kernel_rfl) (by kernel_rfl) (by kernel_rfl) (by kernel_rfl) (by kernel_rfl)
/- 104: impl.Place -/
instance : TSz P 104 6 := tsz_of (by kernel_rfl)
instance : TAgg P 104 := tagg_of (by kernel_rfl)
instance : TField P 104 0 0 3 := tfield_of (by kernel_rfl)
instance : TField P 104 1 1 4 := tfield_of (by kernel_rfl)
instance : TField P 104 2 2 102 := tfield_of (by kernel_rfl)
instance : TStruct P 104 [(0, 1), (1, 1), (2, 4)] := tstruct_of (by kernel_rfl)
instance : TZero P 104 [.int .i64 0, .bool false, .int .i64 0, .int .i64 0, .int .i64 0, .int .i64 0] := tzero_of (i := Go.Proofs.Try.t104) (by kernel_rfl) (by kernel_rfl) (by kernel_rfl) (by kernel_rfl)
instance : TApp P 104 6 := tapp_of (i := Go.Proofs.Try.t104) (by kernel_rfl) (by kernel_rfl) (by kernel_rfl) (by kernel_rfl) (by kernel_rfl)
/- 106: func(*spec.reader, int) (impl.Work, impl.Plan) -/
instance : TSz P 106 1 := tsz_of (by kernel_rfl)
instance : TOne P 106 := tone_of (by kernel_rfl)
/- 107: func(*spec.reader, impl.Plan) []int -/
instance : TSz P 107 1 := tsz_of (by kernel_rfl)
instance : TOne P 107 := tone_of (by kernel_rfl)
/- 108: []impl.part -/
instance : TSz P 108 1 := tsz_of (by kernel_rfl)
instance : TOne P 108 := tone_of (by kernel_rfl)
instance : TSlice P 108 115 := ⟨by kernel_rfl⟩
instance : TZero P 108 [.nil] := tzero_of (i := Go.Proofs.Try.t108) (by kernel_rfl) (by kernel_rfl) (by kernel_rfl) (by kernel_rfl)
instance : TApp P 108 1 := tapp_of (i := Go.Proofs.Try.t108) (by kernel_rfl) (by kernel_rfl) (by kernel_rfl) (by kernel_rfl) (by kernel_rfl)
/- 109: func(impl.Work, impl.Plan) []impl.part -/
instance : TSz P 109 1 := tsz_of (by kernel_rfl)
instance : TOne P 109 := tone_of (by kernel_rfl)
/- 110: []impl.knot -/
instance : TSz P 110 1 := tsz_of (by kernel_rfl)
instance : TOne P 110 := tone_of (by kernel_rfl)
instance : TSlice P 110 148 := ⟨by kernel_rfl⟩
instance : TZero P 110 [.nil] := tzero_of (i := Go.Proofs.Try.t110) (by kernel_rfl) (by kernel_rfl) (by kernel_rfl) (by kernel_rfl)
instance : TApp P 110 1 := tapp_of (i := Go.Proofs.Try.t110) (by kernel_rfl) (by kernel_rfl) (by kernel_rfl) (by kernel_rfl) (by kernel_rfl)
/- 112: func(impl.Plan) ([]impl.knot, bool) -/
instance : TSz P 112 1 := tsz_of (by kernel_rfl)
instance : TOne P 112 := tone_of (by kernel_rfl)
/- 113: func([]impl.knot, []int) bool -/
instance : TSz P 113 1 := tsz_of (by kernel_rfl)
instance : TOne P 113 := tone_of (by kernel_rfl)
/- 114: struct { plan impl.Plan; box impl.Box } -/
instance : TSz P 114 9 := tsz_of (by kernel_rfl)
instance : TAgg P 114 := tagg_of (by kernel_rfl)
instance : TField P 114 0 0 34 := tfield_of (by kernel_rfl)
instance : TField P 114 1 5 102 := tfield_of (by kernel_rfl)
instance : TStruct P 114 [(0, 5), (5, 4)] := tstruct_of (by kernel_rfl)
instance : TZero P 114 [.int .i64 0, .int .i64 0, .int .i64 0, .bool false, .nil, .int .i64 0, .int .i64 0, .int .i64 0, .int .i64 0] := tzero_of (i := Go.Proofs.Try.t114) (by kernel_rfl) (by kernel_rfl) (by kernel_rfl) (by kernel_rfl)
instance : TApp P 114 9 := tapp_of (i := Go.Proofs.Try.t114) (by kernel_rfl) (by kernel_rfl) (by kernel_rfl) (by kernel_rfl) (by kernel_rfl)
/- 115: impl.part -/
instance : TSz P 115 9 := tsz_of (by kernel_rfl)
instance : TAgg P 115 := tagg_of (by kernel_rfl)
instance : TField P 115 0 0 34 := tfield_of (by kernel_rfl)
instance : TField P 115 1 5 102 := tfield_of (by kernel_rfl)
instance : TStruct P 115 [(0, 5), (5, 4)] := tstruct_of (by kernel_rfl)
instance : TZero P 115 [.int .i64 0, .int .i64 0, .int .i64 0, .bool false, .nil, .int .i64 0, .int .i64 0, .int .i64 0, .int .i64 0] := tzero_of (i := Go.Proofs.Try.t115) (by kernel_rfl) (by kernel_rfl) (by kernel_rfl) (by kernel_rfl)
instance : TApp P 115 9 := tapp_of (i := Go.Proofs.Try.t115) (by kernel_rfl) (by kernel_rfl) (by kernel_rfl) (by kernel_rfl) (by kernel_rfl)
/- 116: func([]impl.Box, impl.Box) int -/
instance : TSz P 116 1 := tsz_of (by kernel_rfl)
instance : TOne P 116 := tone_of (by kernel_rfl)
/- 117: func([]impl.Box, int, int) []impl.Box -/
instance : TSz P 117 1 := tsz_of (by kernel_rfl)
instance : TOne P 117 := tone_of (by kernel_rfl)
/- 119: func(impl.Plan, impl.Box) (impl.Box, impl.Box) -/
instance : TSz P 119 1 := tsz_of (by kernel_rfl)
instance : TOne P 119 := tone_of (by kernel_rfl)
/- 120: func(impl.Plan, int) []int -/
instance : TSz P 120 1 := tsz_of (by kernel_rfl)
instance : TOne P 120 := tone_of (by kernel_rfl)
/- 121: func(impl.Plan, int, int) []int -/
instance : TSz P 121 1 := tsz_of (by kernel_rfl)
instance : TOne P 121 := tone_of (by kernel_rfl)
/- 123: func(impl.Plan, impl.Box, int) (impl.Plan, impl.Box) -/
instance : TSz P 123 1 := tsz_of (by kernel_rfl)
instance : TOne P 123 := tone_of (by kernel_rfl)
/- 124: func([]impl.Box, impl.Box, impl.Plan) []impl.Box -/
instance : TSz P 124 1 := tsz_of (by kernel_rfl)
instance : TOne P 124 := tone_of (by kernel_rfl)
/- 125: func([]int, impl.Plan, int) []int -/
instance : TSz P 125 1 := tsz_of (by kernel_rfl)
instance : TOne P 125 := tone_of (by kernel_rfl)
/- 126: func([]laws.Pane, int) int -/
instance : TSz P 126 1 := tsz_of (by kernel_rfl)
instance : TOne P 126 := tone_of (by kernel_rfl)
/- 127: func([]laws.Plan, int) int -/
instance : TSz P 127 1 := tsz_of (by kernel_rfl)
instance : TOne P 127 := tone_of (by kernel_rfl)
/- 128: func([]laws.Pane) []impl.Pane -/
instance : TSz P 128 1 := tsz_of (by kernel_rfl)
instance : TOne P 128 := tone_of (by kernel_rfl)
/- 129: func([]laws.Plan) []impl.Plan -/
instance : TSz P 129 1 := tsz_of (by kernel_rfl)
instance : TOne P 129 := tone_of (by kernel_rfl)
/- 130: func(impl.Box, impl.Box) bool -/
instance : TSz P 130 1 := tsz_of (by kernel_rfl)
instance : TOne P 130 := tone_of (by kernel_rfl)
/- 131: func([]impl.Pane, []impl.Pane) bool -/
instance : TSz P 131 1 := tsz_of (by kernel_rfl)
instance : TOne P 131 := tone_of (by kernel_rfl)
/- 132: func([]impl.Pane, int) int -/
instance : TSz P 132 1 := tsz_of (by kernel_rfl)
instance : TOne P 132 := tone_of (by kernel_rfl)
/- 133: func([]impl.Plan, int) int -/
instance : TSz P 133 1 := tsz_of (by kernel_rfl)
instance : TOne P 133 := tone_of (by kernel_rfl)
/- 134: func(*spec.reader) []int -/
instance : TSz P 134 1 := tsz_of (by kernel_rfl)
instance : TOne P 134 := tone_of (by kernel_rfl)
/- 135: func([]int, func(int) bool) int -/
instance : TSz P 135 1 := tsz_of (by kernel_rfl)
instance : TOne P 135 := tone_of (by kernel_rfl)
/- 136: func(int) bool -/
instance : TSz P 136 1 := tsz_of (by kernel_rfl)
instance : TOne P 136 := tone_of (by kernel_rfl)
/- 137: func([]int, int) bool -/
instance : TSz P 137 1 := tsz_of (by kernel_rfl)
instance : TOne P 137 := tone_of (by kernel_rfl)
/- 138: func([]int, []int, int, int) int -/
instance : TSz P 138 1 := tsz_of (by kernel_rfl)
instance : TOne P 138 := tone_of (by kernel_rfl)
/- 139: func([]int) -/
instance : TSz P 139 1 := tsz_of (by kernel_rfl)
instance : TOne P 139 := tone_of (by kernel_rfl)
/- 140: func(impl.Work, []impl.Place) bool -/
instance : TSz P 140 1 := tsz_of (by kernel_rfl)
instance : TOne P 140 := tone_of (by kernel_rfl)
/- 141: func([]impl.Place, impl.Box) (impl.Plan, bool) -/
instance : TSz P 141 1 := tsz_of (by kernel_rfl)
instance : TOne P 141 := tone_of (by kernel_rfl)
/- 142: func(impl.Work) impl.Box -/
instance : TSz P 142 1 := tsz_of (by kernel_rfl)
instance : TOne P 142 := tone_of (by kernel_rfl)
/- 143: func([]impl.Place, impl.Place) bool -/
instance : TSz P 143 1 := tsz_of (by kernel_rfl)
instance : TOne P 143 := tone_of (by kernel_rfl)
/- 144: func(impl.Work, []int, *impl.valueTable, int, int) impl.Plan -/
instance : TSz P 144 1 := tsz_of (by kernel_rfl)
instance : TOne P 144 := tone_of (by kernel_rfl)
/- 145: *impl.valueTable -/
instance : TSz P 145 1 := tsz_of (by kernel_rfl)
instance : TOne P 145 := tone_of (by kernel_rfl)
/- 146: func(impl.Work, []int, [][]int, int, int) impl.Plan -/
instance : TSz P 146 1 := tsz_of (by kernel_rfl)
instance : TOne P 146 := tone_of (by kernel_rfl)
/- 147: struct { number int; above int } -/
instance : TSz P 147 2 := tsz_of (by kernel_rfl)
instance : TAgg P 147 := tagg_of (by kernel_rfl)
instance : TField P 147 0 0 3 := tfield_of (by kernel_rfl)
instance : TField P 147 1 1 3 := tfield_of (by kernel_rfl)
instance : TStruct P 147 [(0, 1), (1, 1)] := tstruct_of (by kernel_rfl)
instance : TZero P 147 [.int .i64 0, .int .i64 0] := tzero_of (i := Go.Proofs.Try.t147) (by kernel_rfl) (by kernel_rfl) (by kernel_rfl) (by kernel_rfl)
instance : TApp P 147 2 := tapp_of (i := Go.Proofs.Try.t147) (by kernel_rfl) (by kernel_rfl) (by kernel_rfl) (by kernel_rfl) (by kernel_rfl)
/- 148: impl.knot -/
instance : TSz P 148 2 := tsz_of (by kernel_rfl)
instance : TAgg P 148 := tagg_of (by kernel_rfl)
instance : TField P 148 0 0 3 := tfield_of (by kernel_rfl)
instance : TField P 148 1 1 3 := tfield_of (by kernel_rfl)
instance : TStruct P 148 [(0, 1), (1, 1)] := tstruct_of (by kernel_rfl)
instance : TZero P 148 [.int .i64 0, .int .i64 0] := tzero_of (i := Go.Proofs.Try.t148) (by kernel_rfl) (by kernel_rfl) (by kernel_rfl) (by kernel_rfl)
instance : TApp P 148 2 := tapp_of (i := Go.Proofs.Try.t148) (by kernel_rfl) (by kernel_rfl) (by kernel_rfl) (by kernel_rfl) (by kernel_rfl)
/- 149: struct { b []uint8; p int } -/
instance : TSz P 149 2 := tsz_of (by kernel_rfl)
instance : TAgg P 149 := tagg_of (by kernel_rfl)
instance : TField P 149 0 0 22 := tfield_of (by kernel_rfl)
instance : TField P 149 1 1 3 := tfield_of (by kernel_rfl)
instance : TStruct P 149 [(0, 1), (1, 1)] := tstruct_of (by kernel_rfl)
instance : TZero P 149 [.nil, .int .i64 0] := tzero_of (i := Go.Proofs.Try.t149) (by kernel_rfl) (by kernel_rfl) (by kernel_rfl) (by kernel_rfl)
instance : TApp P 149 2 := tapp_of (i := Go.Proofs.Try.t149) (by kernel_rfl) (by kernel_rfl) (by kernel_rfl) (by kernel_rfl) (by kernel_rfl)
/- 150: spec.reader -/
instance : TSz P 150 2 := tsz_of (by kernel_rfl)
instance : TAgg P 150 := tagg_of (by kernel_rfl)
instance : TField P 150 0 0 22 := tfield_of (by kernel_rfl)
instance : TField P 150 1 1 3 := tfield_of (by kernel_rfl)
instance : TStruct P 150 [(0, 1), (1, 1)] := tstruct_of (by kernel_rfl)
instance : TZero P 150 [.nil, .int .i64 0] := tzero_of (i := Go.Proofs.Try.t150) (by kernel_rfl) (by kernel_rfl) (by kernel_rfl) (by kernel_rfl)
instance : TApp P 150 2 := tapp_of (i := Go.Proofs.Try.t150) (by kernel_rfl) (by kernel_rfl) (by kernel_rfl) (by kernel_rfl) (by kernel_rfl)
/- 152: func(impl.Work, []int, int, int) (impl.Plan, int) -/
instance : TSz P 152 1 := tsz_of (by kernel_rfl)
instance : TOne P 152 := tone_of (by kernel_rfl)
/- 153: func(int, int, int) bool -/
instance : TSz P 153 1 := tsz_of (by kernel_rfl)
instance : TOne P 153 := tone_of (by kernel_rfl)
/- 154: func(int, func(int, int) int) []int -/
instance : TSz P 154 1 := tsz_of (by kernel_rfl)
instance : TOne P 154 := tone_of (by kernel_rfl)
/- 155: func(int, int) int -/
instance : TSz P 155 1 := tsz_of (by kernel_rfl)
instance : TOne P 155 := tone_of (by kernel_rfl)
/- 156: func(impl.Work, []int, int, int) impl.Plan -/
instance : TSz P 156 1 := tsz_of (by kernel_rfl)
instance : TOne P 156 := tone_of (by kernel_rfl)
/- 157: func(impl.Work, impl.Plan, impl.Box) bool -/
instance : TSz P 157 1 := tsz_of (by kernel_rfl)
instance : TOne P 157 := tone_of (by kernel_rfl)
/- 158: func(*spec.reader) (impl.Work, impl.Plan) -/
instance : TSz P 158 1 := tsz_of (by kernel_rfl)
instance : TOne P 158 := tone_of (by kernel_rfl)
/- 159: func([]impl.part, impl.Plan, impl.Box) []impl.part -/
instance : TSz P 159 1 := tsz_of (by kernel_rfl)
instance : TOne P 159 := tone_of (by kernel_rfl)
/- 161: func([]impl.knot, impl.Plan, int, int) ([]impl.knot, int) -/
instance : TSz P 161 1 := tsz_of (by kernel_rfl)
instance : TOne P 161 := tone_of (by kernel_rfl)
/- 162: [255]bool -/
instance : TSz P 162 255 := tsz_of (by kernel_rfl)
instance : TAgg P 162 := tagg_of (by kernel_rfl)
instance : TArr P 162 255 4 := ⟨by kernel_rfl⟩
instance : TZero P 162 (List.replicate 255 (.bool false)) := tzero_of (i := Go.Proofs.Try.t162) (by kernel_rfl) (by kernel_rfl) (by kernel_rfl) (by kernel_rfl)
instance : TApp P 162 255 := tapp_of (i := Go.Proofs.Try.t162) (by kernel_rfl) (by kernel_rfl) (by kernel_rfl) (by kernel_rfl) (by kernel_rfl)
/- 163: func([]impl.knot, int) int -/
instance : TSz P 163 1 := tsz_of (by kernel_rfl)
instance : TOne P 163 := tone_of (by kernel_rfl)
/- 164: func(impl.Work, impl.Plan, int, int) bool -/
instance : TSz P 164 1 := tsz_of (by kernel_rfl)
instance : TOne P 164 := tone_of (by kernel_rfl)
/- 165: func(impl.Plan) bool -/
instance : TSz P 165 1 := tsz_of (by kernel_rfl)
instance : TOne P 165 := tone_of (by kernel_rfl)
/- 166: func(laws.Pane) impl.Pane -/
instance : TSz P 166 1 := tsz_of (by kernel_rfl)
instance : TOne P 166 := tone_of (by kernel_rfl)
/- 167: laws.Pane -/
instance : TSz P 167 4 := tsz_of (by kernel_rfl)
instance : TAgg P 167 := tagg_of (by kernel_rfl)
instance : TField P 167 0 0 3 := tfield_of (by kernel_rfl)
instance : TField P 167 1 1 3 := tfield_of (by kernel_rfl)
instance : TField P 167 2 2 4 := tfield_of (by kernel_rfl)
instance : TField P 167 3 3 3 := tfield_of (by kernel_rfl)
instance : TStruct P 167 [(0, 1), (1, 1), (2, 1), (3, 1)] := tstruct_of (by kernel_rfl)
instance : TZero P 167 [.int .i64 0, .int .i64 0, .bool false, .int .i64 0] := tzero_of (i := Go.Proofs.Try.t167) (by kernel_rfl) (by kernel_rfl) (by kernel_rfl) (by kernel_rfl)
instance : TApp P 167 4 := tapp_of (i := Go.Proofs.Try.t167) (by kernel_rfl) (by kernel_rfl) (by kernel_rfl) (by kernel_rfl) (by kernel_rfl)
/- 168: func(impl.Pane, impl.Pane) bool -/
instance : TSz P 168 1 := tsz_of (by kernel_rfl)
instance : TOne P 168 := tone_of (by kernel_rfl)
/- 169: []bool -/
instance : TSz P 169 1 := tsz_of (by kernel_rfl)
instance : TOne P 169 := tone_of (by kernel_rfl)
instance : TSlice P 169 4 := ⟨by kernel_rfl⟩
instance : TZero P 169 [.nil] := tzero_of (i := Go.Proofs.Try.t169) (by kernel_rfl) (by kernel_rfl) (by kernel_rfl) (by kernel_rfl)
instance : TApp P 169 1 := tapp_of (i := Go.Proofs.Try.t169) (by kernel_rfl) (by kernel_rfl) (by kernel_rfl) (by kernel_rfl) (by kernel_rfl)
/- 170: func([]int, int, int, int) -/
instance : TSz P 170 1 := tsz_of (by kernel_rfl)
instance : TOne P 170 := tone_of (by kernel_rfl)
/- 171: func(uint) int -/
instance : TSz P 171 1 := tsz_of (by kernel_rfl)
instance : TOne P 171 := tone_of (by kernel_rfl)
/- 172: uint -/
instance : TSz P 172 1 := tsz_of (by kernel_rfl)
instance : TOne P 172 := tone_of (by kernel_rfl)
instance : TInt P 172 .u64 := ⟨by kernel_rfl⟩
instance : TZero P 172 [.int .u64 0] := tzero_of (i := Go.Proofs.Try.t172) (by kernel_rfl) (by kernel_rfl) (by kernel_rfl) (by kernel_rfl)
instance : TApp P 172 1 := tapp_of (i := Go.Proofs.Try.t172) (by kernel_rfl) (by kernel_rfl) (by kernel_rfl) (by kernel_rfl) (by kernel_rfl)
/- 173: func([]impl.Pane) bool -/
instance : TSz P 173 1 := tsz_of (by kernel_rfl)
instance : TOne P 173 := tone_of (by kernel_rfl)
/- 174: func(impl.Box) bool -/
instance : TSz P 174 1 := tsz_of (by kernel_rfl)
instance : TOne P 174 := tone_of (by kernel_rfl)
/- 175: func(impl.Work, int, bool, int, int) bool -/
instance : TSz P 175 1 := tsz_of (by kernel_rfl)
instance : TOne P 175 := tone_of (by kernel_rfl)
/- 176: func([]impl.Box) bool -/
instance : TSz P 176 1 := tsz_of (by kernel_rfl)
instance : TOne P 176 := tone_of (by kernel_rfl)
/- 177: func(impl.Pane) bool -/
instance : TSz P 177 1 := tsz_of (by kernel_rfl)
instance : TOne P 177 := tone_of (by kernel_rfl)
/- 178: func([]int, func(int, int) int) -/
instance : TSz P 178 1 := tsz_of (by kernel_rfl)
instance : TOne P 178 := tone_of (by kernel_rfl)
/- 179: func(*spec.reader, *impl.Work, int, int, int) impl.Plan -/
instance : TSz P 179 1 := tsz_of (by kernel_rfl)
instance : TOne P 179 := tone_of (by kernel_rfl)
/- 180: *impl.Work -/
instance : TSz P 180 1 := tsz_of (by kernel_rfl)
instance : TOne P 180 := tone_of (by kernel_rfl)
/- 181: func([]impl.knot, func(impl.knot) bool) int -/
instance : TSz P 181 1 := tsz_of (by kernel_rfl)
instance : TOne P 181 := tone_of (by kernel_rfl)
/- 182: func(impl.knot) bool -/
instance : TSz P 182 1 := tsz_of (by kernel_rfl)
instance : TOne P 182 := tone_of (by kernel_rfl)
/- 183: func([]int, int, int) -/
instance : TSz P 183 1 := tsz_of (by kernel_rfl)
instance : TOne P 183 := tone_of (by kernel_rfl)
/- 184: slices.sortedHint -/
instance : TSz P 184 1 := tsz_of (by kernel_rfl)
instance : TOne P 184 := tone_of (by kernel_rfl)
instance : TInt P 184 .i64 := ⟨by kernel_rfl⟩
instance : TZero P 184 [.int .i64 0] := tzero_of (i := Go.Proofs.Try.t184) (by kernel_rfl) (by kernel_rfl) (by kernel_rfl) (by kernel_rfl)
instance : TApp P 184 1 := tapp_of (i := Go.Proofs.Try.t184) (by kernel_rfl) (by kernel_rfl) (by kernel_rfl) (by kernel_rfl) (by kernel_rfl)
/- 186: func([]int, int, int) (int, slices.sortedHint) -/
instance : TSz P 186 1 := tsz_of (by kernel_rfl)
instance : TOne P 186 := tone_of (by kernel_rfl)
/- 187: func([]int, int, int) bool -/
instance : TSz P 187 1 := tsz_of (by kernel_rfl)
instance : TOne P 187 := tone_of (by kernel_rfl)
/- 188: func(int, int) bool -/
instance : TSz P 188 1 := tsz_of (by kernel_rfl)
instance : TOne P 188 := tone_of (by kernel_rfl)
/- 189: func([]int, int, int, int) int -/
instance : TSz P 189 1 := tsz_of (by kernel_rfl)
instance : TOne P 189 := tone_of (by kernel_rfl)
/- 191: func([]int, int, int, int) (int, bool) -/
instance : TSz P 191 1 := tsz_of (by kernel_rfl)
instance : TOne P 191 := tone_of (by kernel_rfl)
/- 192: func(uint32) int -/
instance : TSz P 192 1 := tsz_of (by kernel_rfl)
instance : TOne P 192 := tone_of (by kernel_rfl)
/- 193: uint32 -/
instance : TSz P 193 1 := tsz_of (by kernel_rfl)
instance : TOne P 193 := tone_of (by kernel_rfl)
instance : TInt P 193 .u32 := ⟨by kernel_rfl⟩
instance : TZero P 193 [.int .u32 0] := tzero_of (i := Go.Proofs.Try.t193) (by kernel_rfl) (by kernel_rfl) (by kernel_rfl) (by kernel_rfl)
instance : TApp P 193 1 := tapp_of (i := Go.Proofs.Try.t193) (by kernel_rfl) (by kernel_rfl) (by kernel_rfl) (by kernel_rfl) (by kernel_rfl)
/- 194: func(uint64) int -/
instance : TSz P 194 1 := tsz_of (by kernel_rfl)
instance : TOne P 194 := tone_of (by kernel_rfl)
/- 195: uint64 -/
instance : TSz P 195 1 := tsz_of (by kernel_rfl)
instance : TOne P 195 := tone_of (by kernel_rfl)
instance : TInt P 195 .u64 := ⟨by kernel_rfl⟩
instance : TZero P 195 [.int .u64 0] := tzero_of (i := Go.Proofs.Try.t195) (by kernel_rfl) (by kernel_rfl) (by kernel_rfl) (by kernel_rfl)
instance : TApp P 195 1 := tapp_of (i := Go.Proofs.Try.t195) (by kernel_rfl) (by kernel_rfl) (by kernel_rfl) (by kernel_rfl) (by kernel_rfl)
/- 196: func(impl.Work, []int, int, int, int) (impl.Plan, int) -/
instance : TSz P 196 1 := tsz_of (by kernel_rfl)
instance : TOne P 196 := tone_of (by kernel_rfl)
/- 198: func(impl.Box, impl.Box) (impl.Box, bool) -/
instance : TSz P 198 1 := tsz_of (by kernel_rfl)
instance : TOne P 198 := tone_of (by kernel_rfl)
/- 199: func([]int, int, func(int, int) int) -/
instance : TSz P 199 1 := tsz_of (by kernel_rfl)
instance : TOne P 199 := tone_of (by kernel_rfl)
/- 200: slices.xorshift -/
instance : TSz P 200 1 := tsz_of (by kernel_rfl)
instance : TOne P 200 := tone_of (by kernel_rfl)
instance : TInt P 200 .u64 := ⟨by kernel_rfl⟩
instance : TZero P 200 [.int .u64 0] := tzero_of (i := Go.Proofs.Try.t200) (by kernel_rfl) (by kernel_rfl) (by kernel_rfl) (by kernel_rfl)
instance : TApp P 200 1 := tapp_of (i := Go.Proofs.Try.t200) (by kernel_rfl) (by kernel_rfl) (by kernel_rfl) (by kernel_rfl) (by kernel_rfl)
/- 201: func(int) uint -/
instance : TSz P 201 1 := tsz_of (by kernel_rfl)
instance : TOne P 201 := tone_of (by kernel_rfl)
/- 202: func() uint64 -/
instance : TSz P 202 1 := tsz_of (by kernel_rfl)
instance : TOne P 202 := tone_of (by kernel_rfl)
/- 203: func([]int, int, *int) int -/
instance : TSz P 203 1 := tsz_of (by kernel_rfl)
instance : TOne P 203 := tone_of (by kernel_rfl)
/- 204: *int -/
instance : TSz P 204 1 := tsz_of (by kernel_rfl)
instance : TOne P 204 := tone_of (by kernel_rfl)
/- 205: func([]int, int, int, int, *int) int -/
instance : TSz P 205 1 := tsz_of (by kernel_rfl)
instance : TOne P 205 := tone_of (by kernel_rfl)
/- 206: []impl.span -/
instance : TSz P 206 1 := tsz_of (by kernel_rfl)
instance : TOne P 206 := tone_of (by kernel_rfl)
instance : TSlice P 206 208 := ⟨by kernel_rfl⟩
instance : TZero P 206 [.nil] := tzero_of (i := Go.Proofs.Try.t206) (by kernel_rfl) (by kernel_rfl) (by kernel_rfl) (by kernel_rfl)
instance : TApp P 206 1 := tapp_of (i := Go.Proofs.Try.t206) (by kernel_rfl) (by kernel_rfl) (by kernel_rfl) (by kernel_rfl) (by kernel_rfl)
/- 207: struct { from int; to int } -/
instance : TSz P 207 2 := tsz_of (by kernel_rfl)
instance : TAgg P 207 := tagg_of (by kernel_rfl)
instance : TField P 207 0 0 3 := tfield_of (by kernel_rfl)
instance : TField P 207 1 1 3 := tfield_of (by kernel_rfl)
instance : TStruct P 207 [(0, 1), (1, 1)] := tstruct_of (by kernel_rfl)
instance : TZero P 207 [.int .i64 0, .int .i64 0] := tzero_of (i := Go.Proofs.Try.t207) (by kernel_rfl) (by kernel_rfl) (by kernel_rfl) (by kernel_rfl)
instance : TApp P 207 2 := tapp_of (i := Go.Proofs.Try.t207) (by kernel_rfl) (by kernel_rfl) (by kernel_rfl) (by kernel_rfl) (by kernel_rfl)
/- 208: impl.span -/
instance : TSz P 208 2 := tsz_of (by kernel_rfl)
instance : TAgg P 208 := tagg_of (by kernel_rfl)
instance : TField P 208 0 0 3 := tfield_of (by kernel_rfl)
instance : TField P 208 1 1 3 := tfield_of (by kernel_rfl)
instance : TStruct P 208 [(0, 1), (1, 1)] := tstruct_of (by kernel_rfl)
instance : TZero P 208 [.int .i64 0, .int .i64 0] := tzero_of (i := Go.Proofs.Try.t208) (by kernel_rfl) (by kernel_rfl) (by kernel_rfl) (by kernel_rfl)
instance : TApp P 208 2 := tapp_of (i := Go.Proofs.Try.t208) (by kernel_rfl) (by kernel_rfl) (by kernel_rfl) (by kernel_rfl) (by kernel_rfl)
/- 209: func(impl.Box, bool) impl.span -/
instance : TSz P 209 1 := tsz_of (by kernel_rfl)
instance : TOne P 209 := tone_of (by kernel_rfl)
/- 210: func([]impl.span, impl.span) (int, bool) -/
instance : TSz P 210 1 := tsz_of (by kernel_rfl)
instance : TOne P 210 := tone_of (by kernel_rfl)
/- 211: func([]int, int, int, func(int, int) int) -/
instance : TSz P 211 1 := tsz_of (by kernel_rfl)
instance : TOne P 211 := tone_of (by kernel_rfl)
/- 212: func([]int, int, int, int, func(int, int) int) -/
instance : TSz P 212 1 := tsz_of (by kernel_rfl)
instance : TOne P 212 := tone_of (by kernel_rfl)
/- 213: *slices.xorshift -/
instance : TSz P 213 1 := tsz_of (by kernel_rfl)
instance : TOne P 213 := tone_of (by kernel_rfl)
/- 215: func([]int, int, int, *int) (int, int) -/
instance : TSz P 215 1 := tsz_of (by kernel_rfl)
instance : TOne P 215 := tone_of (by kernel_rfl)
/- 216: func() string -/
instance : TSz P 216 1 := tsz_of (by kernel_rfl)
instance : TOne P 216 := tone_of (by kernel_rfl)
/- 222: func() int -/
instance : TSz P 222 1 := tsz_of (by kernel_rfl)
instance : TOne P 222 := tone_of (by kernel_rfl)
/- 226: *uint8 -/
instance : TSz P 226 1 := tsz_of (by kernel_rfl)
instance : TOne P 226 := tone_of (by kernel_rfl)
instance : Mixed P := ⟨by kernel_rfl⟩
/- laws.FnBestValue -/ instance : TFun P 3 := tfun_of (fn := Go.Proofs.Try.f3) (by kernel_rfl) (by kernel_rfl) (by kernel_rfl)
/- laws.FnRunStepsEnd -/ instance : TFun P 4 := tfun_of (fn := Go.Proofs.Try.f4) (by kernel_rfl) (by kernel_rfl) (by kernel_rfl)
/- laws.FnExactRunSteps -/ instance : TFun P 5 := tfun_of (fn := Go.Proofs.Try.f5) (by kernel_rfl) (by kernel_rfl) (by kernel_rfl)
/- laws.FnPutStacksBuffer -/ instance : TFun P 6 := tfun_of (fn := Go.Proofs.Try.f6) (by kernel_rfl) (by kernel_rfl) (by kernel_rfl)
/- laws.FnShelfPlansFound -/ instance : TFun P 7 := tfun_of (fn := Go.Proofs.Try.f7) (by kernel_rfl) (by kernel_rfl) (by kernel_rfl)
/- laws.FnBestPlanSteps -/ instance : TFun P 8 := tfun_of (fn := Go.Proofs.Try.f8) (by kernel_rfl) (by kernel_rfl) (by kernel_rfl)
/- spec.DrawBestValue -/ instance : TFun P 9 := tfun_of (fn := Go.Proofs.Try.f9) (by kernel_rfl) (by kernel_rfl) (by kernel_rfl)
/- impl.BestValue -/ instance : TFun P 10 := tfun_of (fn := Go.Proofs.Try.f10) (by kernel_rfl) (by kernel_rfl) (by kernel_rfl)
/- spec.BestValue -/ instance : TFun P 11 := tfun_of (fn := Go.Proofs.Try.f11) (by kernel_rfl) (by kernel_rfl) (by kernel_rfl)
/- impl.ShelfPlans -/ instance : TFun P 12 := tfun_of (fn := Go.Proofs.Try.f12) (by kernel_rfl) (by kernel_rfl) (by kernel_rfl)
/- impl.PlanValue -/ instance : TFun P 13 := tfun_of (fn := Go.Proofs.Try.f13) (by kernel_rfl) (by kernel_rfl) (by kernel_rfl)
/- impl.ValueBound -/ instance : TFun P 14 := tfun_of (fn := Go.Proofs.Try.f14) (by kernel_rfl) (by kernel_rfl) (by kernel_rfl)
/- spec.DrawRunSteps -/ instance : TFun P 15 := tfun_of (fn := Go.Proofs.Try.f15) (by kernel_rfl) (by kernel_rfl) (by kernel_rfl)
/- impl.RunSteps -/ instance : TFun P 16 := tfun_of (fn := Go.Proofs.Try.f16) (by kernel_rfl) (by kernel_rfl) (by kernel_rfl)
/- spec.RunSteps -/ instance : TFun P 17 := tfun_of (fn := Go.Proofs.Try.f17) (by kernel_rfl) (by kernel_rfl) (by kernel_rfl)
/- laws.equalBoxes -/ instance : TFun P 18 := tfun_of (fn := Go.Proofs.Try.f18) (by kernel_rfl) (by kernel_rfl) (by kernel_rfl)
/- impl.ValidSteps -/ instance : TFun P 19 := tfun_of (fn := Go.Proofs.Try.f19) (by kernel_rfl) (by kernel_rfl) (by kernel_rfl)
/- impl.CutsOf -/ instance : TFun P 20 := tfun_of (fn := Go.Proofs.Try.f20) (by kernel_rfl) (by kernel_rfl) (by kernel_rfl)
/- laws.boxesOf -/ instance : TFun P 21 := tfun_of (fn := Go.Proofs.Try.f21) (by kernel_rfl) (by kernel_rfl) (by kernel_rfl)
/- impl.PlacesOf -/ instance : TFun P 22 := tfun_of (fn := Go.Proofs.Try.f22) (by kernel_rfl) (by kernel_rfl) (by kernel_rfl)
/- impl.WastesOf -/ instance : TFun P 23 := tfun_of (fn := Go.Proofs.Try.f23) (by kernel_rfl) (by kernel_rfl) (by kernel_rfl)
/- impl.BestSteps -/ instance : TFun P 24 := tfun_of (fn := Go.Proofs.Try.f24) (by kernel_rfl) (by kernel_rfl) (by kernel_rfl)
/- laws.sameBoxes -/ instance : TFun P 25 := tfun_of (fn := Go.Proofs.Try.f25) (by kernel_rfl) (by kernel_rfl) (by kernel_rfl)
/- laws.szWork -/ instance : TFun P 26 := tfun_of (fn := Go.Proofs.Try.f26) (by kernel_rfl) (by kernel_rfl) (by kernel_rfl)
/- laws.szPlan -/ instance : TFun P 27 := tfun_of (fn := Go.Proofs.Try.f27) (by kernel_rfl) (by kernel_rfl) (by kernel_rfl)
/- laws.toWork -/ instance : TFun P 28 := tfun_of (fn := Go.Proofs.Try.f28) (by kernel_rfl) (by kernel_rfl) (by kernel_rfl)
/- laws.toPlan -/ instance : TFun P 29 := tfun_of (fn := Go.Proofs.Try.f29) (by kernel_rfl) (by kernel_rfl) (by kernel_rfl)
/- laws.toIntS -/ instance : TFun P 30 := tfun_of (fn := Go.Proofs.Try.f30) (by kernel_rfl) (by kernel_rfl) (by kernel_rfl)
/- laws.eqBoxS -/ instance : TFun P 31 := tfun_of (fn := Go.Proofs.Try.f31) (by kernel_rfl) (by kernel_rfl) (by kernel_rfl)
/- laws.eqWork -/ instance : TFun P 32 := tfun_of (fn := Go.Proofs.Try.f32) (by kernel_rfl) (by kernel_rfl) (by kernel_rfl)
/- laws.eqPlan -/ instance : TFun P 33 := tfun_of (fn := Go.Proofs.Try.f33) (by kernel_rfl) (by kernel_rfl) (by kernel_rfl)
/- laws.eqIntS -/ instance : TFun P 34 := tfun_of (fn := Go.Proofs.Try.f34) (by kernel_rfl) (by kernel_rfl) (by kernel_rfl)
/- laws.markWork -/ instance : TFun P 35 := tfun_of (fn := Go.Proofs.Try.f35) (by kernel_rfl) (by kernel_rfl) (by kernel_rfl)
/- laws.markPlan -/ instance : TFun P 36 := tfun_of (fn := Go.Proofs.Try.f36) (by kernel_rfl) (by kernel_rfl) (by kernel_rfl)
/- laws.markIntS -/ instance : TFun P 37 := tfun_of (fn := Go.Proofs.Try.f37) (by kernel_rfl) (by kernel_rfl) (by kernel_rfl)
/- laws.markBoxS -/ instance : TFun P 38 := tfun_of (fn := Go.Proofs.Try.f38) (by kernel_rfl) (by kernel_rfl) (by kernel_rfl)
/- laws.heldBoxS -/ instance : TFun P 39 := tfun_of (fn := Go.Proofs.Try.f39) (by kernel_rfl) (by kernel_rfl) (by kernel_rfl)
/- spec.DrawPutStacks -/ instance : TFun P 40 := tfun_of (fn := Go.Proofs.Try.f40) (by kernel_rfl) (by kernel_rfl) (by kernel_rfl)
/- impl.PutStacks -/ instance : TFun P 41 := tfun_of (fn := Go.Proofs.Try.f41) (by kernel_rfl) (by kernel_rfl) (by kernel_rfl)
/- laws.equalInts -/ instance : TFun P 42 := tfun_of (fn := Go.Proofs.Try.f42) (by kernel_rfl) (by kernel_rfl) (by kernel_rfl)
/- spec.PutStacks -/ instance : TFun P 43 := tfun_of (fn := Go.Proofs.Try.f43) (by kernel_rfl) (by kernel_rfl) (by kernel_rfl)
/- impl.ValidTurn -/ instance : TFun P 44 := tfun_of (fn := Go.Proofs.Try.f44) (by kernel_rfl) (by kernel_rfl) (by kernel_rfl)
/- impl.TakeStacks -/ instance : TFun P 45 := tfun_of (fn := Go.Proofs.Try.f45) (by kernel_rfl) (by kernel_rfl) (by kernel_rfl)
/- impl.BufferFor -/ instance : TFun P 46 := tfun_of (fn := Go.Proofs.Try.f46) (by kernel_rfl) (by kernel_rfl) (by kernel_rfl)
/- impl.LiftsOf -/ instance : TFun P 47 := tfun_of (fn := Go.Proofs.Try.f47) (by kernel_rfl) (by kernel_rfl) (by kernel_rfl)
/- impl.PassBuffer -/ instance : TFun P 48 := tfun_of (fn := Go.Proofs.Try.f48) (by kernel_rfl) (by kernel_rfl) (by kernel_rfl)
/- impl.SwapsFor -/ instance : TFun P 49 := tfun_of (fn := Go.Proofs.Try.f49) (by kernel_rfl) (by kernel_rfl) (by kernel_rfl)
/- impl.StacksFor -/ instance : TFun P 50 := tfun_of (fn := Go.Proofs.Try.f50) (by kernel_rfl) (by kernel_rfl) (by kernel_rfl)
/- spec.DrawShelfPlans -/ instance : TFun P 51 := tfun_of (fn := Go.Proofs.Try.f51) (by kernel_rfl) (by kernel_rfl) (by kernel_rfl)
/- laws.equalPlans -/ instance : TFun P 52 := tfun_of (fn := Go.Proofs.Try.f52) (by kernel_rfl) (by kernel_rfl) (by kernel_rfl)
/- spec.ShelfPlans -/ instance : TFun P 53 := tfun_of (fn := Go.Proofs.Try.f53) (by kernel_rfl) (by kernel_rfl) (by kernel_rfl)
/- laws.area -/ instance : TFun P 54 := tfun_of (fn := Go.Proofs.Try.f54) (by kernel_rfl) (by kernel_rfl) (by kernel_rfl)
/- impl.PlanOfPlaces -/ instance : TFun P 55 := tfun_of (fn := Go.Proofs.Try.f55) (by kernel_rfl) (by kernel_rfl) (by kernel_rfl)
/- impl.SamePlaces -/ instance : TFun P 56 := tfun_of (fn := Go.Proofs.Try.f56) (by kernel_rfl) (by kernel_rfl) (by kernel_rfl)
/- spec.DrawBestPlan -/ instance : TFun P 57 := tfun_of (fn := Go.Proofs.Try.f57) (by kernel_rfl) (by kernel_rfl) (by kernel_rfl)
/- impl.BestPlan -/ instance : TFun P 58 := tfun_of (fn := Go.Proofs.Try.f58) (by kernel_rfl) (by kernel_rfl) (by kernel_rfl)
/- spec.BestPlan -/ instance : TFun P 59 := tfun_of (fn := Go.Proofs.Try.f59) (by kernel_rfl) (by kernel_rfl) (by kernel_rfl)
/- laws.equalPlan -/ instance : TFun P 60 := tfun_of (fn := Go.Proofs.Try.f60) (by kernel_rfl) (by kernel_rfl) (by kernel_rfl)
/- impl.NumbersOf -/ instance : TFun P 61 := tfun_of (fn := Go.Proofs.Try.f61) (by kernel_rfl) (by kernel_rfl) (by kernel_rfl)
/- laws.highest -/ instance : TFun P 62 := tfun_of (fn := Go.Proofs.Try.f62) (by kernel_rfl) (by kernel_rfl) (by kernel_rfl)
/- impl.WaitingOf -/ instance : TFun P 63 := tfun_of (fn := Go.Proofs.Try.f63) (by kernel_rfl) (by kernel_rfl) (by kernel_rfl)
/- impl.LeastTable -/ instance : TFun P 64 := tfun_of (fn := Go.Proofs.Try.f64) (by kernel_rfl) (by kernel_rfl) (by kernel_rfl)
/- spec.newReader -/ instance : TFun P 65 := tfun_of (fn := Go.Proofs.Try.f65) (by kernel_rfl) (by kernel_rfl) (by kernel_rfl)
/- spec.anySheetWork -/ instance : TFun P 66 := tfun_of (fn := Go.Proofs.Try.f66) (by kernel_rfl) (by kernel_rfl) (by kernel_rfl)
/- (*spec.reader).one -/ instance : TFun P 67 := tfun_of (fn := Go.Proofs.Try.f67) (by kernel_rfl) (by kernel_rfl) (by kernel_rfl)
/- (*spec.reader).pick -/ instance : TFun P 68 := tfun_of (fn := Go.Proofs.Try.f68) (by kernel_rfl) (by kernel_rfl) (by kernel_rfl)
/- impl.bestTold -/ instance : TFun P 69 := tfun_of (fn := Go.Proofs.Try.f69) (by kernel_rfl) (by kernel_rfl) (by kernel_rfl)
/- impl.valuesOf -/ instance : TFun P 70 := tfun_of (fn := Go.Proofs.Try.f70) (by kernel_rfl) (by kernel_rfl) (by kernel_rfl)
/- spec.validValues -/ instance : TFun P 71 := tfun_of (fn := Go.Proofs.Try.f71) (by kernel_rfl) (by kernel_rfl) (by kernel_rfl)
/- spec.valueTable -/ instance : TFun P 72 := tfun_of (fn := Go.Proofs.Try.f72) (by kernel_rfl) (by kernel_rfl) (by kernel_rfl)
/- impl.plainWork -/ instance : TFun P 73 := tfun_of (fn := Go.Proofs.Try.f73) (by kernel_rfl) (by kernel_rfl) (by kernel_rfl)
/- impl.shelves -/ instance : TFun P 74 := tfun_of (fn := Go.Proofs.Try.f74) (by kernel_rfl) (by kernel_rfl) (by kernel_rfl)
/- impl.sheetPlan -/ instance : TFun P 75 := tfun_of (fn := Go.Proofs.Try.f75) (by kernel_rfl) (by kernel_rfl) (by kernel_rfl)
/- impl.ValidPlan -/ instance : TFun P 76 := tfun_of (fn := Go.Proofs.Try.f76) (by kernel_rfl) (by kernel_rfl) (by kernel_rfl)
/- spec.cutsPlan -/ instance : TFun P 77 := tfun_of (fn := Go.Proofs.Try.f77) (by kernel_rfl) (by kernel_rfl) (by kernel_rfl)
/- spec.anySteps -/ instance : TFun P 78 := tfun_of (fn := Go.Proofs.Try.f78) (by kernel_rfl) (by kernel_rfl) (by kernel_rfl)
/- impl.partsOf -/ instance : TFun P 79 := tfun_of (fn := Go.Proofs.Try.f79) (by kernel_rfl) (by kernel_rfl) (by kernel_rfl)
/- impl.knotsOf -/ instance : TFun P 80 := tfun_of (fn := Go.Proofs.Try.f80) (by kernel_rfl) (by kernel_rfl) (by kernel_rfl)
/- impl.beginsOrder -/ instance : TFun P 81 := tfun_of (fn := Go.Proofs.Try.f81) (by kernel_rfl) (by kernel_rfl) (by kernel_rfl)
/- slices.Index[[]impl.Box,impl.Box] -/ instance : TFun P 82 := tfun_of (fn := Go.Proofs.Try.f82) (by kernel_rfl) (by kernel_rfl) (by kernel_rfl)
/- slices.Delete[[]impl.Box,impl.Box] -/ instance : TFun P 83 := tfun_of (fn := Go.Proofs.Try.f83) (by kernel_rfl) (by kernel_rfl) (by kernel_rfl)
/- impl.splitBox -/ instance : TFun P 84 := tfun_of (fn := Go.Proofs.Try.f84) (by kernel_rfl) (by kernel_rfl) (by kernel_rfl)
/- spec.validPlan -/ instance : TFun P 85 := tfun_of (fn := Go.Proofs.Try.f85) (by kernel_rfl) (by kernel_rfl) (by kernel_rfl)
/- spec.innerNodes -/ instance : TFun P 86 := tfun_of (fn := Go.Proofs.Try.f86) (by kernel_rfl) (by kernel_rfl) (by kernel_rfl)
/- spec.aboves -/ instance : TFun P 87 := tfun_of (fn := Go.Proofs.Try.f87) (by kernel_rfl) (by kernel_rfl) (by kernel_rfl)
/- spec.placeIn -/ instance : TFun P 88 := tfun_of (fn := Go.Proofs.Try.f88) (by kernel_rfl) (by kernel_rfl) (by kernel_rfl)
/- spec.partAt -/ instance : TFun P 89 := tfun_of (fn := Go.Proofs.Try.f89) (by kernel_rfl) (by kernel_rfl) (by kernel_rfl)
/- spec.apply -/ instance : TFun P 90 := tfun_of (fn := Go.Proofs.Try.f90) (by kernel_rfl) (by kernel_rfl) (by kernel_rfl)
/- impl.PlanSize -/ instance : TFun P 91 := tfun_of (fn := Go.Proofs.Try.f91) (by kernel_rfl) (by kernel_rfl) (by kernel_rfl)
/- impl.addBest -/ instance : TFun P 92 := tfun_of (fn := Go.Proofs.Try.f92) (by kernel_rfl) (by kernel_rfl) (by kernel_rfl)
/- laws.szPaneS -/ instance : TFun P 93 := tfun_of (fn := Go.Proofs.Try.f93) (by kernel_rfl) (by kernel_rfl) (by kernel_rfl)
/- laws.szPlanS -/ instance : TFun P 94 := tfun_of (fn := Go.Proofs.Try.f94) (by kernel_rfl) (by kernel_rfl) (by kernel_rfl)
/- laws.toPaneS -/ instance : TFun P 95 := tfun_of (fn := Go.Proofs.Try.f95) (by kernel_rfl) (by kernel_rfl) (by kernel_rfl)
/- laws.toPlanS -/ instance : TFun P 96 := tfun_of (fn := Go.Proofs.Try.f96) (by kernel_rfl) (by kernel_rfl) (by kernel_rfl)
/- laws.eqBox -/ instance : TFun P 97 := tfun_of (fn := Go.Proofs.Try.f97) (by kernel_rfl) (by kernel_rfl) (by kernel_rfl)
/- laws.eqPaneS -/ instance : TFun P 98 := tfun_of (fn := Go.Proofs.Try.f98) (by kernel_rfl) (by kernel_rfl) (by kernel_rfl)
/- laws.eqPlanS -/ instance : TFun P 99 := tfun_of (fn := Go.Proofs.Try.f99) (by kernel_rfl) (by kernel_rfl) (by kernel_rfl)
/- laws.markPaneS -/ instance : TFun P 100 := tfun_of (fn := Go.Proofs.Try.f100) (by kernel_rfl) (by kernel_rfl) (by kernel_rfl)
/- laws.markPlanS -/ instance : TFun P 101 := tfun_of (fn := Go.Proofs.Try.f101) (by kernel_rfl) (by kernel_rfl) (by kernel_rfl)
/- spec.anyTurn -/ instance : TFun P 102 := tfun_of (fn := Go.Proofs.Try.f102) (by kernel_rfl) (by kernel_rfl) (by kernel_rfl)
/- slices.IndexFunc[[]int,int] -/ instance : TFun P 103 := tfun_of (fn := Go.Proofs.Try.f103) (by kernel_rfl) (by kernel_rfl) (by kernel_rfl)
/- impl.PutStacks$1 -/ instance : TFun P 104 := tfun_of (fn := Go.Proofs.Try.f104) (by kernel_rfl) (by kernel_rfl) (by kernel_rfl)
/- spec.validTurn -/ instance : TFun P 105 := tfun_of (fn := Go.Proofs.Try.f105) (by kernel_rfl) (by kernel_rfl) (by kernel_rfl)
/- spec.putStacks -/ instance : TFun P 106 := tfun_of (fn := Go.Proofs.Try.f106) (by kernel_rfl) (by kernel_rfl) (by kernel_rfl)
/- impl.isOrder -/ instance : TFun P 107 := tfun_of (fn := Go.Proofs.Try.f107) (by kernel_rfl) (by kernel_rfl) (by kernel_rfl)
/- impl.validStacks -/ instance : TFun P 108 := tfun_of (fn := Go.Proofs.Try.f108) (by kernel_rfl) (by kernel_rfl) (by kernel_rfl)
/- slices.Index[[]int,int] -/ instance : TFun P 109 := tfun_of (fn := Go.Proofs.Try.f109) (by kernel_rfl) (by kernel_rfl) (by kernel_rfl)
/- impl.topOf -/ instance : TFun P 110 := tfun_of (fn := Go.Proofs.Try.f110) (by kernel_rfl) (by kernel_rfl) (by kernel_rfl)
/- impl.inOrder -/ instance : TFun P 111 := tfun_of (fn := Go.Proofs.Try.f111) (by kernel_rfl) (by kernel_rfl) (by kernel_rfl)
/- slices.Sort[[]int,int] -/ instance : TFun P 112 := tfun_of (fn := Go.Proofs.Try.f112) (by kernel_rfl) (by kernel_rfl) (by kernel_rfl)
/- impl.LongestRise -/ instance : TFun P 113 := tfun_of (fn := Go.Proofs.Try.f113) (by kernel_rfl) (by kernel_rfl) (by kernel_rfl)
/- spec.validWork -/ instance : TFun P 114 := tfun_of (fn := Go.Proofs.Try.f114) (by kernel_rfl) (by kernel_rfl) (by kernel_rfl)
/- spec.fixed -/ instance : TFun P 115 := tfun_of (fn := Go.Proofs.Try.f115) (by kernel_rfl) (by kernel_rfl) (by kernel_rfl)
/- spec.shelfPlans -/ instance : TFun P 116 := tfun_of (fn := Go.Proofs.Try.f116) (by kernel_rfl) (by kernel_rfl) (by kernel_rfl)
/- impl.ValidPlaces -/ instance : TFun P 117 := tfun_of (fn := Go.Proofs.Try.f117) (by kernel_rfl) (by kernel_rfl) (by kernel_rfl)
/- impl.planPlaces -/ instance : TFun P 118 := tfun_of (fn := Go.Proofs.Try.f118) (by kernel_rfl) (by kernel_rfl) (by kernel_rfl)
/- impl.sheetOf -/ instance : TFun P 119 := tfun_of (fn := Go.Proofs.Try.f119) (by kernel_rfl) (by kernel_rfl) (by kernel_rfl)
/- impl.hasPlace -/ instance : TFun P 120 := tfun_of (fn := Go.Proofs.Try.f120) (by kernel_rfl) (by kernel_rfl) (by kernel_rfl)
/- impl.bestPlanFor -/ instance : TFun P 121 := tfun_of (fn := Go.Proofs.Try.f121) (by kernel_rfl) (by kernel_rfl) (by kernel_rfl)
/- spec.bestPlan -/ instance : TFun P 122 := tfun_of (fn := Go.Proofs.Try.f122) (by kernel_rfl) (by kernel_rfl) (by kernel_rfl)
/- spec.planSize -/ instance : TFun P 123 := tfun_of (fn := Go.Proofs.Try.f123) (by kernel_rfl) (by kernel_rfl) (by kernel_rfl)
/- impl.tableFor -/ instance : TFun P 124 := tfun_of (fn := Go.Proofs.Try.f124) (by kernel_rfl) (by kernel_rfl) (by kernel_rfl)
/- spec.sheetWork -/ instance : TFun P 125 := tfun_of (fn := Go.Proofs.Try.f125) (by kernel_rfl) (by kernel_rfl) (by kernel_rfl)
/- impl.ValidWork -/ instance : TFun P 126 := tfun_of (fn := Go.Proofs.Try.f126) (by kernel_rfl) (by kernel_rfl) (by kernel_rfl)
/- impl.bestPane -/ instance : TFun P 127 := tfun_of (fn := Go.Proofs.Try.f127) (by kernel_rfl) (by kernel_rfl) (by kernel_rfl)
/- spec.inRange -/ instance : TFun P 128 := tfun_of (fn := Go.Proofs.Try.f128) (by kernel_rfl) (by kernel_rfl) (by kernel_rfl)
/- spec.leafValue -/ instance : TFun P 129 := tfun_of (fn := Go.Proofs.Try.f129) (by kernel_rfl) (by kernel_rfl) (by kernel_rfl)
/- impl.indicesBy -/ instance : TFun P 130 := tfun_of (fn := Go.Proofs.Try.f130) (by kernel_rfl) (by kernel_rfl) (by kernel_rfl)
/- impl.shelves$1 -/ instance : TFun P 131 := tfun_of (fn := Go.Proofs.Try.f131) (by kernel_rfl) (by kernel_rfl) (by kernel_rfl)
/- impl.rowPlan -/ instance : TFun P 132 := tfun_of (fn := Go.Proofs.Try.f132) (by kernel_rfl) (by kernel_rfl) (by kernel_rfl)
/- impl.planFits -/ instance : TFun P 133 := tfun_of (fn := Go.Proofs.Try.f133) (by kernel_rfl) (by kernel_rfl) (by kernel_rfl)
/- spec.workPlan -/ instance : TFun P 134 := tfun_of (fn := Go.Proofs.Try.f134) (by kernel_rfl) (by kernel_rfl) (by kernel_rfl)
/- spec.cutsOf -/ instance : TFun P 135 := tfun_of (fn := Go.Proofs.Try.f135) (by kernel_rfl) (by kernel_rfl) (by kernel_rfl)
/- spec.anyPlan -/ instance : TFun P 136 := tfun_of (fn := Go.Proofs.Try.f136) (by kernel_rfl) (by kernel_rfl) (by kernel_rfl)
/- spec.someSteps -/ instance : TFun P 137 := tfun_of (fn := Go.Proofs.Try.f137) (by kernel_rfl) (by kernel_rfl) (by kernel_rfl)
/- impl.addParts -/ instance : TFun P 138 := tfun_of (fn := Go.Proofs.Try.f138) (by kernel_rfl) (by kernel_rfl) (by kernel_rfl)
/- impl.addKnots -/ instance : TFun P 139 := tfun_of (fn := Go.Proofs.Try.f139) (by kernel_rfl) (by kernel_rfl) (by kernel_rfl)
/- impl.findKnot -/ instance : TFun P 140 := tfun_of (fn := Go.Proofs.Try.f140) (by kernel_rfl) (by kernel_rfl) (by kernel_rfl)
/- spec.fitsPlan -/ instance : TFun P 141 := tfun_of (fn := Go.Proofs.Try.f141) (by kernel_rfl) (by kernel_rfl) (by kernel_rfl)
/- spec.isCut -/ instance : TFun P 142 := tfun_of (fn := Go.Proofs.Try.f142) (by kernel_rfl) (by kernel_rfl) (by kernel_rfl)
/- impl.countParts -/ instance : TFun P 143 := tfun_of (fn := Go.Proofs.Try.f143) (by kernel_rfl) (by kernel_rfl) (by kernel_rfl)
/- impl.isCut -/ instance : TFun P 144 := tfun_of (fn := Go.Proofs.Try.f144) (by kernel_rfl) (by kernel_rfl) (by kernel_rfl)
/- laws.toPane -/ instance : TFun P 145 := tfun_of (fn := Go.Proofs.Try.f145) (by kernel_rfl) (by kernel_rfl) (by kernel_rfl)
/- laws.eqPane -/ instance : TFun P 146 := tfun_of (fn := Go.Proofs.Try.f146) (by kernel_rfl) (by kernel_rfl) (by kernel_rfl)
/- spec.someTurn -/ instance : TFun P 147 := tfun_of (fn := Go.Proofs.Try.f147) (by kernel_rfl) (by kernel_rfl) (by kernel_rfl)
/- slices.pdqsortOrdered[int] -/ instance : TFun P 148 := tfun_of (fn := Go.Proofs.Try.f148) (by kernel_rfl) (by kernel_rfl) (by kernel_rfl)
/- math/bits.Len -/ instance : TFun P 149 := tfun_of (fn := Go.Proofs.Try.f149) (by kernel_rfl) (by kernel_rfl) (by kernel_rfl)
/- impl.risesOf -/ instance : TFun P 150 := tfun_of (fn := Go.Proofs.Try.f150) (by kernel_rfl) (by kernel_rfl) (by kernel_rfl)
/- slices.Max[[]int,int] -/ instance : TFun P 151 := tfun_of (fn := Go.Proofs.Try.f151) (by kernel_rfl) (by kernel_rfl) (by kernel_rfl)
/- spec.validPanes -/ instance : TFun P 152 := tfun_of (fn := Go.Proofs.Try.f152) (by kernel_rfl) (by kernel_rfl) (by kernel_rfl)
/- spec.falling -/ instance : TFun P 153 := tfun_of (fn := Go.Proofs.Try.f153) (by kernel_rfl) (by kernel_rfl) (by kernel_rfl)
/- spec.shelves -/ instance : TFun P 154 := tfun_of (fn := Go.Proofs.Try.f154) (by kernel_rfl) (by kernel_rfl) (by kernel_rfl)
/- impl.ValidBox -/ instance : TFun P 155 := tfun_of (fn := Go.Proofs.Try.f155) (by kernel_rfl) (by kernel_rfl) (by kernel_rfl)
/- impl.InsideOf -/ instance : TFun P 156 := tfun_of (fn := Go.Proofs.Try.f156) (by kernel_rfl) (by kernel_rfl) (by kernel_rfl)
/- impl.paneFills -/ instance : TFun P 157 := tfun_of (fn := Go.Proofs.Try.f157) (by kernel_rfl) (by kernel_rfl) (by kernel_rfl)
/- impl.ApartBoxes -/ instance : TFun P 158 := tfun_of (fn := Go.Proofs.Try.f158) (by kernel_rfl) (by kernel_rfl) (by kernel_rfl)
/- impl.cutPlaces -/ instance : TFun P 159 := tfun_of (fn := Go.Proofs.Try.f159) (by kernel_rfl) (by kernel_rfl) (by kernel_rfl)
/- impl.ValidPane -/ instance : TFun P 160 := tfun_of (fn := Go.Proofs.Try.f160) (by kernel_rfl) (by kernel_rfl) (by kernel_rfl)
/- slices.SortStableFunc[[]int,int] -/ instance : TFun P 161 := tfun_of (fn := Go.Proofs.Try.f161) (by kernel_rfl) (by kernel_rfl) (by kernel_rfl)
/- spec.grow -/ instance : TFun P 162 := tfun_of (fn := Go.Proofs.Try.f162) (by kernel_rfl) (by kernel_rfl) (by kernel_rfl)
/- slices.IndexFunc[[]impl.knot,impl.knot] -/ instance : TFun P 163 := tfun_of (fn := Go.Proofs.Try.f163) (by kernel_rfl) (by kernel_rfl) (by kernel_rfl)
/- impl.findKnot$1 -/ instance : TFun P 164 := tfun_of (fn := Go.Proofs.Try.f164) (by kernel_rfl) (by kernel_rfl) (by kernel_rfl)
/- spec.copyInts -/ instance : TFun P 165 := tfun_of (fn := Go.Proofs.Try.f165) (by kernel_rfl) (by kernel_rfl) (by kernel_rfl)
/- slices.insertionSortOrdered[int] -/ instance : TFun P 166 := tfun_of (fn := Go.Proofs.Try.f166) (by kernel_rfl) (by kernel_rfl) (by kernel_rfl)
/- slices.heapSortOrdered[int] -/ instance : TFun P 167 := tfun_of (fn := Go.Proofs.Try.f167) (by kernel_rfl) (by kernel_rfl) (by kernel_rfl)
/- slices.breakPatternsOrdered[int] -/ instance : TFun P 168 := tfun_of (fn := Go.Proofs.Try.f168) (by kernel_rfl) (by kernel_rfl) (by kernel_rfl)
/- slices.choosePivotOrdered[int] -/ instance : TFun P 169 := tfun_of (fn := Go.Proofs.Try.f169) (by kernel_rfl) (by kernel_rfl) (by kernel_rfl)
/- slices.reverseRangeOrdered[int] -/ instance : TFun P 170 := tfun_of (fn := Go.Proofs.Try.f170) (by kernel_rfl) (by kernel_rfl) (by kernel_rfl)
/- slices.partialInsertionSortOrdered[int] -/ instance : TFun P 171 := tfun_of (fn := Go.Proofs.Try.f171) (by kernel_rfl) (by kernel_rfl) (by kernel_rfl)
/- cmp.Less[int] -/ instance : TFun P 172 := tfun_of (fn := Go.Proofs.Try.f172) (by kernel_rfl) (by kernel_rfl) (by kernel_rfl)
/- slices.partitionEqualOrdered[int] -/ instance : TFun P 173 := tfun_of (fn := Go.Proofs.Try.f173) (by kernel_rfl) (by kernel_rfl) (by kernel_rfl)
/- slices.partitionOrdered[int] -/ instance : TFun P 174 := tfun_of (fn := Go.Proofs.Try.f174) (by kernel_rfl) (by kernel_rfl) (by kernel_rfl)
/- math/bits.Len32 -/ instance : TFun P 175 := tfun_of (fn := Go.Proofs.Try.f175) (by kernel_rfl) (by kernel_rfl) (by kernel_rfl)
/- math/bits.Len64 -/ instance : TFun P 176 := tfun_of (fn := Go.Proofs.Try.f176) (by kernel_rfl) (by kernel_rfl) (by kernel_rfl)
/- spec.validPane -/ instance : TFun P 177 := tfun_of (fn := Go.Proofs.Try.f177) (by kernel_rfl) (by kernel_rfl) (by kernel_rfl)
/- spec.shelf -/ instance : TFun P 178 := tfun_of (fn := Go.Proofs.Try.f178) (by kernel_rfl) (by kernel_rfl) (by kernel_rfl)
/- impl.MeetOf -/ instance : TFun P 179 := tfun_of (fn := Go.Proofs.Try.f179) (by kernel_rfl) (by kernel_rfl) (by kernel_rfl)
/- impl.validBoxes -/ instance : TFun P 180 := tfun_of (fn := Go.Proofs.Try.f180) (by kernel_rfl) (by kernel_rfl) (by kernel_rfl)
/- impl.firstCut -/ instance : TFun P 181 := tfun_of (fn := Go.Proofs.Try.f181) (by kernel_rfl) (by kernel_rfl) (by kernel_rfl)
/- slices.stableCmpFunc[int] -/ instance : TFun P 182 := tfun_of (fn := Go.Proofs.Try.f182) (by kernel_rfl) (by kernel_rfl) (by kernel_rfl)
/- slices.siftDownOrdered[int] -/ instance : TFun P 183 := tfun_of (fn := Go.Proofs.Try.f183) (by kernel_rfl) (by kernel_rfl) (by kernel_rfl)
/- slices.nextPowerOfTwo -/ instance : TFun P 184 := tfun_of (fn := Go.Proofs.Try.f184) (by kernel_rfl) (by kernel_rfl) (by kernel_rfl)
/- (*slices.xorshift).Next -/ instance : TFun P 185 := tfun_of (fn := Go.Proofs.Try.f185) (by kernel_rfl) (by kernel_rfl) (by kernel_rfl)
/- slices.medianAdjacentOrdered[int] -/ instance : TFun P 186 := tfun_of (fn := Go.Proofs.Try.f186) (by kernel_rfl) (by kernel_rfl) (by kernel_rfl)
/- slices.medianOrdered[int] -/ instance : TFun P 187 := tfun_of (fn := Go.Proofs.Try.f187) (by kernel_rfl) (by kernel_rfl) (by kernel_rfl)
/- cmp.isNaN[int] -/ instance : TFun P 188 := tfun_of (fn := Go.Proofs.Try.f188) (by kernel_rfl) (by kernel_rfl) (by kernel_rfl)
/- impl.spanOf -/ instance : TFun P 189 := tfun_of (fn := Go.Proofs.Try.f189) (by kernel_rfl) (by kernel_rfl) (by kernel_rfl)
/- impl.leastCut -/ instance : TFun P 190 := tfun_of (fn := Go.Proofs.Try.f190) (by kernel_rfl) (by kernel_rfl) (by kernel_rfl)
/- slices.insertionSortCmpFunc[int] -/ instance : TFun P 191 := tfun_of (fn := Go.Proofs.Try.f191) (by kernel_rfl) (by kernel_rfl) (by kernel_rfl)
/- slices.symMergeCmpFunc[int] -/ instance : TFun P 192 := tfun_of (fn := Go.Proofs.Try.f192) (by kernel_rfl) (by kernel_rfl) (by kernel_rfl)
/- slices.order2Ordered[int] -/ instance : TFun P 193 := tfun_of (fn := Go.Proofs.Try.f193) (by kernel_rfl) (by kernel_rfl) (by kernel_rfl)
/- slices.rotateCmpFunc[int] -/ instance : TFun P 194 := tfun_of (fn := Go.Proofs.Try.f194) (by kernel_rfl) (by kernel_rfl) (by kernel_rfl)
/- slices.swapRangeCmpFunc[int] -/ instance : TFun P 195 := tfun_of (fn := Go.Proofs.Try.f195) (by kernel_rfl) (by kernel_rfl) (by kernel_rfl)
end Go.Proofs.Ytdmlfhmnlddooaa
namespace Go.Proofs.Ytdmlfhmnlddooaa
open Go Go.Pu

structure Box where
  x : Int
  y : Int
  w : Int
  h : Int
deriving DecidableEq
def Box.cells (b : Box) : List GV := [.int .i64 b.x, .int .i64 b.y, .int .i64 b.w, .int .i64 b.h]
def Box.gv (b : Box) : GV := .agg b.cells
def Box.ints (b : Box) : List Int := [b.x, b.y, b.w, b.h]
theorem Box.ints_inj {a b : Box} : a.ints = b.ints ↔ a = b := by
  cases a; cases b; simp [Box.ints]
instance : TEqF P 102 4 := ⟨by kernel_rfl, by kernel_rfl, by kernel_rfl, by kernel_rfl, by kernel_rfl⟩
structure Pane where
  w : Int
  h : Int
  turns : Bool
  kind : Int
def Pane.cells (b : Pane) : List GV := [.int .i64 b.w, .int .i64 b.h, .bool b.turns, .int .i64 b.kind]
structure Work where
  w : Int
  h : Int
  panes : List Pane
def Work.cells (k : Work) : List GV := [.int .i64 k.w, .int .i64 k.h, .sl (k.panes.map Pane.cells)]
def Work.gv (k : Work) : GV := .agg k.cells
inductive Plan where
  | mk (op a pane : Int) (turned : Bool) (kids : List Plan)
def Plan.op : Plan → Int | .mk op _ _ _ _ => op
def Plan.a : Plan → Int | .mk _ a _ _ _ => a
def Plan.pane : Plan → Int | .mk _ _ pane _ _ => pane
def Plan.turned : Plan → Bool | .mk _ _ _ turned _ => turned
def Plan.kids : Plan → List Plan | .mk _ _ _ _ kids => kids
mutual
def Plan.cells : Plan → List GV
  | .mk op a pane turned kids => [.int .i64 op, .int .i64 a, .int .i64 pane, .bool turned, .sl (Plan.cellsL kids)]
def Plan.cellsL : List Plan → List (List GV)
  | [] => []
  | p :: l => p.cells :: Plan.cellsL l
end
theorem Plan.cellsL_map (l : List Plan) : Plan.cellsL l = l.map Plan.cells := by
  induction l with
  | nil => rfl
  | cons p l ih => simp [Plan.cellsL, ih]
def Plan.gv (p : Plan) : GV := .agg p.cells

theorem map_at {α β : Type} {l : List α} {f : α → β} {k : Nat} {x : α} (h : l[k]? = some x) : (l.map f)[k]? = some (f x) := by simp [h]
theorem cellsL_at {l : List Plan} {k : Nat} {x : Plan} (h : l[k]? = some x) : (Plan.cellsL l)[k]? = some x.cells := by rw [Plan.cellsL_map]; exact map_at h

/-- Both parts of a cut glass. -/
def splitBox (p : Plan) (b : Box) : Box × Box :=
  if p.op = 2 then (⟨b.x, b.y, p.a, b.h⟩, ⟨b.x + p.a, b.y, b.w - p.a, b.h⟩) else (⟨b.x, b.y, b.w, p.a⟩, ⟨b.x, b.y + p.a, b.w, b.h - p.a⟩)
end Go.Proofs.Ytdmlfhmnlddooaa
namespace Go.Proofs.Ytdmlfhmnlddooaa
open Go Go.Pu

/- impl.splitBox: 34, 102 -> [102, 102] -/
set_option maxRecDepth 100000 in
theorem ctr_i_splitBox (p : Plan) (b : Box) (h1 : -1000 ≤ p.a ∧ p.a ≤ 1000) (h2 : -1000000 ≤ b.x ∧ b.x ≤ 1000000) (h3 : -1000000 ≤ b.y ∧ b.y ≤ 1000000) (h4 : -1000000 ≤ b.w ∧ b.w ≤ 1000000) (h5 : -1000000 ≤ b.h ∧ b.h ≤ 1000000) :
    Ctr P 84 [.g (.agg p.cells), .g (.agg b.cells)] (.g (.tup [.agg (splitBox p b).1.cells, .agg (splitBox p b).2.cells])) := by
  obtain ⟨op, at', pane, turned, kids⟩ := p
  simp only [Plan.a] at h1
  refine ctr_of (fn := Go.Proofs.Try.f84) (by kernel_rfl) rfl rfl ?_
  rintro ⟨n, w0, F0, M, pin⟩ hn
  cases hn
  refine PW_seq ?_
  -- region 0
  refine PW_region ?_
  refine P22 .none (by first | exact S_boxA rfl rfl rfl rfl | exact S_boxL rfl rfl rfl rfl rfl | exact S_boxA rfl (Plan.cells_len _) (Plan.cells_one _) rfl) ?_
  refine P22 .none (by first | exact S_boxA rfl rfl rfl rfl | exact S_boxL rfl rfl rfl rfl rfl) ?_
  refine P22 .none (S_alloc rfl) ?_
  refine P22 .none (S_alloc rfl) ?_
  refine Pend ?_
  refine PW_seq ?_
  -- region 1
  refine PW_draw (by kernel_rfl) ?_
  refine P10 .none (by first | exact S_loadOW rfl rfl rfl rfl rfl | exact S_loadRW rfl rfl rfl | exact S_loadLA rfl rfl rfl (Nat.le_of_ble_eq_true rfl) rfl | exact S_loadOA rfl rfl rfl (Nat.le_of_ble_eq_true rfl) rfl | exact S_loadRA rfl (Nat.le_of_ble_eq_true rfl) rfl) ?_
  refine P10 .none (by first | exact S_loadOW rfl rfl rfl rfl rfl | exact S_loadRW rfl rfl rfl | exact S_loadLA rfl rfl rfl (Nat.le_of_ble_eq_true rfl) rfl | exact S_loadOA rfl rfl rfl (Nat.le_of_ble_eq_true rfl) rfl | exact S_loadRA rfl (Nat.le_of_ble_eq_true rfl) rfl) ?_
  refine P22 .none (S_alloc rfl) ?_
  refine P22 .none (S_alloc rfl) ?_
  refine P01 .none (by first | exact S_storeW rfl rfl rfl rfl rfl rfl | exact S_storeWe rfl rfl rfl HK rfl rfl rfl | exact S_storeP rfl rfl rfl rfl rfl (Nat.le_of_ble_eq_true rfl) | exact S_storeLW rfl rfl rfl rfl rfl rfl rfl) ?_
  refine P01 .none (by first | exact S_storeW rfl rfl rfl rfl rfl rfl | exact S_storeWe rfl rfl rfl HK rfl rfl rfl | exact S_storeP rfl rfl rfl rfl rfl (Nat.le_of_ble_eq_true rfl) | exact S_storeLW rfl rfl rfl rfl rfl rfl rfl) ?_
  refine Pend ⟨by kernel_rfl, ?_⟩
  refine PW_join (ι := Unit) (fun _ => [(4, .c (.optr 4 0 0)), (5, .c (.optr 5 0 0)), (6, .c (.optr 6 0 0)), (7, .c (.optr 7 0 0))]) (fun _ => [(4, ⟨102, 0, .gnd [[.int .i64 0, .int .i64 0, .int .i64 0, .int .i64 0]]⟩), (5, ⟨102, 0, .gnd [[.int .i64 0, .int .i64 0, .int .i64 0, .int .i64 0]]⟩), (6, ⟨102, 0, .gnd [(splitBox (.mk op at' pane turned kids) b).1.cells]⟩), (7, ⟨102, 0, .gnd [(splitBox (.mk op at' pane turned kids) b).2.cells]⟩)]) (fun _ => True) ?_ (fun _ _ => ?_)
  ·
    refine PW_seq ?_
    -- region 2
    refine PW_region ?_
    refine P10 .none (by first | exact S_fieldO rfl rfl rfl | exact S_fieldR rfl rfl rfl) ?_
    refine P10 .none (by first | exact S_loadO1 rfl rfl rfl rfl rfl | exact S_loadR1 rfl rfl rfl | exact S_loadL1 rfl rfl rfl rfl rfl) ?_
    refine P10 .none (S_eql rfl rfl rfl) ?_
    refine Pend ?_
    refine PW_cond rfl (fun h1 => ?_) (fun h1 => ?_)
    · -- t12
      refine PW_seq ?_
      -- region 3
      refine PW_region ?_
      refine P10 .none (by first | exact S_fieldO rfl rfl rfl | exact S_fieldR rfl rfl rfl) ?_
      refine P10 .none (by first | exact S_loadO1 rfl rfl rfl rfl rfl | exact S_loadR1 rfl rfl rfl | exact S_loadL1 rfl rfl rfl rfl rfl) ?_
      refine P10 .none (by first | exact S_fieldO rfl rfl rfl | exact S_fieldR rfl rfl rfl) ?_
      refine P01 .none (by first | exact S_store1 rfl rfl rfl rfl rfl | exact S_storeL rfl rfl rfl rfl rfl | exact S_storeH rfl rfl rfl rfl | exact S_store1e rfl rfl rfl HK rfl (Nat.le_of_ble_eq_true rfl)) ?_
      refine Pend ?_
      refine PW_seq ?_
      -- region 4
      refine PW_region ?_
      refine P10 .none (by first | exact S_fieldO rfl rfl rfl | exact S_fieldR rfl rfl rfl) ?_
      refine P10 .none (by first | exact S_loadO1 rfl rfl rfl rfl rfl | exact S_loadR1 rfl rfl rfl | exact S_loadL1 rfl rfl rfl rfl rfl) ?_
      refine P10 .none (by first | exact S_fieldO rfl rfl rfl | exact S_fieldR rfl rfl rfl) ?_
      refine P10 .none (by first | exact S_loadO1 rfl rfl rfl rfl rfl | exact S_loadR1 rfl rfl rfl | exact S_loadL1 rfl rfl rfl rfl rfl) ?_
      refine P10 .none (S_add rfl rfl rfl (And.intro (by omega) (by omega))) ?_
      refine P10 .none (by first | exact S_fieldO rfl rfl rfl | exact S_fieldR rfl rfl rfl) ?_
      refine P01 .none (by first | exact S_store1 rfl rfl rfl rfl rfl | exact S_storeL rfl rfl rfl rfl rfl | exact S_storeH rfl rfl rfl rfl | exact S_store1e rfl rfl rfl HK rfl (Nat.le_of_ble_eq_true rfl)) ?_
      refine Pend ?_
      -- region 5
      refine PW_region ?_
      refine P10 .none (by first | exact S_fieldO rfl rfl rfl | exact S_fieldR rfl rfl rfl) ?_
      refine P10 .none (by first | exact S_loadO1 rfl rfl rfl rfl rfl | exact S_loadR1 rfl rfl rfl | exact S_loadL1 rfl rfl rfl rfl rfl) ?_
      refine P10 .none (by first | exact S_fieldO rfl rfl rfl | exact S_fieldR rfl rfl rfl) ?_
      refine P10 .none (by first | exact S_loadO1 rfl rfl rfl rfl rfl | exact S_loadR1 rfl rfl rfl | exact S_loadL1 rfl rfl rfl rfl rfl) ?_
      refine P10 .none (S_sub rfl rfl rfl (And.intro (by omega) (by omega))) ?_
      refine P10 .none (by first | exact S_fieldO rfl rfl rfl | exact S_fieldR rfl rfl rfl) ?_
      refine P01 .none (by first | exact S_store1 rfl rfl rfl rfl rfl | exact S_storeL rfl rfl rfl rfl rfl | exact S_storeH rfl rfl rfl rfl | exact S_store1e rfl rfl rfl HK rfl (Nat.le_of_ble_eq_true rfl)) ?_
      refine Pend ?_
      have e : splitBox (.mk op at' pane turned kids) b = (⟨b.x, b.y, at', b.h⟩, ⟨b.x + at', b.y, b.w - at', b.h⟩) := by simp [splitBox, Plan.op, Plan.a, of_decide_eq_true h1]
      rw [e]
      exact ⟨(), (trivial), by repeat (first | exact trivial | refine And.intro rfl ?_ | refine And.intro (by show some (PV.c (LC.g _)) = some (PV.c (LC.g _)); simp only [*, decide_true, decide_false, eq_self, if_true, if_false, reduceIte, Bool.false_eq_true, Bool.and_false, Bool.false_and, Bool.true_and, Bool.and_true, Bool.or_true, Bool.true_or, Bool.false_or, Bool.or_false, Bool.not_true, Bool.not_false]) ?_), by repeat (first | exact trivial | refine And.intro rfl ?_ | refine And.intro (by show some (PV.c (LC.g _)) = some (PV.c (LC.g _)); simp only [*, decide_true, decide_false, eq_self, if_true, if_false, reduceIte, Bool.false_eq_true, Bool.and_false, Bool.false_and, Bool.true_and, Bool.and_true, Bool.or_true, Bool.true_or, Bool.false_or, Bool.or_false, Bool.not_true, Bool.not_false]) ?_)⟩
    · -- not t12
      refine PW_seq ?_
      -- region 6
      refine PW_region ?_
      refine P10 .none (by first | exact S_fieldO rfl rfl rfl | exact S_fieldR rfl rfl rfl) ?_
      refine P10 .none (by first | exact S_loadO1 rfl rfl rfl rfl rfl | exact S_loadR1 rfl rfl rfl | exact S_loadL1 rfl rfl rfl rfl rfl) ?_
      refine P10 .none (by first | exact S_fieldO rfl rfl rfl | exact S_fieldR rfl rfl rfl) ?_
      refine P01 .none (by first | exact S_store1 rfl rfl rfl rfl rfl | exact S_storeL rfl rfl rfl rfl rfl | exact S_storeH rfl rfl rfl rfl | exact S_store1e rfl rfl rfl HK rfl (Nat.le_of_ble_eq_true rfl)) ?_
      refine Pend ?_
      refine PW_seq ?_
      -- region 7
      refine PW_region ?_
      refine P10 .none (by first | exact S_fieldO rfl rfl rfl | exact S_fieldR rfl rfl rfl) ?_
      refine P10 .none (by first | exact S_loadO1 rfl rfl rfl rfl rfl | exact S_loadR1 rfl rfl rfl | exact S_loadL1 rfl rfl rfl rfl rfl) ?_
      refine P10 .none (by first | exact S_fieldO rfl rfl rfl | exact S_fieldR rfl rfl rfl) ?_
      refine P10 .none (by first | exact S_loadO1 rfl rfl rfl rfl rfl | exact S_loadR1 rfl rfl rfl | exact S_loadL1 rfl rfl rfl rfl rfl) ?_
      refine P10 .none (S_add rfl rfl rfl (And.intro (by omega) (by omega))) ?_
      refine P10 .none (by first | exact S_fieldO rfl rfl rfl | exact S_fieldR rfl rfl rfl) ?_
      refine P01 .none (by first | exact S_store1 rfl rfl rfl rfl rfl | exact S_storeL rfl rfl rfl rfl rfl | exact S_storeH rfl rfl rfl rfl | exact S_store1e rfl rfl rfl HK rfl (Nat.le_of_ble_eq_true rfl)) ?_
      refine Pend ?_
      -- region 8
      refine PW_region ?_
      refine P10 .none (by first | exact S_fieldO rfl rfl rfl | exact S_fieldR rfl rfl rfl) ?_
      refine P10 .none (by first | exact S_loadO1 rfl rfl rfl rfl rfl | exact S_loadR1 rfl rfl rfl | exact S_loadL1 rfl rfl rfl rfl rfl) ?_
      refine P10 .none (by first | exact S_fieldO rfl rfl rfl | exact S_fieldR rfl rfl rfl) ?_
      refine P10 .none (by first | exact S_loadO1 rfl rfl rfl rfl rfl | exact S_loadR1 rfl rfl rfl | exact S_loadL1 rfl rfl rfl rfl rfl) ?_
      refine P10 .none (S_sub rfl rfl rfl (And.intro (by omega) (by omega))) ?_
      refine P10 .none (by first | exact S_fieldO rfl rfl rfl | exact S_fieldR rfl rfl rfl) ?_
      refine P01 .none (by first | exact S_store1 rfl rfl rfl rfl rfl | exact S_storeL rfl rfl rfl rfl rfl | exact S_storeH rfl rfl rfl rfl | exact S_store1e rfl rfl rfl HK rfl (Nat.le_of_ble_eq_true rfl)) ?_
      refine Pend ?_
      have e : splitBox (.mk op at' pane turned kids) b = (⟨b.x, b.y, b.w, at'⟩, ⟨b.x, b.y + at', b.w, b.h - at'⟩) := by simp [splitBox, Plan.op, Plan.a, of_decide_eq_false h1]
      rw [e]
      exact ⟨(), (trivial), by repeat (first | exact trivial | refine And.intro rfl ?_ | refine And.intro (by show some (PV.c (LC.g _)) = some (PV.c (LC.g _)); simp only [*, decide_true, decide_false, eq_self, if_true, if_false, reduceIte, Bool.false_eq_true, Bool.and_false, Bool.false_and, Bool.true_and, Bool.and_true, Bool.or_true, Bool.true_or, Bool.false_or, Bool.or_false, Bool.not_true, Bool.not_false]) ?_), by repeat (first | exact trivial | refine And.intro rfl ?_ | refine And.intro (by show some (PV.c (LC.g _)) = some (PV.c (LC.g _)); simp only [*, decide_true, decide_false, eq_self, if_true, if_false, reduceIte, Bool.false_eq_true, Bool.and_false, Bool.false_and, Bool.true_and, Bool.and_true, Bool.or_true, Bool.true_or, Bool.false_or, Bool.or_false, Bool.not_true, Bool.not_false]) ?_)⟩
  ·
    refine PW_seq ?_
    -- region 9
    refine PW_draw (by kernel_rfl) ?_
    refine P10 .none (by first | exact S_loadOW rfl rfl rfl rfl rfl | exact S_loadRW rfl rfl rfl | exact S_loadLA rfl rfl rfl (Nat.le_of_ble_eq_true rfl) rfl | exact S_loadOA rfl rfl rfl (Nat.le_of_ble_eq_true rfl) rfl | exact S_loadRA rfl (Nat.le_of_ble_eq_true rfl) rfl) ?_
    refine P10 .none (by first | exact S_loadOW rfl rfl rfl rfl rfl | exact S_loadRW rfl rfl rfl | exact S_loadLA rfl rfl rfl (Nat.le_of_ble_eq_true rfl) rfl | exact S_loadOA rfl rfl rfl (Nat.le_of_ble_eq_true rfl) rfl | exact S_loadRA rfl (Nat.le_of_ble_eq_true rfl) rfl) ?_
    refine P01 .none (by first | exact S_storeW rfl rfl rfl rfl rfl rfl | exact S_storeWe rfl rfl rfl HK rfl rfl rfl | exact S_storeP rfl rfl rfl rfl rfl (Nat.le_of_ble_eq_true rfl) | exact S_storeLW rfl rfl rfl rfl rfl rfl rfl) ?_
    refine P01 .none (by first | exact S_storeW rfl rfl rfl rfl rfl rfl | exact S_storeWe rfl rfl rfl HK rfl rfl rfl | exact S_storeP rfl rfl rfl rfl rfl (Nat.le_of_ble_eq_true rfl) | exact S_storeLW rfl rfl rfl rfl rfl rfl rfl) ?_
    refine Pend ⟨by kernel_rfl, ?_⟩
    refine PW_ret ⟨.inr rfl, ?_⟩
    exact ret_g (.cons (.gnd rfl rfl rfl) (.c (.g _)) (.cons (.gnd rfl rfl rfl) (.c (.g _)) .nil)) (by rfl) trivial
end Go.Proofs.Ytdmlfhmnlddooaa
namespace Go.Proofs.Ytdmlfhmnlddooaa
open Go Go.Pu

def isCut : Plan → Bool | .mk op _ _ _ _ => decide (op = 2) || decide (op = 3)
def validPane (p : Pane) : Bool := decide (1 ≤ p.w) && decide (p.w ≤ 200) && decide (1 ≤ p.h) && decide (p.h ≤ 200) && decide (0 ≤ p.kind) && decide (p.kind ≤ 9)

/- impl.isCut: 34 -> [4] -/
set_option maxRecDepth 100000 in
theorem ctr_i_isCut (p : Plan) : Ctr P 144 [.g (.agg p.cells)] (.g (.bool (isCut p))) := by
  obtain ⟨op, at', pane, turned, kids⟩ := p
  refine ctr_of (fn := Go.Proofs.Try.f144) (by kernel_rfl) rfl rfl ?_
  rintro ⟨n, w0, F0, M, pin⟩ hn
  cases hn
  refine PW_seq ?_
  -- region 0
  refine PW_region ?_
  refine P22 .none (by first | exact S_boxA rfl rfl rfl rfl | exact S_boxL rfl rfl rfl rfl rfl | exact S_boxA rfl (Plan.cells_len _) (Plan.cells_one _) rfl) ?_
  refine P10 .none (S_assign rfl rfl) ?_
  refine Pend ?_
  refine PW_seq ?_
  -- region 1
  refine PW_region ?_
  refine P10 .none (by first | exact S_fieldO rfl rfl rfl | exact S_fieldR rfl rfl rfl) ?_
  refine P10 .none (by first | exact S_loadO1 rfl rfl rfl rfl rfl | exact S_loadR1 rfl rfl rfl | exact S_loadL1 rfl rfl rfl rfl rfl) ?_
  refine P10 .none (S_eql rfl rfl rfl) ?_
  refine P10 .none (S_move rfl rfl) ?_
  refine Psplit 6 rfl (fun h1 => ?_) (fun h1 => ?_)
  · -- t6 = true
    refine Pskip rfl rfl h1 rfl ?_
    refine Pskip rfl rfl h1 rfl ?_
    refine Pskip rfl rfl h1 rfl ?_
    refine P10 .none (S_pickT rfl h1 rfl rfl) ?_
    refine P10 .none (S_assign rfl rfl) ?_
    refine Pend ?_
    refine PW_ret ⟨.inr rfl, ?_⟩
    exact ret_g (.cons (.tmp rfl) (.c (.g _)) .nil) (by dsimp only [gres, isCut]; simp only [*, decide_true, decide_false, eq_self, if_true, if_false, reduceIte, Bool.false_eq_true, Bool.and_false, Bool.false_and, Bool.true_and, Bool.and_true, Bool.or_true, Bool.true_or, Bool.false_or, Bool.or_false, Bool.not_true, Bool.not_false]) trivial
  · -- t6 = false
    refine P10 (.yes rfl rfl h1) (by first | exact S_fieldO rfl rfl rfl | exact S_fieldR rfl rfl rfl) ?_
    refine P10 (.yes rfl rfl h1) (by first | exact S_loadO1 rfl rfl rfl rfl rfl | exact S_loadR1 rfl rfl rfl | exact S_loadL1 rfl rfl rfl rfl rfl) ?_
    refine P10 (.yes rfl rfl h1) (S_eql rfl rfl rfl) ?_
    refine P10 .none (S_pickF rfl h1 rfl rfl) ?_
    refine P10 .none (S_assign rfl rfl) ?_
    refine Pend ?_
    refine PW_ret ⟨.inr rfl, ?_⟩
    exact ret_g (.cons (.tmp rfl) (.c (.g _)) .nil) (by dsimp only [gres, isCut]; simp only [*, decide_true, decide_false, eq_self, if_true, if_false, reduceIte, Bool.false_eq_true, Bool.and_false, Bool.false_and, Bool.true_and, Bool.and_true, Bool.or_true, Bool.true_or, Bool.false_or, Bool.or_false, Bool.not_true, Bool.not_false]) trivial
/- impl.ValidPane: 82 -> [4] -/
set_option maxRecDepth 100000 in
theorem ctr_i_ValidPane (p : Pane) : Ctr P 160 [.g (.agg p.cells)] (.g (.bool (validPane p))) := by
  refine ctr_of (fn := Go.Proofs.Try.f160) (by kernel_rfl) rfl rfl ?_
  rintro ⟨n, w0, F0, M, pin⟩ hn
  cases hn
  refine PW_seq ?_
  -- region 0
  refine PW_region ?_
  refine P22 .none (by first | exact S_boxA rfl rfl rfl rfl | exact S_boxL rfl rfl rfl rfl rfl) ?_
  refine P10 .none (S_assign rfl rfl) ?_
  refine Pend ?_
  refine PW_seq ?_
  -- region 1
  refine PW_region ?_
  refine P10 .none (by first | exact S_fieldO rfl rfl rfl | exact S_fieldR rfl rfl rfl) ?_
  refine P10 .none (by first | exact S_loadO1 rfl rfl rfl rfl rfl | exact S_loadR1 rfl rfl rfl | exact S_loadL1 rfl rfl rfl rfl rfl) ?_
  refine P10 .none (S_geq rfl rfl rfl) ?_
  refine P10 .none (S_move rfl rfl) ?_
  refine Psplit 6 rfl (fun h1 => ?_) (fun h1 => ?_)
  · -- t6 = true
    refine P10 (.yes rfl rfl h1) (by first | exact S_fieldO rfl rfl rfl | exact S_fieldR rfl rfl rfl) ?_
    refine P10 (.yes rfl rfl h1) (by first | exact S_loadO1 rfl rfl rfl rfl rfl | exact S_loadR1 rfl rfl rfl | exact S_loadL1 rfl rfl rfl rfl rfl) ?_
    refine P10 (.yes rfl rfl h1) (S_leq rfl rfl rfl) ?_
    refine P10 .none (S_pickT rfl h1 rfl rfl) ?_
    refine P10 .none (S_move rfl rfl) ?_
    refine Psplit 11 rfl (fun h2 => ?_) (fun h2 => ?_)
    · -- t11 = true
      refine P10 (.yes rfl rfl h2) (by first | exact S_fieldO rfl rfl rfl | exact S_fieldR rfl rfl rfl) ?_
      refine P10 (.yes rfl rfl h2) (by first | exact S_loadO1 rfl rfl rfl rfl rfl | exact S_loadR1 rfl rfl rfl | exact S_loadL1 rfl rfl rfl rfl rfl) ?_
      refine P10 (.yes rfl rfl h2) (S_geq rfl rfl rfl) ?_
      refine P10 .none (S_pickT rfl h2 rfl rfl) ?_
      refine P10 .none (S_move rfl rfl) ?_
      refine Psplit 16 rfl (fun h3 => ?_) (fun h3 => ?_)
      · -- t16 = true
        refine P10 (.yes rfl rfl h3) (by first | exact S_fieldO rfl rfl rfl | exact S_fieldR rfl rfl rfl) ?_
        refine P10 (.yes rfl rfl h3) (by first | exact S_loadO1 rfl rfl rfl rfl rfl | exact S_loadR1 rfl rfl rfl | exact S_loadL1 rfl rfl rfl rfl rfl) ?_
        refine P10 (.yes rfl rfl h3) (S_leq rfl rfl rfl) ?_
        refine P10 .none (S_pickT rfl h3 rfl rfl) ?_
        refine P10 .none (S_move rfl rfl) ?_
        refine Psplit 21 rfl (fun h4 => ?_) (fun h4 => ?_)
        · -- t21 = true
          refine P10 (.yes rfl rfl h4) (by first | exact S_fieldO rfl rfl rfl | exact S_fieldR rfl rfl rfl) ?_
          refine P10 (.yes rfl rfl h4) (by first | exact S_loadO1 rfl rfl rfl rfl rfl | exact S_loadR1 rfl rfl rfl | exact S_loadL1 rfl rfl rfl rfl rfl) ?_
          refine P10 (.yes rfl rfl h4) (S_geq rfl rfl rfl) ?_
          refine P10 .none (S_pickT rfl h4 rfl rfl) ?_
          refine P10 .none (S_move rfl rfl) ?_
          refine Psplit 26 rfl (fun h5 => ?_) (fun h5 => ?_)
          · -- t26 = true
            refine P10 (.yes rfl rfl h5) (by first | exact S_fieldO rfl rfl rfl | exact S_fieldR rfl rfl rfl) ?_
            refine P10 (.yes rfl rfl h5) (by first | exact S_loadO1 rfl rfl rfl rfl rfl | exact S_loadR1 rfl rfl rfl | exact S_loadL1 rfl rfl rfl rfl rfl) ?_
            refine P10 (.yes rfl rfl h5) (S_leq rfl rfl rfl) ?_
            refine P10 .none (S_pickT rfl h5 rfl rfl) ?_
            refine P10 .none (S_assign rfl rfl) ?_
            refine Pend ?_
            refine PW_ret ⟨.inr rfl, ?_⟩
            exact ret_g (.cons (.tmp rfl) (.c (.g _)) .nil) (by dsimp only [gres, validPane]; simp only [*, decide_true, decide_false, eq_self, if_true, if_false, reduceIte, Bool.false_eq_true, Bool.and_false, Bool.false_and, Bool.true_and, Bool.and_true, Bool.or_true, Bool.true_or, Bool.false_or, Bool.or_false, Bool.not_true, Bool.not_false]) trivial
          · -- t26 = false
            refine Pskip rfl rfl h5 rfl ?_
            refine Pskip rfl rfl h5 rfl ?_
            refine Pskip rfl rfl h5 rfl ?_
            refine P10 .none (S_pickF rfl h5 rfl rfl) ?_
            refine P10 .none (S_assign rfl rfl) ?_
            refine Pend ?_
            refine PW_ret ⟨.inr rfl, ?_⟩
            exact ret_g (.cons (.tmp rfl) (.c (.g _)) .nil) (by dsimp only [gres, validPane]; simp only [*, decide_true, decide_false, eq_self, if_true, if_false, reduceIte, Bool.false_eq_true, Bool.and_false, Bool.false_and, Bool.true_and, Bool.and_true, Bool.or_true, Bool.true_or, Bool.false_or, Bool.or_false, Bool.not_true, Bool.not_false]) trivial
        · -- t21 = false
          refine Pskip rfl rfl h4 rfl ?_
          refine Pskip rfl rfl h4 rfl ?_
          refine Pskip rfl rfl h4 rfl ?_
          refine P10 .none (S_pickF rfl h4 rfl rfl) ?_
          refine P10 .none (S_move rfl rfl) ?_
          refine Pskip rfl rfl rfl rfl ?_
          refine Pskip rfl rfl rfl rfl ?_
          refine Pskip rfl rfl rfl rfl ?_
          refine P10 .none (S_pickF rfl rfl rfl rfl) ?_
          refine P10 .none (S_assign rfl rfl) ?_
          refine Pend ?_
          refine PW_ret ⟨.inr rfl, ?_⟩
          exact ret_g (.cons (.tmp rfl) (.c (.g _)) .nil) (by dsimp only [gres, validPane]; simp only [*, decide_true, decide_false, eq_self, if_true, if_false, reduceIte, Bool.false_eq_true, Bool.and_false, Bool.false_and, Bool.true_and, Bool.and_true, Bool.or_true, Bool.true_or, Bool.false_or, Bool.or_false, Bool.not_true, Bool.not_false]) trivial
      · -- t16 = false
        refine Pskip rfl rfl h3 rfl ?_
        refine Pskip rfl rfl h3 rfl ?_
        refine Pskip rfl rfl h3 rfl ?_
        refine P10 .none (S_pickF rfl h3 rfl rfl) ?_
        refine P10 .none (S_move rfl rfl) ?_
        refine Pskip rfl rfl rfl rfl ?_
        refine Pskip rfl rfl rfl rfl ?_
        refine Pskip rfl rfl rfl rfl ?_
        refine P10 .none (S_pickF rfl rfl rfl rfl) ?_
        refine P10 .none (S_move rfl rfl) ?_
        refine Pskip rfl rfl rfl rfl ?_
        refine Pskip rfl rfl rfl rfl ?_
        refine Pskip rfl rfl rfl rfl ?_
        refine P10 .none (S_pickF rfl rfl rfl rfl) ?_
        refine P10 .none (S_assign rfl rfl) ?_
        refine Pend ?_
        refine PW_ret ⟨.inr rfl, ?_⟩
        exact ret_g (.cons (.tmp rfl) (.c (.g _)) .nil) (by dsimp only [gres, validPane]; simp only [*, decide_true, decide_false, eq_self, if_true, if_false, reduceIte, Bool.false_eq_true, Bool.and_false, Bool.false_and, Bool.true_and, Bool.and_true, Bool.or_true, Bool.true_or, Bool.false_or, Bool.or_false, Bool.not_true, Bool.not_false]) trivial
    · -- t11 = false
      refine Pskip rfl rfl h2 rfl ?_
      refine Pskip rfl rfl h2 rfl ?_
      refine Pskip rfl rfl h2 rfl ?_
      refine P10 .none (S_pickF rfl h2 rfl rfl) ?_
      refine P10 .none (S_move rfl rfl) ?_
      refine Pskip rfl rfl rfl rfl ?_
      refine Pskip rfl rfl rfl rfl ?_
      refine Pskip rfl rfl rfl rfl ?_
      refine P10 .none (S_pickF rfl rfl rfl rfl) ?_
      refine P10 .none (S_move rfl rfl) ?_
      refine Pskip rfl rfl rfl rfl ?_
      refine Pskip rfl rfl rfl rfl ?_
      refine Pskip rfl rfl rfl rfl ?_
      refine P10 .none (S_pickF rfl rfl rfl rfl) ?_
      refine P10 .none (S_move rfl rfl) ?_
      refine Pskip rfl rfl rfl rfl ?_
      refine Pskip rfl rfl rfl rfl ?_
      refine Pskip rfl rfl rfl rfl ?_
      refine P10 .none (S_pickF rfl rfl rfl rfl) ?_
      refine P10 .none (S_assign rfl rfl) ?_
      refine Pend ?_
      refine PW_ret ⟨.inr rfl, ?_⟩
      exact ret_g (.cons (.tmp rfl) (.c (.g _)) .nil) (by dsimp only [gres, validPane]; simp only [*, decide_true, decide_false, eq_self, if_true, if_false, reduceIte, Bool.false_eq_true, Bool.and_false, Bool.false_and, Bool.true_and, Bool.and_true, Bool.or_true, Bool.true_or, Bool.false_or, Bool.or_false, Bool.not_true, Bool.not_false]) trivial
  · -- t6 = false
    refine Pskip rfl rfl h1 rfl ?_
    refine Pskip rfl rfl h1 rfl ?_
    refine Pskip rfl rfl h1 rfl ?_
    refine P10 .none (S_pickF rfl h1 rfl rfl) ?_
    refine P10 .none (S_move rfl rfl) ?_
    refine Pskip rfl rfl rfl rfl ?_
    refine Pskip rfl rfl rfl rfl ?_
    refine Pskip rfl rfl rfl rfl ?_
    refine P10 .none (S_pickF rfl rfl rfl rfl) ?_
    refine P10 .none (S_move rfl rfl) ?_
    refine Pskip rfl rfl rfl rfl ?_
    refine Pskip rfl rfl rfl rfl ?_
    refine Pskip rfl rfl rfl rfl ?_
    refine P10 .none (S_pickF rfl rfl rfl rfl) ?_
    refine P10 .none (S_move rfl rfl) ?_
    refine Pskip rfl rfl rfl rfl ?_
    refine Pskip rfl rfl rfl rfl ?_
    refine Pskip rfl rfl rfl rfl ?_
    refine P10 .none (S_pickF rfl rfl rfl rfl) ?_
    refine P10 .none (S_move rfl rfl) ?_
    refine Pskip rfl rfl rfl rfl ?_
    refine Pskip rfl rfl rfl rfl ?_
    refine Pskip rfl rfl rfl rfl ?_
    refine P10 .none (S_pickF rfl rfl rfl rfl) ?_
    refine P10 .none (S_assign rfl rfl) ?_
    refine Pend ?_
    refine PW_ret ⟨.inr rfl, ?_⟩
    exact ret_g (.cons (.tmp rfl) (.c (.g _)) .nil) (by dsimp only [gres, validPane]; simp only [*, decide_true, decide_false, eq_self, if_true, if_false, reduceIte, Bool.false_eq_true, Bool.and_false, Bool.false_and, Bool.true_and, Bool.and_true, Bool.or_true, Bool.true_or, Bool.false_or, Bool.or_false, Bool.not_true, Bool.not_false]) trivial
/- impl.sheetOf: 25 -> [102] -/
set_option maxRecDepth 100000 in
theorem ctr_i_sheetOf (k : Work) : Ctr P 119 [.g (.agg k.cells)] (.g (.agg (Box.cells ⟨0, 0, k.w, k.h⟩))) := by
  refine ctr_of (fn := Go.Proofs.Try.f119) (by kernel_rfl) rfl rfl ?_
  rintro ⟨n, w0, F0, M, pin⟩ hn
  cases hn
  refine PW_seq ?_
  -- region 0
  refine PW_region ?_
  refine P22 .none (by first | exact S_boxA rfl rfl rfl rfl | exact S_boxL rfl rfl rfl rfl rfl) ?_
  refine P22 .none (S_alloc rfl) ?_
  refine Pend ?_
  refine PW_seq ?_
  -- region 1
  refine PW_region ?_
  refine P10 .none (by first | exact S_fieldO rfl rfl rfl | exact S_fieldR rfl rfl rfl) ?_
  refine P10 .none (by first | exact S_loadO1 rfl rfl rfl rfl rfl | exact S_loadR1 rfl rfl rfl | exact S_loadL1 rfl rfl rfl rfl rfl) ?_
  refine P10 .none (by first | exact S_fieldO rfl rfl rfl | exact S_fieldR rfl rfl rfl) ?_
  refine P10 .none (by first | exact S_loadO1 rfl rfl rfl rfl rfl | exact S_loadR1 rfl rfl rfl | exact S_loadL1 rfl rfl rfl rfl rfl) ?_
  refine P10 .none (S_build (gs := [_, _, _, _]) (.one rfl rfl rfl rfl (.one rfl rfl rfl rfl (.nil _))) rfl rfl) ?_
  refine P01 .none (by first | exact S_storeW rfl rfl rfl rfl rfl rfl | exact S_storeWe rfl rfl rfl HK rfl rfl rfl | exact S_storeP rfl rfl rfl rfl rfl (Nat.le_of_ble_eq_true rfl) | exact S_storeLW rfl rfl rfl rfl rfl rfl rfl) ?_
  refine Pend ?_
  refine PW_ret ⟨.inr rfl, ?_⟩
  exact ret_g (.cons (.gnd rfl rfl rfl) (.c (.g _)) .nil) (by rfl) trivial
end Go.Proofs.Ytdmlfhmnlddooaa
namespace Go.Proofs.Ytdmlfhmnlddooaa
open Go Go.Pu

theorem nat_of {i : Int} (h : decide (i < 0) = false) : ∃ j : Nat, i = (j : Int) := ⟨i.toNat, by simp at h; omega⟩
theorem at_of {α β : Type} {l : List α} {f : α → β} {j : Nat} (h : decide ((((l.map f).length : Nat) : Int) ≤ (j : Int)) = false) : ∃ x, l[j]? = some x := by
  simp at h
  exact ⟨_, List.getElem?_eq_getElem h⟩
def paneFills (k : Work) (i : Int) (turned : Bool) (w h : Int) : Bool :=
  if i < 0 then false else match k.panes[i.toNat]? with
  | none => false
  | some p => if turned then p.turns && !decide (p.w = p.h) && decide (p.h = w) && decide (p.w = h) else decide (p.w = w) && decide (p.h = h)
theorem paneFills_at {k : Work} {j : Nat} {p : Pane} (hp : k.panes[j]? = some p) (turned : Bool) (w h : Int) : paneFills k j turned w h = (if turned then p.turns && !decide (p.w = p.h) && decide (p.h = w) && decide (p.w = h) else decide (p.w = w) && decide (p.h = h)) := by
  simp [paneFills, hp]

/- impl.paneFills: 25, 3, 4, 3, 3 -> [4] -/
set_option maxRecDepth 100000 in
theorem ctr_i_paneFills (k : Work) (i : Int) (turned : Bool) (w h : Int) : Ctr P 157 [.g (.agg k.cells), .g (.int .i64 i), .g (.bool turned), .g (.int .i64 w), .g (.int .i64 h)] (.g (.bool (paneFills k i turned w h))) := by
  refine ctr_of (fn := Go.Proofs.Try.f157) (by kernel_rfl) rfl rfl ?_
  rintro ⟨n, w0, F0, M, pin⟩ hn
  cases hn
  refine PW_seq ?_
  -- region 0
  refine PW_region ?_
  refine P22 .none (by first | exact S_boxA rfl rfl rfl rfl | exact S_boxL rfl rfl rfl rfl rfl) ?_
  refine P10 .none (S_assign rfl rfl) ?_
  refine Pend ?_
  refine PW_seq ?_
  refine PW_seq ?_
  -- region 1
  refine PW_region ?_
  refine P10 .none (S_move rfl rfl) ?_
  refine P10 .none (S_lss rfl rfl rfl) ?_
  refine P10 .none (S_move rfl rfl) ?_
  refine Psplit 14 rfl (fun h1 => ?_) (fun h1 => ?_)
  · -- t14 = true
    refine Pskip rfl rfl h1 rfl ?_
    refine Pskip rfl rfl h1 rfl ?_
    refine Pskip rfl rfl h1 rfl ?_
    refine Pskip rfl rfl h1 rfl ?_
    refine Pskip rfl rfl h1 rfl ?_
    refine P10 .none (S_pickT rfl h1 rfl rfl) ?_
    refine Pend ?_
    refine PW_condT rfl rfl ?_
    refine PW_seq ?_
    -- region 2
    refine PW_region ?_
    refine P10 .none (S_assign rfl rfl) ?_
    refine Pend ?_
    refine PW_ret ⟨.inr rfl, ?_⟩
    exact ret_g (.cons (.tmp rfl) (.c (.g _)) .nil) (by simp at h1; simp [gres, paneFills, h1]) trivial
  · -- t14 = false
    refine P10 (.yes rfl rfl h1) (S_move rfl rfl) ?_
    refine P10 (.yes rfl rfl h1) (by first | exact S_fieldO rfl rfl rfl | exact S_fieldR rfl rfl rfl) ?_
    refine P10 (.yes rfl rfl h1) (by first | exact S_loadO1 rfl rfl rfl rfl rfl | exact S_loadR1 rfl rfl rfl | exact S_loadL1 rfl rfl rfl rfl rfl) ?_
    refine P10 (.yes rfl rfl h1) (by first | exact S_lenR rfl rfl | exact S_lenO rfl rfl | exact S_lenN rfl rfl | exact S_lenS rfl rfl) ?_
    refine P10 (.yes rfl rfl h1) (S_geq rfl rfl rfl) ?_
    refine P10 .none (S_pickF rfl h1 rfl rfl) ?_
    refine Pend ?_
    refine PW_cond rfl (fun h2 => ?_) (fun h2 => ?_)
    · -- t20
      refine PW_seq ?_
      -- region 2
      refine PW_region ?_
      refine P10 .none (S_assign rfl rfl) ?_
      refine Pend ?_
      refine PW_ret ⟨.inr rfl, ?_⟩
      exact ret_g (.cons (.tmp rfl) (.c (.g _)) .nil) (by simp at h1 h2; simp [gres, paneFills, show ¬ i < 0 by omega, show k.panes[i.toNat]? = none by simp; omega]) trivial
    · -- not t20
      refine PW_skip ?_
      refine PW_seq ?_
      obtain ⟨j, rfl⟩ := nat_of h1
      obtain ⟨p, hp⟩ := at_of h2
      rw [paneFills_at hp]
      -- region 3
      refine PW_region ?_
      refine P10 .none (by first | exact S_fieldO rfl rfl rfl | exact S_fieldR rfl rfl rfl) ?_
      refine P10 .none (by first | exact S_loadO1 rfl rfl rfl rfl rfl | exact S_loadR1 rfl rfl rfl | exact S_loadL1 rfl rfl rfl rfl rfl) ?_
      refine P10 .none (S_move rfl rfl) ?_
      refine P10 .none (by first | exact S_indexR rfl rfl rfl (map_at hp) rfl rfl | exact S_indexO rfl rfl rfl rfl rfl (map_at hp) rfl) ?_
      refine P10 .none (by first | exact S_loadOW rfl rfl rfl rfl rfl | exact S_loadRW rfl rfl rfl | exact S_loadLA rfl rfl rfl (Nat.le_of_ble_eq_true rfl) rfl | exact S_loadOA rfl rfl rfl (Nat.le_of_ble_eq_true rfl) rfl | exact S_loadRA rfl (Nat.le_of_ble_eq_true rfl) rfl) ?_
      refine P22 .none (S_alloc rfl) ?_
      refine P01 .none (by first | exact S_storeW rfl rfl rfl rfl rfl rfl | exact S_storeWe rfl rfl rfl HK rfl rfl rfl | exact S_storeP rfl rfl rfl rfl rfl (Nat.le_of_ble_eq_true rfl) | exact S_storeLW rfl rfl rfl rfl rfl rfl rfl) ?_
      refine Pend ?_
      refine PW_seq ?_
      refine PW_seq ?_
      -- region 4
      refine PW_region ?_
      refine P10 .none (S_move rfl rfl) ?_
      refine Pend ?_
      refine PW_cond rfl (fun h3 => ?_) (fun h3 => ?_)
      · -- t26
        refine PW_seq ?_
        -- region 5
        refine PW_region ?_
        refine P10 .none (by first | exact S_fieldO rfl rfl rfl | exact S_fieldR rfl rfl rfl) ?_
        refine P10 .none (by first | exact S_loadO1 rfl rfl rfl rfl rfl | exact S_loadR1 rfl rfl rfl | exact S_loadL1 rfl rfl rfl rfl rfl) ?_
        refine P10 .none (S_move rfl rfl) ?_
        refine Psplit 29 rfl (fun h4 => ?_) (fun h4 => ?_)
        · -- t29 = true
          refine P10 (.yes rfl rfl h4) (by first | exact S_fieldO rfl rfl rfl | exact S_fieldR rfl rfl rfl) ?_
          refine P10 (.yes rfl rfl h4) (by first | exact S_loadO1 rfl rfl rfl rfl rfl | exact S_loadR1 rfl rfl rfl | exact S_loadL1 rfl rfl rfl rfl rfl) ?_
          refine P10 (.yes rfl rfl h4) (by first | exact S_fieldO rfl rfl rfl | exact S_fieldR rfl rfl rfl) ?_
          refine P10 (.yes rfl rfl h4) (by first | exact S_loadO1 rfl rfl rfl rfl rfl | exact S_loadR1 rfl rfl rfl | exact S_loadL1 rfl rfl rfl rfl rfl) ?_
          refine P10 (.yes rfl rfl h4) (S_neq rfl rfl rfl) ?_
          refine P10 .none (S_pickT rfl h4 rfl rfl) ?_
          refine P10 .none (S_move rfl rfl) ?_
          refine Psplit 36 rfl (fun h5 => ?_) (fun h5 => ?_)
          · -- t36 = true
            refine P10 (.yes rfl rfl h5) (by first | exact S_fieldO rfl rfl rfl | exact S_fieldR rfl rfl rfl) ?_
            refine P10 (.yes rfl rfl h5) (by first | exact S_loadO1 rfl rfl rfl rfl rfl | exact S_loadR1 rfl rfl rfl | exact S_loadL1 rfl rfl rfl rfl rfl) ?_
            refine P10 (.yes rfl rfl h5) (S_move rfl rfl) ?_
            refine P10 (.yes rfl rfl h5) (S_eql rfl rfl rfl) ?_
            refine P10 .none (S_pickT rfl h5 rfl rfl) ?_
            refine P10 .none (S_move rfl rfl) ?_
            refine Psplit 42 rfl (fun h6 => ?_) (fun h6 => ?_)
            · -- t42 = true
              refine P10 (.yes rfl rfl h6) (by first | exact S_fieldO rfl rfl rfl | exact S_fieldR rfl rfl rfl) ?_
              refine P10 (.yes rfl rfl h6) (by first | exact S_loadO1 rfl rfl rfl rfl rfl | exact S_loadR1 rfl rfl rfl | exact S_loadL1 rfl rfl rfl rfl rfl) ?_
              refine P10 (.yes rfl rfl h6) (S_move rfl rfl) ?_
              refine P10 (.yes rfl rfl h6) (S_eql rfl rfl rfl) ?_
              refine P10 .none (S_pickT rfl h6 rfl rfl) ?_
              refine P10 .none (S_assign rfl rfl) ?_
              refine Pend ?_
              refine PW_ret ⟨.inr rfl, ?_⟩
              exact ret_g (.cons (.tmp rfl) (.c (.g _)) .nil) (by dsimp only [gres, id]; simp only [*, decide_true, decide_false, eq_self, if_true, if_false, reduceIte, Bool.false_eq_true, Bool.and_false, Bool.false_and, Bool.true_and, Bool.and_true, Bool.or_true, Bool.true_or, Bool.false_or, Bool.or_false, Bool.not_true, Bool.not_false]) trivial
            · -- t42 = false
              refine Pskip rfl rfl h6 rfl ?_
              refine Pskip rfl rfl h6 rfl ?_
              refine Pskip rfl rfl h6 rfl ?_
              refine Pskip rfl rfl h6 rfl ?_
              refine P10 .none (S_pickF rfl h6 rfl rfl) ?_
              refine P10 .none (S_assign rfl rfl) ?_
              refine Pend ?_
              refine PW_ret ⟨.inr rfl, ?_⟩
              exact ret_g (.cons (.tmp rfl) (.c (.g _)) .nil) (by dsimp only [gres, id]; simp only [*, decide_true, decide_false, eq_self, if_true, if_false, reduceIte, Bool.false_eq_true, Bool.and_false, Bool.false_and, Bool.true_and, Bool.and_true, Bool.or_true, Bool.true_or, Bool.false_or, Bool.or_false, Bool.not_true, Bool.not_false]) trivial
          · -- t36 = false
            refine Pskip rfl rfl h5 rfl ?_
            refine Pskip rfl rfl h5 rfl ?_
            refine Pskip rfl rfl h5 rfl ?_
            refine Pskip rfl rfl h5 rfl ?_
            refine P10 .none (S_pickF rfl h5 rfl rfl) ?_
            refine P10 .none (S_move rfl rfl) ?_
            refine Pskip rfl rfl rfl rfl ?_
            refine Pskip rfl rfl rfl rfl ?_
            refine Pskip rfl rfl rfl rfl ?_
            refine Pskip rfl rfl rfl rfl ?_
            refine P10 .none (S_pickF rfl rfl rfl rfl) ?_
            refine P10 .none (S_assign rfl rfl) ?_
            refine Pend ?_
            refine PW_ret ⟨.inr rfl, ?_⟩
            exact ret_g (.cons (.tmp rfl) (.c (.g _)) .nil) (by dsimp only [gres, id]; simp only [*, decide_true, decide_false, eq_self, if_true, if_false, reduceIte, Bool.false_eq_true, Bool.and_false, Bool.false_and, Bool.true_and, Bool.and_true, Bool.or_true, Bool.true_or, Bool.false_or, Bool.or_false, Bool.not_true, Bool.not_false]) trivial
        · -- t29 = false
          refine Pskip rfl rfl h4 rfl ?_
          refine Pskip rfl rfl h4 rfl ?_
          refine Pskip rfl rfl h4 rfl ?_
          refine Pskip rfl rfl h4 rfl ?_
          refine Pskip rfl rfl h4 rfl ?_
          refine P10 .none (S_pickF rfl h4 rfl rfl) ?_
          refine P10 .none (S_move rfl rfl) ?_
          refine Pskip rfl rfl rfl rfl ?_
          refine Pskip rfl rfl rfl rfl ?_
          refine Pskip rfl rfl rfl rfl ?_
          refine Pskip rfl rfl rfl rfl ?_
          refine P10 .none (S_pickF rfl rfl rfl rfl) ?_
          refine P10 .none (S_move rfl rfl) ?_
          refine Pskip rfl rfl rfl rfl ?_
          refine Pskip rfl rfl rfl rfl ?_
          refine Pskip rfl rfl rfl rfl ?_
          refine Pskip rfl rfl rfl rfl ?_
          refine P10 .none (S_pickF rfl rfl rfl rfl) ?_
          refine P10 .none (S_assign rfl rfl) ?_
          refine Pend ?_
          refine PW_ret ⟨.inr rfl, ?_⟩
          exact ret_g (.cons (.tmp rfl) (.c (.g _)) .nil) (by dsimp only [gres, id]; simp only [*, decide_true, decide_false, eq_self, if_true, if_false, reduceIte, Bool.false_eq_true, Bool.and_false, Bool.false_and, Bool.true_and, Bool.and_true, Bool.or_true, Bool.true_or, Bool.false_or, Bool.or_false, Bool.not_true, Bool.not_false]) trivial
      · -- not t26
        refine PW_skip ?_
        refine PW_seq ?_
        -- region 6
        refine PW_region ?_
        refine P10 .none (by first | exact S_fieldO rfl rfl rfl | exact S_fieldR rfl rfl rfl) ?_
        refine P10 .none (by first | exact S_loadO1 rfl rfl rfl rfl rfl | exact S_loadR1 rfl rfl rfl | exact S_loadL1 rfl rfl rfl rfl rfl) ?_
        refine P10 .none (S_move rfl rfl) ?_
        refine P10 .none (S_eql rfl rfl rfl) ?_
        refine P10 .none (S_move rfl rfl) ?_
        refine Psplit 52 rfl (fun h7 => ?_) (fun h7 => ?_)
        · -- t52 = true
          refine P10 (.yes rfl rfl h7) (by first | exact S_fieldO rfl rfl rfl | exact S_fieldR rfl rfl rfl) ?_
          refine P10 (.yes rfl rfl h7) (by first | exact S_loadO1 rfl rfl rfl rfl rfl | exact S_loadR1 rfl rfl rfl | exact S_loadL1 rfl rfl rfl rfl rfl) ?_
          refine P10 (.yes rfl rfl h7) (S_move rfl rfl) ?_
          refine P10 (.yes rfl rfl h7) (S_eql rfl rfl rfl) ?_
          refine P10 .none (S_pickT rfl h7 rfl rfl) ?_
          refine P10 .none (S_assign rfl rfl) ?_
          refine Pend ?_
          refine PW_ret ⟨.inr rfl, ?_⟩
          exact ret_g (.cons (.tmp rfl) (.c (.g _)) .nil) (by dsimp only [gres, id]; simp only [*, decide_true, decide_false, eq_self, if_true, if_false, reduceIte, Bool.false_eq_true, Bool.and_false, Bool.false_and, Bool.true_and, Bool.and_true, Bool.or_true, Bool.true_or, Bool.false_or, Bool.or_false, Bool.not_true, Bool.not_false]) trivial
        · -- t52 = false
          refine Pskip rfl rfl h7 rfl ?_
          refine Pskip rfl rfl h7 rfl ?_
          refine Pskip rfl rfl h7 rfl ?_
          refine Pskip rfl rfl h7 rfl ?_
          refine P10 .none (S_pickF rfl h7 rfl rfl) ?_
          refine P10 .none (S_assign rfl rfl) ?_
          refine Pend ?_
          refine PW_ret ⟨.inr rfl, ?_⟩
          exact ret_g (.cons (.tmp rfl) (.c (.g _)) .nil) (by dsimp only [gres, id]; simp only [*, decide_true, decide_false, eq_self, if_true, if_false, reduceIte, Bool.false_eq_true, Bool.and_false, Bool.false_and, Bool.true_and, Bool.and_true, Bool.or_true, Bool.true_or, Bool.false_or, Bool.or_false, Bool.not_true, Bool.not_false]) trivial
end Go.Proofs.Ytdmlfhmnlddooaa
namespace Go.Proofs.Ytdmlfhmnlddooaa
open Go Go.Pu

theorem Plan.ind {M : Plan → Prop} (h : ∀ op a pane turned kids, (∀ q ∈ kids, M q) → M (.mk op a pane turned kids)) : ∀ p, M p
  | .mk op a pane turned kids => h op a pane turned kids fun q _ => Plan.ind h q
termination_by p => SizeOf.sizeOf p
decreasing_by
  have := List.sizeOf_lt_of_mem ‹_›
  simp; omega

theorem Plan.cells_len (p : Plan) : p.cells.length = 5 := by cases p; rfl
theorem Plan.cells_one (p : Plan) : p.cells.all GV.one = true := by cases p; rfl
def countParts : Plan → Int → Int
  | .mk op a pane turned kids, room =>
    if room < 1 then -1
    else if op = 0 then (if kids.length ≠ 0 ∨ a ≠ 0 ∨ pane ≠ 0 ∨ turned = true then -1 else 1)
    else if op = 1 then (if kids.length ≠ 0 ∨ a ≠ 0 then -1 else 1)
    else if op = 2 ∨ op = 3 then
      match kids with
      | [p, q] =>
        if pane ≠ 0 ∨ turned = true then -1
        else if countParts p (room - 1) < 0 then -1
        else if countParts q (room - 1 - countParts p (room - 1)) < 0 then -1
        else 1 + countParts p (room - 1) + countParts q (room - 1 - countParts p (room - 1))
      | _ => -1
    else -1
theorem countParts_mk (op a pane : Int) (turned : Bool) (kids : List Plan) (room : Int) : countParts (.mk op a pane turned kids) room =
    if room < 1 then -1
    else if op = 0 then (if kids.length ≠ 0 ∨ a ≠ 0 ∨ pane ≠ 0 ∨ turned = true then -1 else 1)
    else if op = 1 then (if kids.length ≠ 0 ∨ a ≠ 0 then -1 else 1)
    else if op = 2 ∨ op = 3 then
      match kids with
      | [p, q] =>
        if pane ≠ 0 ∨ turned = true then -1
        else if countParts p (room - 1) < 0 then -1
        else if countParts q (room - 1 - countParts p (room - 1)) < 0 then -1
        else 1 + countParts p (room - 1) + countParts q (room - 1 - countParts p (room - 1))
      | _ => -1
    else -1 := by rw [countParts.eq_def]
theorem countParts_le : ∀ (p : Plan) (room : Int), -1 ≤ countParts p room ∧ (countParts p room ≤ room ∨ countParts p room = -1) := by
  intro p
  induction p using Plan.ind with
  | _ op a pane turned kids ih =>
    intro room
    rw [countParts_mk]
    rcases kids with _ | ⟨p, _ | ⟨q, _ | ⟨r, l⟩⟩⟩
    · dsimp only; repeat' split
      all_goals omega
    · dsimp only; repeat' split
      all_goals omega
    · have h1 := ih p (by simp) (room - 1)
      have h2 := ih q (by simp) (room - 1 - countParts p (room - 1))
      dsimp only; repeat' split
      all_goals omega
    · dsimp only; repeat' split
      all_goals omega
theorem two_of {kids : List Plan} (h : (!decide ((((Plan.cellsL kids).length : Nat) : Int) = 2)) = false) : ∃ p q, kids = [p, q] := by
  simp [Plan.cellsL_map] at h
  match kids, h with
  | [p, q], _ => exact ⟨p, q, rfl⟩
  | [], h => simp at h
  | [_], h => simp at h
  | _ :: _ :: _ :: _, h => simp at h; omega

/- impl.countParts: 34, 3 -> [3] -/
set_option maxRecDepth 100000 in
theorem ctr_i_countParts : ∀ (p : Plan) (room : Int), -1000 ≤ room ∧ room ≤ 1000 → Ctr P 143 [.g (.agg p.cells), .g (.int .i64 room)] (.g (.int .i64 (countParts p room))) := by
  intro p
  induction p using Plan.ind with
  | _ op a pane turned kids ih =>
  intro room hroom
  refine ctr_of (fn := Go.Proofs.Try.f143) (by kernel_rfl) rfl rfl ?_
  rintro ⟨n, w0, F0, M, pin⟩ hn
  cases hn
  refine PW_seq ?_
  -- region 0
  refine PW_region ?_
  refine P22 .none (by first | exact S_boxA rfl rfl rfl rfl | exact S_boxL rfl rfl rfl rfl rfl | exact S_boxA rfl (Plan.cells_len _) (Plan.cells_one _) rfl) ?_
  refine P10 .none (S_assign rfl rfl) ?_
  refine Pend ?_
  refine PW_seq ?_
  refine PW_seq ?_
  -- region 1
  refine PW_region ?_
  refine P10 .none (S_move rfl rfl) ?_
  refine P10 .none (S_lss rfl rfl rfl) ?_
  refine Pend ?_
  refine PW_cond rfl (fun h1 => ?_) (fun h1 => ?_)
  · -- t8
    refine PW_seq ?_
    -- region 2
    refine PW_region ?_
    refine P10 .none (S_assign rfl rfl) ?_
    refine Pend ?_
    refine PW_ret ⟨.inr rfl, ?_⟩
    exact ret_g (.cons (.tmp rfl) (.c (.g _)) .nil) (by simp only [gres]; rw [countParts_mk]; (try rw [if_neg (of_decide_eq_false h1)]); simp_all [Plan.cellsL_map] <;> (first | done | omega | (split <;> simp_all; done) | (rw [if_neg (by omega), if_neg (by omega)]))) trivial
  · -- not t8
    refine PW_skip ?_
    refine PW_seq ?_
    refine PW_seq ?_
    -- region 3
    refine PW_region ?_
    refine P10 .none (by first | exact S_fieldO rfl rfl rfl | exact S_fieldR rfl rfl rfl) ?_
    refine P10 .none (by first | exact S_loadO1 rfl rfl rfl rfl rfl | exact S_loadR1 rfl rfl rfl | exact S_loadL1 rfl rfl rfl rfl rfl) ?_
    refine Pend ?_
    refine PW_block ?_
    refine PW_seq ?_
    -- region 4
    refine PW_region ?_
    refine P10 .none (S_eql rfl rfl rfl) ?_
    refine P10 .none (S_assign rfl rfl) ?_
    refine Pend ?_
    refine PW_cond rfl (fun h2 => ?_) (fun h2 => ?_)
    · -- t11
      refine PW_seq ?_
      refine PW_seq ?_
      -- region 5
      refine PW_region ?_
      refine P10 .none (by first | exact S_fieldO rfl rfl rfl | exact S_fieldR rfl rfl rfl) ?_
      refine P10 .none (by first | exact S_loadO1 rfl rfl rfl rfl rfl | exact S_loadR1 rfl rfl rfl | exact S_loadL1 rfl rfl rfl rfl rfl) ?_
      refine P10 .none (by first | exact S_lenR rfl rfl | exact S_lenO rfl rfl | exact S_lenN rfl rfl | exact S_lenS rfl rfl) ?_
      refine P10 .none (S_neq rfl rfl rfl) ?_
      refine P10 .none (S_move rfl rfl) ?_
      refine Psplit 17 rfl (fun h3 => ?_) (fun h3 => ?_)
      · -- t17 = true
        refine Pskip rfl rfl h3 rfl ?_
        refine Pskip rfl rfl h3 rfl ?_
        refine Pskip rfl rfl h3 rfl ?_
        refine P10 .none (S_pickT rfl h3 rfl rfl) ?_
        refine P10 .none (S_move rfl rfl) ?_
        refine Pskip rfl rfl rfl rfl ?_
        refine Pskip rfl rfl rfl rfl ?_
        refine Pskip rfl rfl rfl rfl ?_
        refine P10 .none (S_pickT rfl rfl rfl rfl) ?_
        refine P10 .none (S_move rfl rfl) ?_
        refine Pskip rfl rfl rfl rfl ?_
        refine Pskip rfl rfl rfl rfl ?_
        refine P10 .none (S_pickT rfl rfl rfl rfl) ?_
        refine Pend ?_
        refine PW_condT rfl rfl ?_
        refine PW_seq ?_
        -- region 6
        refine PW_region ?_
        refine P10 .none (S_assign rfl rfl) ?_
        refine Pend ?_
        refine PW_ret ⟨.inr rfl, ?_⟩
        exact ret_g (.cons (.tmp rfl) (.c (.g _)) .nil) (by simp only [gres]; rw [countParts_mk]; (try rw [if_neg (of_decide_eq_false h1)]); simp_all [Plan.cellsL_map] <;> (first | done | omega | (split <;> simp_all; done) | (rw [if_neg (by omega), if_neg (by omega)]))) trivial
      · -- t17 = false
        refine P10 (.yes rfl rfl h3) (by first | exact S_fieldO rfl rfl rfl | exact S_fieldR rfl rfl rfl) ?_
        refine P10 (.yes rfl rfl h3) (by first | exact S_loadO1 rfl rfl rfl rfl rfl | exact S_loadR1 rfl rfl rfl | exact S_loadL1 rfl rfl rfl rfl rfl) ?_
        refine P10 (.yes rfl rfl h3) (S_neq rfl rfl rfl) ?_
        refine P10 .none (S_pickF rfl h3 rfl rfl) ?_
        refine P10 .none (S_move rfl rfl) ?_
        refine Psplit 22 rfl (fun h4 => ?_) (fun h4 => ?_)
        · -- t22 = true
          refine Pskip rfl rfl h4 rfl ?_
          refine Pskip rfl rfl h4 rfl ?_
          refine Pskip rfl rfl h4 rfl ?_
          refine P10 .none (S_pickT rfl h4 rfl rfl) ?_
          refine P10 .none (S_move rfl rfl) ?_
          refine Pskip rfl rfl rfl rfl ?_
          refine Pskip rfl rfl rfl rfl ?_
          refine P10 .none (S_pickT rfl rfl rfl rfl) ?_
          refine Pend ?_
          refine PW_condT rfl rfl ?_
          refine PW_seq ?_
          -- region 6
          refine PW_region ?_
          refine P10 .none (S_assign rfl rfl) ?_
          refine Pend ?_
          refine PW_ret ⟨.inr rfl, ?_⟩
          exact ret_g (.cons (.tmp rfl) (.c (.g _)) .nil) (by simp only [gres]; rw [countParts_mk]; (try rw [if_neg (of_decide_eq_false h1)]); simp_all [Plan.cellsL_map] <;> (first | done | omega | (split <;> simp_all; done) | (rw [if_neg (by omega), if_neg (by omega)]))) trivial
        · -- t22 = false
          refine P10 (.yes rfl rfl h4) (by first | exact S_fieldO rfl rfl rfl | exact S_fieldR rfl rfl rfl) ?_
          refine P10 (.yes rfl rfl h4) (by first | exact S_loadO1 rfl rfl rfl rfl rfl | exact S_loadR1 rfl rfl rfl | exact S_loadL1 rfl rfl rfl rfl rfl) ?_
          refine P10 (.yes rfl rfl h4) (S_neq rfl rfl rfl) ?_
          refine P10 .none (S_pickF rfl h4 rfl rfl) ?_
          refine P10 .none (S_move rfl rfl) ?_
          refine Psplit 27 rfl (fun h5 => ?_) (fun h5 => ?_)
          · -- t27 = true
            refine Pskip rfl rfl h5 rfl ?_
            refine Pskip rfl rfl h5 rfl ?_
            refine P10 .none (S_pickT rfl h5 rfl rfl) ?_
            refine Pend ?_
            refine PW_condT rfl rfl ?_
            refine PW_seq ?_
            -- region 6
            refine PW_region ?_
            refine P10 .none (S_assign rfl rfl) ?_
            refine Pend ?_
            refine PW_ret ⟨.inr rfl, ?_⟩
            exact ret_g (.cons (.tmp rfl) (.c (.g _)) .nil) (by simp only [gres]; rw [countParts_mk]; (try rw [if_neg (of_decide_eq_false h1)]); simp_all [Plan.cellsL_map] <;> (first | done | omega | (split <;> simp_all; done) | (rw [if_neg (by omega), if_neg (by omega)]))) trivial
          · -- t27 = false
            refine P10 (.yes rfl rfl h5) (by first | exact S_fieldO rfl rfl rfl | exact S_fieldR rfl rfl rfl) ?_
            refine P10 (.yes rfl rfl h5) (by first | exact S_loadO1 rfl rfl rfl rfl rfl | exact S_loadR1 rfl rfl rfl | exact S_loadL1 rfl rfl rfl rfl rfl) ?_
            refine P10 .none (S_pickF rfl h5 rfl rfl) ?_
            refine Pend ?_
            refine PW_cond rfl (fun h6 => ?_) (fun h6 => ?_)
            · -- t30
              refine PW_seq ?_
              -- region 6
              refine PW_region ?_
              refine P10 .none (S_assign rfl rfl) ?_
              refine Pend ?_
              refine PW_ret ⟨.inr rfl, ?_⟩
              exact ret_g (.cons (.tmp rfl) (.c (.g _)) .nil) (by simp only [gres]; rw [countParts_mk]; (try rw [if_neg (of_decide_eq_false h1)]); simp_all [Plan.cellsL_map] <;> (first | done | omega | (split <;> simp_all; done) | (rw [if_neg (by omega), if_neg (by omega)]))) trivial
            · -- not t30
              refine PW_skip ?_
              refine PW_seq ?_
              -- region 7
              refine PW_region ?_
              refine P10 .none (S_assign rfl rfl) ?_
              refine Pend ?_
              refine PW_ret ⟨.inr rfl, ?_⟩
              exact ret_g (.cons (.tmp rfl) (.c (.g _)) .nil) (by simp only [gres]; rw [countParts_mk]; (try rw [if_neg (of_decide_eq_false h1)]); simp_all [Plan.cellsL_map] <;> (first | done | omega | (split <;> simp_all; done) | (rw [if_neg (by omega), if_neg (by omega)]))) trivial
    · -- not t11
      refine PW_seq ?_
      -- region 8
      refine PW_region ?_
      refine P10 .none (S_eql rfl rfl rfl) ?_
      refine P10 .none (S_assign rfl rfl) ?_
      refine Pend ?_
      refine PW_cond rfl (fun h7 => ?_) (fun h7 => ?_)
      · -- t31
        refine PW_seq ?_
        refine PW_seq ?_
        -- region 9
        refine PW_region ?_
        refine P10 .none (by first | exact S_fieldO rfl rfl rfl | exact S_fieldR rfl rfl rfl) ?_
        refine P10 .none (by first | exact S_loadO1 rfl rfl rfl rfl rfl | exact S_loadR1 rfl rfl rfl | exact S_loadL1 rfl rfl rfl rfl rfl) ?_
        refine P10 .none (by first | exact S_lenR rfl rfl | exact S_lenO rfl rfl | exact S_lenN rfl rfl | exact S_lenS rfl rfl) ?_
        refine P10 .none (S_neq rfl rfl rfl) ?_
        refine P10 .none (S_move rfl rfl) ?_
        refine Psplit 37 rfl (fun h8 => ?_) (fun h8 => ?_)
        · -- t37 = true
          refine Pskip rfl rfl h8 rfl ?_
          refine Pskip rfl rfl h8 rfl ?_
          refine Pskip rfl rfl h8 rfl ?_
          refine P10 .none (S_pickT rfl h8 rfl rfl) ?_
          refine Pend ?_
          refine PW_condT rfl rfl ?_
          refine PW_seq ?_
          -- region 10
          refine PW_region ?_
          refine P10 .none (S_assign rfl rfl) ?_
          refine Pend ?_
          refine PW_ret ⟨.inr rfl, ?_⟩
          exact ret_g (.cons (.tmp rfl) (.c (.g _)) .nil) (by simp only [gres]; rw [countParts_mk]; (try rw [if_neg (of_decide_eq_false h1)]); simp_all [Plan.cellsL_map] <;> (first | done | omega | (split <;> simp_all; done) | (rw [if_neg (by omega), if_neg (by omega)]))) trivial
        · -- t37 = false
          refine P10 (.yes rfl rfl h8) (by first | exact S_fieldO rfl rfl rfl | exact S_fieldR rfl rfl rfl) ?_
          refine P10 (.yes rfl rfl h8) (by first | exact S_loadO1 rfl rfl rfl rfl rfl | exact S_loadR1 rfl rfl rfl | exact S_loadL1 rfl rfl rfl rfl rfl) ?_
          refine P10 (.yes rfl rfl h8) (S_neq rfl rfl rfl) ?_
          refine P10 .none (S_pickF rfl h8 rfl rfl) ?_
          refine Pend ?_
          refine PW_cond rfl (fun h9 => ?_) (fun h9 => ?_)
          · -- t41
            refine PW_seq ?_
            -- region 10
            refine PW_region ?_
            refine P10 .none (S_assign rfl rfl) ?_
            refine Pend ?_
            refine PW_ret ⟨.inr rfl, ?_⟩
            exact ret_g (.cons (.tmp rfl) (.c (.g _)) .nil) (by simp only [gres]; rw [countParts_mk]; (try rw [if_neg (of_decide_eq_false h1)]); simp_all [Plan.cellsL_map] <;> (first | done | omega | (split <;> simp_all; done) | (rw [if_neg (by omega), if_neg (by omega)]))) trivial
          · -- not t41
            refine PW_skip ?_
            refine PW_seq ?_
            -- region 11
            refine PW_region ?_
            refine P10 .none (S_assign rfl rfl) ?_
            refine Pend ?_
            refine PW_ret ⟨.inr rfl, ?_⟩
            exact ret_g (.cons (.tmp rfl) (.c (.g _)) .nil) (by simp only [gres]; rw [countParts_mk]; (try rw [if_neg (of_decide_eq_false h1)]); simp_all [Plan.cellsL_map] <;> (first | done | omega | (split <;> simp_all; done) | (rw [if_neg (by omega), if_neg (by omega)]))) trivial
      · -- not t31
        refine PW_join (ι := Unit) (fun _ => [(2, .c (.optr 2 0 0)), (1, .c (.g (.int .i64 room))), (42, .c (.g (.bool (decide (op = 2) || decide (op = 3)))))]) (fun _ => [(2, ⟨34, 0, .gnd [Plan.cells (.mk op a pane turned kids)]⟩)]) (fun _ => True) ?_ (fun _ _ => ?_)
        ·
          refine PW_seq ?_
          -- region 12
          refine PW_region ?_
          refine P10 .none (S_eql rfl rfl rfl) ?_
          refine P10 .none (S_assign rfl rfl) ?_
          refine Pend ?_
          refine PW_cond rfl (fun h10 => ?_) (fun h10 => ?_)
          · -- t42
            refine PW_skip ?_
            exact ⟨(), trivial, by repeat (first | exact trivial | refine And.intro rfl ?_ | refine And.intro (by show some (PV.c (LC.g _)) = some (PV.c (LC.g _)); simp only [*, decide_true, decide_false, eq_self, if_true, if_false, reduceIte, Bool.false_eq_true, Bool.and_false, Bool.false_and, Bool.true_and, Bool.and_true, Bool.or_true, Bool.true_or, Bool.false_or, Bool.or_false, Bool.not_true, Bool.not_false]) ?_), by repeat (first | exact trivial | refine And.intro rfl ?_ | refine And.intro (by show some (PV.c (LC.g _)) = some (PV.c (LC.g _)); simp only [*, decide_true, decide_false, eq_self, if_true, if_false, reduceIte, Bool.false_eq_true, Bool.and_false, Bool.false_and, Bool.true_and, Bool.and_true, Bool.or_true, Bool.true_or, Bool.false_or, Bool.or_false, Bool.not_true, Bool.not_false]) ?_)⟩
          · -- not t42
            -- region 13
            refine PW_region ?_
            refine P10 .none (S_eql rfl rfl rfl) ?_
            refine P10 .none (S_assign rfl rfl) ?_
            refine Pend ?_
            exact ⟨(), trivial, by repeat (first | exact trivial | refine And.intro rfl ?_ | refine And.intro (by show some (PV.c (LC.g _)) = some (PV.c (LC.g _)); simp only [*, decide_true, decide_false, eq_self, if_true, if_false, reduceIte, Bool.false_eq_true, Bool.and_false, Bool.false_and, Bool.true_and, Bool.and_true, Bool.or_true, Bool.true_or, Bool.false_or, Bool.or_false, Bool.not_true, Bool.not_false]) ?_), by repeat (first | exact trivial | refine And.intro rfl ?_ | refine And.intro (by show some (PV.c (LC.g _)) = some (PV.c (LC.g _)); simp only [*, decide_true, decide_false, eq_self, if_true, if_false, reduceIte, Bool.false_eq_true, Bool.and_false, Bool.false_and, Bool.true_and, Bool.and_true, Bool.or_true, Bool.true_or, Bool.false_or, Bool.or_false, Bool.not_true, Bool.not_false]) ?_)⟩
        ·
          refine PW_cond rfl (fun h11 => ?_) (fun h11 => ?_)
          · -- t42
            refine PW_seq ?_
            refine PW_seq ?_
            -- region 14
            refine PW_region ?_
            refine P10 .none (by first | exact S_fieldO rfl rfl rfl | exact S_fieldR rfl rfl rfl) ?_
            refine P10 .none (by first | exact S_loadO1 rfl rfl rfl rfl rfl | exact S_loadR1 rfl rfl rfl | exact S_loadL1 rfl rfl rfl rfl rfl) ?_
            refine P10 .none (by first | exact S_lenR rfl rfl | exact S_lenO rfl rfl | exact S_lenN rfl rfl | exact S_lenS rfl rfl) ?_
            refine P10 .none (S_neq rfl rfl rfl) ?_
            refine P10 .none (S_move rfl rfl) ?_
            refine Psplit 49 rfl (fun h12 => ?_) (fun h12 => ?_)
            · -- t49 = true
              refine Pskip rfl rfl h12 rfl ?_
              refine Pskip rfl rfl h12 rfl ?_
              refine Pskip rfl rfl h12 rfl ?_
              refine P10 .none (S_pickT rfl h12 rfl rfl) ?_
              refine P10 .none (S_move rfl rfl) ?_
              refine Pskip rfl rfl rfl rfl ?_
              refine Pskip rfl rfl rfl rfl ?_
              refine P10 .none (S_pickT rfl rfl rfl rfl) ?_
              refine Pend ?_
              refine PW_condT rfl rfl ?_
              refine PW_seq ?_
              -- region 15
              refine PW_region ?_
              refine P10 .none (S_assign rfl rfl) ?_
              refine Pend ?_
              refine PW_ret ⟨.inr rfl, ?_⟩
              exact ret_g (.cons (.tmp rfl) (.c (.g _)) .nil) (by simp only [gres]; rw [countParts_mk]; (try rw [if_neg (of_decide_eq_false h1)]); simp_all [Plan.cellsL_map] <;> (first | done | omega | (split <;> simp_all; done) | (rw [if_neg (by omega), if_neg (by omega)]))) trivial
            · -- t49 = false
              refine P10 (.yes rfl rfl h12) (by first | exact S_fieldO rfl rfl rfl | exact S_fieldR rfl rfl rfl) ?_
              refine P10 (.yes rfl rfl h12) (by first | exact S_loadO1 rfl rfl rfl rfl rfl | exact S_loadR1 rfl rfl rfl | exact S_loadL1 rfl rfl rfl rfl rfl) ?_
              refine P10 (.yes rfl rfl h12) (S_neq rfl rfl rfl) ?_
              refine P10 .none (S_pickF rfl h12 rfl rfl) ?_
              refine P10 .none (S_move rfl rfl) ?_
              refine Psplit 54 rfl (fun h13 => ?_) (fun h13 => ?_)
              · -- t54 = true
                refine Pskip rfl rfl h13 rfl ?_
                refine Pskip rfl rfl h13 rfl ?_
                refine P10 .none (S_pickT rfl h13 rfl rfl) ?_
                refine Pend ?_
                refine PW_condT rfl rfl ?_
                refine PW_seq ?_
                -- region 15
                refine PW_region ?_
                refine P10 .none (S_assign rfl rfl) ?_
                refine Pend ?_
                refine PW_ret ⟨.inr rfl, ?_⟩
                exact ret_g (.cons (.tmp rfl) (.c (.g _)) .nil) (by simp only [gres]; rw [countParts_mk]; (try rw [if_neg (of_decide_eq_false h1)]); simp_all [Plan.cellsL_map] <;> (first | done | omega | (split <;> simp_all; done) | (rw [if_neg (by omega), if_neg (by omega)]))) trivial
              · -- t54 = false
                refine P10 (.yes rfl rfl h13) (by first | exact S_fieldO rfl rfl rfl | exact S_fieldR rfl rfl rfl) ?_
                refine P10 (.yes rfl rfl h13) (by first | exact S_loadO1 rfl rfl rfl rfl rfl | exact S_loadR1 rfl rfl rfl | exact S_loadL1 rfl rfl rfl rfl rfl) ?_
                refine P10 .none (S_pickF rfl h13 rfl rfl) ?_
                refine Pend ?_
                refine PW_cond rfl (fun h14 => ?_) (fun h14 => ?_)
                · -- t57
                  refine PW_seq ?_
                  -- region 15
                  refine PW_region ?_
                  refine P10 .none (S_assign rfl rfl) ?_
                  refine Pend ?_
                  refine PW_ret ⟨.inr rfl, ?_⟩
                  exact ret_g (.cons (.tmp rfl) (.c (.g _)) .nil) (by simp only [gres]; rw [countParts_mk]; (try rw [if_neg (of_decide_eq_false h1)]); simp_all [Plan.cellsL_map] <;> (first | done | omega | (split <;> simp_all; done) | (rw [if_neg (by omega), if_neg (by omega)]))) trivial
                · -- not t57
                  refine PW_skip ?_
                  refine PW_seq ?_
                  obtain ⟨p, q, rfl⟩ := two_of (by assumption)
                  have b0 : ¬ room < 1 := of_decide_eq_false h1
                  have b1 := countParts_le p (room - 1)
                  have b2 := countParts_le q (room - 1 - countParts p (room - 1))
                  -- region 16
                  refine PW_region ?_
                  refine P10 .none (by first | exact S_fieldO rfl rfl rfl | exact S_fieldR rfl rfl rfl) ?_
                  refine P10 .none (by first | exact S_loadO1 rfl rfl rfl rfl rfl | exact S_loadR1 rfl rfl rfl | exact S_loadL1 rfl rfl rfl rfl rfl) ?_
                  refine P10 .none (by first | exact S_indexR rfl rfl (k := 0) rfl rfl rfl rfl | exact S_indexO rfl rfl rfl rfl (k := 0) rfl rfl rfl | exact S_indexR rfl rfl (k := 0) rfl rfl (Plan.cells_len _) rfl) ?_
                  refine P10 .none (by first | exact S_loadOW rfl rfl rfl rfl rfl | exact S_loadRW rfl rfl rfl | exact S_loadLA rfl rfl rfl (Nat.le_of_ble_eq_true rfl) rfl | exact S_loadOA rfl rfl rfl (Nat.le_of_ble_eq_true rfl) rfl | exact S_loadRA rfl (Nat.le_of_ble_eq_true rfl) rfl | exact S_loadRW rfl (Plan.cells_len _) rfl | exact S_loadOW rfl rfl rfl (Plan.cells_len _) rfl) ?_
                  refine P10 .none (S_move rfl rfl) ?_
                  refine P10 .none (S_sub rfl rfl rfl (And.intro (by omega) (by omega))) ?_
                  refine P00 .none (S_call (.one rfl (.one rfl .nil)) rfl (ih p (by simp) (room - 1) (by omega)) (.inl rfl) rfl) ?_
                  refine P10 .none (S_assign rfl rfl) ?_
                  refine Pend ?_
                  refine PW_seq ?_
                  refine PW_seq ?_
                  -- region 17
                  refine PW_region ?_
                  refine P10 .none (S_move rfl rfl) ?_
                  refine P10 .none (S_lss rfl rfl rfl) ?_
                  refine Pend ?_
                  refine PW_cond rfl (fun h15 => ?_) (fun h15 => ?_)
                  · -- t66
                    refine PW_seq ?_
                    -- region 18
                    refine PW_region ?_
                    refine P10 .none (S_assign rfl rfl) ?_
                    refine Pend ?_
                    refine PW_ret ⟨.inr rfl, ?_⟩
                    exact ret_g (.cons (.tmp rfl) (.c (.g _)) .nil) (by simp only [gres]; rw [countParts_mk]; (try rw [if_neg (of_decide_eq_false h1)]); simp_all [Plan.cellsL_map] <;> (first | done | omega | (split <;> simp_all; done) | (rw [if_neg (by omega), if_neg (by omega)]))) trivial
                  · -- not t66
                    refine PW_skip ?_
                    refine PW_seq ?_
                    -- region 19
                    refine PW_region ?_
                    refine P10 .none (by first | exact S_fieldO rfl rfl rfl | exact S_fieldR rfl rfl rfl) ?_
                    refine P10 .none (by first | exact S_loadO1 rfl rfl rfl rfl rfl | exact S_loadR1 rfl rfl rfl | exact S_loadL1 rfl rfl rfl rfl rfl) ?_
                    refine P10 .none (by first | exact S_indexR rfl rfl (k := 1) rfl rfl rfl rfl | exact S_indexO rfl rfl rfl rfl (k := 1) rfl rfl rfl | exact S_indexR rfl rfl (k := 1) rfl rfl (Plan.cells_len _) rfl) ?_
                    refine P10 .none (by first | exact S_loadOW rfl rfl rfl rfl rfl | exact S_loadRW rfl rfl rfl | exact S_loadLA rfl rfl rfl (Nat.le_of_ble_eq_true rfl) rfl | exact S_loadOA rfl rfl rfl (Nat.le_of_ble_eq_true rfl) rfl | exact S_loadRA rfl (Nat.le_of_ble_eq_true rfl) rfl | exact S_loadRW rfl (Plan.cells_len _) rfl | exact S_loadOW rfl rfl rfl (Plan.cells_len _) rfl) ?_
                    refine P10 .none (S_move rfl rfl) ?_
                    refine P10 .none (S_sub rfl rfl rfl (And.intro (by omega) (by omega))) ?_
                    refine P10 .none (S_move rfl rfl) ?_
                    refine P10 .none (S_sub rfl rfl rfl (And.intro (by omega) (by omega))) ?_
                    refine P00 .none (S_call (.one rfl (.one rfl .nil)) rfl (ih q (by simp) (room - 1 - countParts p (room - 1)) (by have := countParts_le p (room - 1); omega)) (.inl rfl) rfl) ?_
                    refine P10 .none (S_assign rfl rfl) ?_
                    refine Pend ?_
                    refine PW_seq ?_
                    refine PW_seq ?_
                    -- region 20
                    refine PW_region ?_
                    refine P10 .none (S_move rfl rfl) ?_
                    refine P10 .none (S_lss rfl rfl rfl) ?_
                    refine Pend ?_
                    refine PW_cond rfl (fun h16 => ?_) (fun h16 => ?_)
                    · -- t77
                      refine PW_seq ?_
                      -- region 21
                      refine PW_region ?_
                      refine P10 .none (S_assign rfl rfl) ?_
                      refine Pend ?_
                      refine PW_ret ⟨.inr rfl, ?_⟩
                      exact ret_g (.cons (.tmp rfl) (.c (.g _)) .nil) (by simp only [gres]; rw [countParts_mk]; (try rw [if_neg (of_decide_eq_false h1)]); simp_all [Plan.cellsL_map] <;> (first | done | omega | (split <;> simp_all; done) | (rw [if_neg (by omega), if_neg (by omega)]))) trivial
                    · -- not t77
                      refine PW_skip ?_
                      refine PW_seq ?_
                      -- region 22
                      refine PW_region ?_
                      refine P10 .none (S_move rfl rfl) ?_
                      refine P10 .none (S_add rfl rfl rfl (And.intro (by omega) (by omega))) ?_
                      refine P10 .none (S_move rfl rfl) ?_
                      refine P10 .none (S_add rfl rfl rfl (And.intro (by omega) (by omega))) ?_
                      refine P10 .none (S_assign rfl rfl) ?_
                      refine Pend ?_
                      refine PW_ret ⟨.inr rfl, ?_⟩
                      exact ret_g (.cons (.tmp rfl) (.c (.g _)) .nil) (by simp only [gres]; rw [countParts_mk]; (try rw [if_neg (of_decide_eq_false h1)]); simp_all [Plan.cellsL_map] <;> (first | done | omega | (split <;> simp_all; done) | (rw [if_neg (by omega), if_neg (by omega)]))) trivial
          · -- not t42
            refine PW_skip ?_
            refine PW_seq ?_
            -- region 23
            refine PW_region ?_
            refine P10 .none (S_assign rfl rfl) ?_
            refine Pend ?_
            refine PW_ret ⟨.inr rfl, ?_⟩
            exact ret_g (.cons (.tmp rfl) (.c (.g _)) .nil) (by simp only [gres]; rw [countParts_mk]; (try rw [if_neg (of_decide_eq_false h1)]); simp_all [Plan.cellsL_map] <;> (first | done | omega | (split <;> simp_all; done) | (rw [if_neg (by omega), if_neg (by omega)]))) trivial
end Go.Proofs.Ytdmlfhmnlddooaa
namespace Go.Proofs.Ytdmlfhmnlddooaa
open Go Go.Pu

theorem at_lt {α β : Type} {l : List α} {f : α → β} {i : Nat} (h : decide ((i : Int) < (((l.map f).length : Nat) : Int)) = true) : ∃ x, l[i]? = some x := by
  simp at h
  exact ⟨_, List.getElem?_eq_getElem h⟩
theorem all_next {α : Type} {l : List α} {f : α → Bool} {i : Nat} {x : α} (hx : l[i]? = some x) (h : (l.take i).all f = true) (hf : f x = true) : (l.take (i + 1)).all f = true := by
  rw [List.take_add_one, hx, List.all_append, h]
  simp [hf]
theorem all_not {α : Type} {l : List α} {f : α → Bool} {i : Nat} {x : α} (hx : l[i]? = some x) (hf : f x = false) : l.all f = false := by
  rw [List.all_eq_false]
  exact ⟨x, List.mem_of_getElem? hx, by simp [hf]⟩
theorem all_end {α : Type} {l : List α} {f : α → Bool} {i : Nat} (hi : l.length ≤ i) (h : (l.take i).all f = true) : l.all f = true := by
  rwa [List.take_of_length_le hi] at h
def validWork (k : Work) : Bool := decide (1 ≤ k.w) && decide (k.w ≤ 200) && decide (1 ≤ k.h) && decide (k.h ≤ 200) && decide (k.panes.length ≤ 24) && k.panes.all validPane

/- impl.ValidWork: 25 -> [4] -/
set_option maxRecDepth 100000 in
theorem ctr_i_ValidWork (k : Work) : Ctr P 126 [.g (.agg k.cells)] (.g (.bool (validWork k))) := by
  refine ctr_of (fn := Go.Proofs.Try.f126) (by kernel_rfl) rfl rfl ?_
  rintro ⟨n, w0, F0, M, pin⟩ hn
  cases hn
  refine PW_seq ?_
  -- region 0
  refine PW_region ?_
  refine P22 .none (by first | exact S_boxA rfl rfl rfl rfl | exact S_boxL rfl rfl rfl rfl rfl) ?_
  refine P10 .none (S_assign rfl rfl) ?_
  refine Pend ?_
  refine PW_seq ?_
  refine PW_seq ?_
  -- region 1
  refine PW_region ?_
  refine P10 .none (by first | exact S_fieldO rfl rfl rfl | exact S_fieldR rfl rfl rfl) ?_
  refine P10 .none (by first | exact S_loadO1 rfl rfl rfl rfl rfl | exact S_loadR1 rfl rfl rfl | exact S_loadL1 rfl rfl rfl rfl rfl) ?_
  refine P10 .none (S_lss rfl rfl rfl) ?_
  refine P10 .none (S_move rfl rfl) ?_
  refine Psplit 8 rfl (fun h1 => ?_) (fun h1 => ?_)
  · -- t8 = true
    refine Pskip rfl rfl h1 rfl ?_
    refine Pskip rfl rfl h1 rfl ?_
    refine Pskip rfl rfl h1 rfl ?_
    refine P10 .none (S_pickT rfl h1 rfl rfl) ?_
    refine P10 .none (S_move rfl rfl) ?_
    refine Pskip rfl rfl rfl rfl ?_
    refine Pskip rfl rfl rfl rfl ?_
    refine Pskip rfl rfl rfl rfl ?_
    refine P10 .none (S_pickT rfl rfl rfl rfl) ?_
    refine P10 .none (S_move rfl rfl) ?_
    refine Pskip rfl rfl rfl rfl ?_
    refine Pskip rfl rfl rfl rfl ?_
    refine Pskip rfl rfl rfl rfl ?_
    refine P10 .none (S_pickT rfl rfl rfl rfl) ?_
    refine P10 .none (S_move rfl rfl) ?_
    refine Pskip rfl rfl rfl rfl ?_
    refine Pskip rfl rfl rfl rfl ?_
    refine Pskip rfl rfl rfl rfl ?_
    refine Pskip rfl rfl rfl rfl ?_
    refine P10 .none (S_pickT rfl rfl rfl rfl) ?_
    refine Pend ?_
    refine PW_condT rfl rfl ?_
    refine PW_seq ?_
    -- region 2
    refine PW_region ?_
    refine P10 .none (S_assign rfl rfl) ?_
    refine Pend ?_
    refine PW_ret ⟨.inr rfl, ?_⟩
    exact ret_g (.cons (.tmp rfl) (.c (.g _)) .nil) (by simp only [gres, GV.bool.injEq, validWork]; simp at *; intros; omega) trivial
  · -- t8 = false
    refine P10 (.yes rfl rfl h1) (by first | exact S_fieldO rfl rfl rfl | exact S_fieldR rfl rfl rfl) ?_
    refine P10 (.yes rfl rfl h1) (by first | exact S_loadO1 rfl rfl rfl rfl rfl | exact S_loadR1 rfl rfl rfl | exact S_loadL1 rfl rfl rfl rfl rfl) ?_
    refine P10 (.yes rfl rfl h1) (S_gtr rfl rfl rfl) ?_
    refine P10 .none (S_pickF rfl h1 rfl rfl) ?_
    refine P10 .none (S_move rfl rfl) ?_
    refine Psplit 13 rfl (fun h2 => ?_) (fun h2 => ?_)
    · -- t13 = true
      refine Pskip rfl rfl h2 rfl ?_
      refine Pskip rfl rfl h2 rfl ?_
      refine Pskip rfl rfl h2 rfl ?_
      refine P10 .none (S_pickT rfl h2 rfl rfl) ?_
      refine P10 .none (S_move rfl rfl) ?_
      refine Pskip rfl rfl rfl rfl ?_
      refine Pskip rfl rfl rfl rfl ?_
      refine Pskip rfl rfl rfl rfl ?_
      refine P10 .none (S_pickT rfl rfl rfl rfl) ?_
      refine P10 .none (S_move rfl rfl) ?_
      refine Pskip rfl rfl rfl rfl ?_
      refine Pskip rfl rfl rfl rfl ?_
      refine Pskip rfl rfl rfl rfl ?_
      refine Pskip rfl rfl rfl rfl ?_
      refine P10 .none (S_pickT rfl rfl rfl rfl) ?_
      refine Pend ?_
      refine PW_condT rfl rfl ?_
      refine PW_seq ?_
      -- region 2
      refine PW_region ?_
      refine P10 .none (S_assign rfl rfl) ?_
      refine Pend ?_
      refine PW_ret ⟨.inr rfl, ?_⟩
      exact ret_g (.cons (.tmp rfl) (.c (.g _)) .nil) (by simp only [gres, GV.bool.injEq, validWork]; simp at *; intros; omega) trivial
    · -- t13 = false
      refine P10 (.yes rfl rfl h2) (by first | exact S_fieldO rfl rfl rfl | exact S_fieldR rfl rfl rfl) ?_
      refine P10 (.yes rfl rfl h2) (by first | exact S_loadO1 rfl rfl rfl rfl rfl | exact S_loadR1 rfl rfl rfl | exact S_loadL1 rfl rfl rfl rfl rfl) ?_
      refine P10 (.yes rfl rfl h2) (S_lss rfl rfl rfl) ?_
      refine P10 .none (S_pickF rfl h2 rfl rfl) ?_
      refine P10 .none (S_move rfl rfl) ?_
      refine Psplit 18 rfl (fun h3 => ?_) (fun h3 => ?_)
      · -- t18 = true
        refine Pskip rfl rfl h3 rfl ?_
        refine Pskip rfl rfl h3 rfl ?_
        refine Pskip rfl rfl h3 rfl ?_
        refine P10 .none (S_pickT rfl h3 rfl rfl) ?_
        refine P10 .none (S_move rfl rfl) ?_
        refine Pskip rfl rfl rfl rfl ?_
        refine Pskip rfl rfl rfl rfl ?_
        refine Pskip rfl rfl rfl rfl ?_
        refine Pskip rfl rfl rfl rfl ?_
        refine P10 .none (S_pickT rfl rfl rfl rfl) ?_
        refine Pend ?_
        refine PW_condT rfl rfl ?_
        refine PW_seq ?_
        -- region 2
        refine PW_region ?_
        refine P10 .none (S_assign rfl rfl) ?_
        refine Pend ?_
        refine PW_ret ⟨.inr rfl, ?_⟩
        exact ret_g (.cons (.tmp rfl) (.c (.g _)) .nil) (by simp only [gres, GV.bool.injEq, validWork]; simp at *; intros; omega) trivial
      · -- t18 = false
        refine P10 (.yes rfl rfl h3) (by first | exact S_fieldO rfl rfl rfl | exact S_fieldR rfl rfl rfl) ?_
        refine P10 (.yes rfl rfl h3) (by first | exact S_loadO1 rfl rfl rfl rfl rfl | exact S_loadR1 rfl rfl rfl | exact S_loadL1 rfl rfl rfl rfl rfl) ?_
        refine P10 (.yes rfl rfl h3) (S_gtr rfl rfl rfl) ?_
        refine P10 .none (S_pickF rfl h3 rfl rfl) ?_
        refine P10 .none (S_move rfl rfl) ?_
        refine Psplit 23 rfl (fun h4 => ?_) (fun h4 => ?_)
        · -- t23 = true
          refine Pskip rfl rfl h4 rfl ?_
          refine Pskip rfl rfl h4 rfl ?_
          refine Pskip rfl rfl h4 rfl ?_
          refine Pskip rfl rfl h4 rfl ?_
          refine P10 .none (S_pickT rfl h4 rfl rfl) ?_
          refine Pend ?_
          refine PW_condT rfl rfl ?_
          refine PW_seq ?_
          -- region 2
          refine PW_region ?_
          refine P10 .none (S_assign rfl rfl) ?_
          refine Pend ?_
          refine PW_ret ⟨.inr rfl, ?_⟩
          exact ret_g (.cons (.tmp rfl) (.c (.g _)) .nil) (by simp only [gres, GV.bool.injEq, validWork]; simp at *; intros; omega) trivial
        · -- t23 = false
          refine P10 (.yes rfl rfl h4) (by first | exact S_fieldO rfl rfl rfl | exact S_fieldR rfl rfl rfl) ?_
          refine P10 (.yes rfl rfl h4) (by first | exact S_loadO1 rfl rfl rfl rfl rfl | exact S_loadR1 rfl rfl rfl | exact S_loadL1 rfl rfl rfl rfl rfl) ?_
          refine P10 (.yes rfl rfl h4) (by first | exact S_lenR rfl rfl | exact S_lenO rfl rfl | exact S_lenN rfl rfl | exact S_lenS rfl rfl) ?_
          refine P10 (.yes rfl rfl h4) (S_gtr rfl rfl rfl) ?_
          refine P10 .none (S_pickF rfl h4 rfl rfl) ?_
          refine Pend ?_
          refine PW_cond rfl (fun h5 => ?_) (fun h5 => ?_)
          · -- t28
            refine PW_seq ?_
            -- region 2
            refine PW_region ?_
            refine P10 .none (S_assign rfl rfl) ?_
            refine Pend ?_
            refine PW_ret ⟨.inr rfl, ?_⟩
            exact ret_g (.cons (.tmp rfl) (.c (.g _)) .nil) (by simp only [gres, GV.bool.injEq, validWork]; simp at *; intros; omega) trivial
          · -- not t28
            refine PW_skip ?_
            refine PW_seq ?_
            refine PW_seq ?_
            -- region 3
            refine PW_region ?_
            refine P10 .none (by first | exact S_fieldO rfl rfl rfl | exact S_fieldR rfl rfl rfl) ?_
            refine P10 .none (by first | exact S_loadO1 rfl rfl rfl rfl rfl | exact S_loadR1 rfl rfl rfl | exact S_loadL1 rfl rfl rfl rfl rfl) ?_
            refine P10 .none (by first | exact S_lenR rfl rfl | exact S_lenO rfl rfl | exact S_lenN rfl rfl | exact S_lenS rfl rfl) ?_
            refine P10 .none (S_move rfl rfl) ?_
            refine Pend ?_
            refine PW_block ?_
            refine PW_iter (ι := Nat) (fun i => [(30, .c (.g (.sl (k.panes.map Pane.cells)))), (31, .c (.g (.int .i64 (k.panes.map Pane.cells).length))), (32, .c (.g (.int .i64 (i : Nat))))]) (fun i => []) (fun i => i ≤ k.panes.length ∧ (k.panes.take i).all validPane = true) (fun i => k.panes.length - i) 0 ⟨by omega, by simp⟩ (by repeat (first | exact trivial | refine And.intro rfl ?_ | refine And.intro (by show some (PV.c (LC.g _)) = some (PV.c (LC.g _)); simp only [*, decide_true, decide_false, eq_self, if_true, if_false, reduceIte, Bool.false_eq_true, Bool.and_false, Bool.false_and, Bool.true_and, Bool.and_true, Bool.or_true, Bool.true_or, Bool.false_or, Bool.or_false, Bool.not_true, Bool.not_false]) ?_)) trivial (fun i hi => ?_)
            refine PW_seq ?_
            -- region 4
            refine PW_region ?_
            refine P10 .none (S_lss rfl rfl rfl) ?_
            refine Pend ?_
            refine PW_seq ?_
            refine PW_cond rfl (fun h6 => ?_) (fun h6 => ?_)
            · -- t33
              refine PW_skip ?_
              refine PW_seq ?_
              refine PW_block ?_
              refine PW_seq ?_
              obtain ⟨x, hx⟩ := at_lt h6
              have hlt := (List.getElem?_eq_some_iff.1 hx).1
              have hsm : k.panes.length ≤ 24 := by simp at h5; omega
              -- region 5
              refine PW_region ?_
              refine P10 .none (by first | exact S_indexR rfl rfl rfl (map_at hx) rfl rfl | exact S_indexO rfl rfl rfl rfl rfl (map_at hx) rfl) ?_
              refine P10 .none (by first | exact S_loadOW rfl rfl rfl rfl rfl | exact S_loadRW rfl rfl rfl | exact S_loadLA rfl rfl rfl (Nat.le_of_ble_eq_true rfl) rfl | exact S_loadOA rfl rfl rfl (Nat.le_of_ble_eq_true rfl) rfl | exact S_loadRA rfl (Nat.le_of_ble_eq_true rfl) rfl) ?_
              refine P22 .none (S_alloc rfl) ?_
              refine P01 .none (by first | exact S_storeW rfl rfl rfl rfl rfl rfl | exact S_storeWe rfl rfl rfl HK rfl rfl rfl | exact S_storeP rfl rfl rfl rfl rfl (Nat.le_of_ble_eq_true rfl) | exact S_storeLW rfl rfl rfl rfl rfl rfl rfl) ?_
              refine Pend ?_
              refine PW_seq ?_
              -- region 6
              refine PW_region ?_
              refine P10 .none (by first | exact S_loadOW rfl rfl rfl rfl rfl | exact S_loadRW rfl rfl rfl | exact S_loadLA rfl rfl rfl (Nat.le_of_ble_eq_true rfl) rfl | exact S_loadOA rfl rfl rfl (Nat.le_of_ble_eq_true rfl) rfl | exact S_loadRA rfl (Nat.le_of_ble_eq_true rfl) rfl) ?_
              refine P00 .none (S_call (.one rfl .nil) rfl (ctr_i_ValidPane x) (.inl rfl) rfl) ?_
              refine P10 .none (S_not rfl rfl) ?_
              refine Pend ?_
              refine PW_cond rfl (fun h7 => ?_) (fun h7 => ?_)
              · -- t38
                refine PW_seq ?_
                -- region 7
                refine PW_region ?_
                refine P10 .none (S_assign rfl rfl) ?_
                refine Pend ?_
                refine PW_ret ⟨.inr rfl, ?_⟩
                exact ret_g (.cons (.tmp rfl) (.c (.g _)) .nil) (by simp only [gres, GV.bool.injEq, validWork, all_not hx (show validPane x = false by simpa using h7)]; simp) trivial
              · -- not t38
                refine PW_skip ?_
                -- region 8
                refine PW_region ?_
                refine P10 .none (S_add rfl rfl rfl (And.intro (by omega) (by omega))) ?_
                refine P10 .none (S_move rfl rfl) ?_
                refine Pend ?_
                exact ⟨i + 1, by omega, ⟨by omega, all_next hx hi.2 (by simpa using h7)⟩, (by repeat (first | exact trivial | refine And.intro rfl ?_ | refine And.intro (by show some (PV.c (LC.g _)) = some (PV.c (LC.g _)); simp only [*, decide_true, decide_false, eq_self, if_true, if_false, reduceIte, Bool.false_eq_true, Bool.and_false, Bool.false_and, Bool.true_and, Bool.and_true, Bool.or_true, Bool.true_or, Bool.false_or, Bool.or_false, Bool.not_true, Bool.not_false]) ?_)), trivial⟩
            · -- not t33
              refine PW_exit ?_
              refine PW_seq ?_
              -- region 9
              refine PW_region ?_
              refine P10 .none (S_assign rfl rfl) ?_
              refine Pend ?_
              refine PW_ret ⟨.inr rfl, ?_⟩
              exact ret_g (.cons (.tmp rfl) (.c (.g _)) .nil) (by simp only [gres, GV.bool.injEq, validWork, all_end (by simp at h6; omega) hi.2]; simp at h1 h2 h3 h4 h5; simp; omega) trivial
end Go.Proofs.Ytdmlfhmnlddooaa
namespace Go.Proofs.Ytdmlfhmnlddooaa
open Go Go.Pu

/-- A formed plan. -/
inductive T where
  | waste
  | pane (n : Int) (tu : Bool)
  | cut (d : Bool) (a : Int) (p q : T)
def T.plan : T → Plan
  | .waste => .mk 0 0 0 false []
  | .pane n tu => .mk 1 0 n tu []
  | .cut d a p q => .mk (if d then 2 else 3) a 0 false [p.plan, q.plan]
def T.size : T → Nat
  | .waste => 1
  | .pane _ _ => 1
  | .cut _ _ p q => 1 + p.size + q.size
theorem T.size_pos (t : T) : 1 ≤ t.size := by cases t <;> simp only [T.size] <;> omega
theorem T.ind {M : T → Prop} (h : ∀ t, (∀ d a p q, t = .cut d a p q → M p ∧ M q) → M t) : ∀ t, M t := by
  intro t
  induction t with
  | waste => exact h _ (by intros; contradiction)
  | pane n tu => exact h _ (by intros; contradiction)
  | cut d a p q ihp ihq => exact h _ (by intro d' a' p' q' e; cases e; exact ⟨ihp, ihq⟩)
def splitB (d : Bool) (a : Int) (b : Box) : Box × Box :=
  if d then (⟨b.x, b.y, a, b.h⟩, ⟨b.x + a, b.y, b.w - a, b.h⟩) else (⟨b.x, b.y, b.w, a⟩, ⟨b.x, b.y + a, b.w, b.h - a⟩)
theorem splitBox_cut (d : Bool) (a : Int) (p q : T) (b : Box) : splitBox (T.cut d a p q).plan b = splitB d a b := by
  cases d <;> simp [splitBox, T.plan, Plan.op, Plan.a, splitB]
def T.fits (k : Work) : T → Box → Bool
  | .waste, _ => true
  | .pane n tu, b => paneFills k n tu b.w b.h
  | .cut d a p q, b => decide (1 ≤ a) && decide (a < if d then b.w else b.h) && p.fits k (splitB d a b).1 && q.fits k (splitB d a b).2

theorem plan_pane {t : T} {op a pane : Int} {turned : Bool} {kids : List Plan} (h : t.plan = .mk op a pane turned kids) (ho : decide (op = 1) = true) : t = .pane pane turned ∧ a = 0 ∧ kids = [] := by
  have ho := of_decide_eq_true ho
  subst ho
  match t with
  | .waste => simp [T.plan] at h
  | .pane n tu => simp [T.plan] at h; simp [h]
  | .cut true a p q => simp [T.plan] at h
  | .cut false a p q => simp [T.plan] at h
theorem plan_down {t : T} {op a pane : Int} {turned : Bool} {kids : List Plan} (h : t.plan = .mk op a pane turned kids) (ho : decide (op = 2) = true) : ∃ p q, t = .cut true a p q ∧ kids = [p.plan, q.plan] ∧ pane = 0 ∧ turned = false := by
  have ho := of_decide_eq_true ho
  subst ho
  match t with
  | .waste => simp [T.plan] at h
  | .pane n tu => simp [T.plan] at h
  | .cut true a p q => simp [T.plan] at h; exact ⟨p, q, by simp [h]⟩
  | .cut false a p q => simp [T.plan] at h
theorem plan_across {t : T} {op a pane : Int} {turned : Bool} {kids : List Plan} (h : t.plan = .mk op a pane turned kids) (ho : decide (op = 3) = true) : ∃ p q, t = .cut false a p q ∧ kids = [p.plan, q.plan] ∧ pane = 0 ∧ turned = false := by
  have ho := of_decide_eq_true ho
  subst ho
  match t with
  | .waste => simp [T.plan] at h
  | .pane n tu => simp [T.plan] at h
  | .cut true a p q => simp [T.plan] at h
  | .cut false a p q => simp [T.plan] at h; exact ⟨p, q, by simp [h]⟩
theorem plan_waste {t : T} {op a pane : Int} {turned : Bool} {kids : List Plan} (h : t.plan = .mk op a pane turned kids) (h1 : decide (op = 1) = false) (h2 : decide (op = 2) = false) (h3 : decide (op = 3) = false) : t = .waste := by
  match t with
  | .waste => rfl
  | .pane n tu => simp [T.plan] at h; simp [← h.1] at h1
  | .cut true a p q => simp [T.plan] at h; simp [← h.1] at h2
  | .cut false a p q => simp [T.plan] at h; simp [← h.1] at h3
/-- A box on glass of at most 1000. -/
def BoxOk (b : Box) : Prop := 0 ≤ b.x ∧ 0 ≤ b.y ∧ 0 ≤ b.w ∧ 0 ≤ b.h ∧ b.x + b.w ≤ 1000 ∧ b.y + b.h ≤ 1000
theorem splitB_ok {d : Bool} {a : Int} {b : Box} (h : BoxOk b) (h1 : 1 ≤ a) (h2 : a < if d then b.w else b.h) : BoxOk (splitB d a b).1 ∧ BoxOk (splitB d a b).2 := by
  cases d <;> simp [BoxOk, splitB] at * <;> omega

/- impl.planFits: 25, 34, 102 -> [4] -/
set_option maxRecDepth 100000 in
theorem ctr_i_planFits (k : Work) : ∀ (t : T) (b : Box), BoxOk b → Ctr P 133 [.g (.agg k.cells), .g (.agg t.plan.cells), .g (.agg b.cells)] (.g (.bool (t.fits k b))) := by
  intro t
  induction t using T.ind with
  | _ t ih =>
  intro b hb
  generalize ht : t.plan = pl
  obtain ⟨op, a, pane, turned, kids⟩ := pl
  refine ctr_of (fn := Go.Proofs.Try.f133) (by kernel_rfl) rfl rfl ?_
  rintro ⟨n, w0, F0, M, pin⟩ hn
  cases hn
  refine PW_seq ?_
  -- region 0
  refine PW_region ?_
  refine P22 .none (by first | exact S_boxA rfl rfl rfl rfl | exact S_boxL rfl rfl rfl rfl rfl) ?_
  refine P22 .none (by first | exact S_boxA rfl rfl rfl rfl | exact S_boxL rfl rfl rfl rfl rfl | exact S_boxA rfl (Plan.cells_len _) (Plan.cells_one _) rfl) ?_
  refine P22 .none (by first | exact S_boxA rfl rfl rfl rfl | exact S_boxL rfl rfl rfl rfl rfl) ?_
  refine P10 .none (S_assign rfl rfl) ?_
  refine Pend ?_
  refine PW_join (ι := Unit) (fun _ => [(3, .c (.optr 3 0 0)), (4, .c (.optr 4 0 0)), (5, .c (.optr 5 0 0))]) (fun _ => [(3, ⟨25, 0, .gnd [k.cells]⟩), (4, ⟨34, 0, .gnd [Plan.cells (.mk op a pane turned kids)]⟩), (5, ⟨102, 0, .gnd [b.cells]⟩)]) (fun _ => ∃ d p q, t = .cut d a p q ∧ kids = [p.plan, q.plan] ∧ 1 ≤ a ∧ a < if d then b.w else b.h) ?_ (fun _ hj => ?_)
  ·
    refine PW_seq ?_
    -- region 1
    refine PW_region ?_
    refine P10 .none (by first | exact S_fieldO rfl rfl rfl | exact S_fieldR rfl rfl rfl) ?_
    refine P10 .none (by first | exact S_loadO1 rfl rfl rfl rfl rfl | exact S_loadR1 rfl rfl rfl | exact S_loadL1 rfl rfl rfl rfl rfl) ?_
    refine Pend ?_
    refine PW_block ?_
    refine PW_seq ?_
    -- region 3
    refine PW_region ?_
    refine P10 .none (S_eql rfl rfl rfl) ?_
    refine P10 .none (S_assign rfl rfl) ?_
    refine Pend ?_
    refine PW_cond rfl (fun h1 => ?_) (fun h1 => ?_)
    · -- t11
      refine PW_seq ?_
      -- region 4
      refine PW_region ?_
      refine P10 .none (by first | exact S_loadOW rfl rfl rfl rfl rfl | exact S_loadRW rfl rfl rfl | exact S_loadLA rfl rfl rfl (Nat.le_of_ble_eq_true rfl) rfl | exact S_loadOA rfl rfl rfl (Nat.le_of_ble_eq_true rfl) rfl | exact S_loadRA rfl (Nat.le_of_ble_eq_true rfl) rfl) ?_
      refine P10 .none (by first | exact S_fieldO rfl rfl rfl | exact S_fieldR rfl rfl rfl) ?_
      refine P10 .none (by first | exact S_loadO1 rfl rfl rfl rfl rfl | exact S_loadR1 rfl rfl rfl | exact S_loadL1 rfl rfl rfl rfl rfl) ?_
      refine P10 .none (by first | exact S_fieldO rfl rfl rfl | exact S_fieldR rfl rfl rfl) ?_
      refine P10 .none (by first | exact S_loadO1 rfl rfl rfl rfl rfl | exact S_loadR1 rfl rfl rfl | exact S_loadL1 rfl rfl rfl rfl rfl) ?_
      refine P10 .none (by first | exact S_fieldO rfl rfl rfl | exact S_fieldR rfl rfl rfl) ?_
      refine P10 .none (by first | exact S_loadO1 rfl rfl rfl rfl rfl | exact S_loadR1 rfl rfl rfl | exact S_loadL1 rfl rfl rfl rfl rfl) ?_
      refine P10 .none (by first | exact S_fieldO rfl rfl rfl | exact S_fieldR rfl rfl rfl) ?_
      refine P10 .none (by first | exact S_loadO1 rfl rfl rfl rfl rfl | exact S_loadR1 rfl rfl rfl | exact S_loadL1 rfl rfl rfl rfl rfl) ?_
      refine P00 .none (S_call (.one rfl (.one rfl (.one rfl (.one rfl (.one rfl .nil))))) rfl (ctr_i_paneFills _ _ _ _ _) (.inl rfl) rfl) ?_
      refine P10 .none (S_assign rfl rfl) ?_
      refine Pend ?_
      refine PW_ret ⟨.inr rfl, ?_⟩
      exact ret_g (.cons (.tmp rfl) (.c (.g _)) .nil) (by obtain ⟨rfl, _, _⟩ := plan_pane ht h1; rfl) trivial
    · -- not t11
      refine PW_seq ?_
      -- region 5
      refine PW_region ?_
      refine P10 .none (S_eql rfl rfl rfl) ?_
      refine P10 .none (S_assign rfl rfl) ?_
      refine Pend ?_
      refine PW_cond rfl (fun h2 => ?_) (fun h2 => ?_)
      · -- t23
        refine PW_seq ?_
        -- region 6
        refine PW_region ?_
        refine P10 .none (by first | exact S_fieldO rfl rfl rfl | exact S_fieldR rfl rfl rfl) ?_
        refine P10 .none (by first | exact S_loadO1 rfl rfl rfl rfl rfl | exact S_loadR1 rfl rfl rfl | exact S_loadL1 rfl rfl rfl rfl rfl) ?_
        refine P10 .none (S_lss rfl rfl rfl) ?_
        refine P10 .none (S_move rfl rfl) ?_
        refine Psplit 28 rfl (fun h3 => ?_) (fun h3 => ?_)
        · -- t28 = true
          refine Pskip rfl rfl h3 rfl ?_
          refine Pskip rfl rfl h3 rfl ?_
          refine Pskip rfl rfl h3 rfl ?_
          refine Pskip rfl rfl h3 rfl ?_
          refine Pskip rfl rfl h3 rfl ?_
          refine P10 .none (S_pickT rfl h3 rfl rfl) ?_
          refine Pend ?_
          refine PW_condT rfl rfl ?_
          refine PW_seq ?_
          -- region 7
          refine PW_region ?_
          refine P10 .none (S_assign rfl rfl) ?_
          refine Pend ?_
          refine PW_ret ⟨.inr rfl, ?_⟩
          exact ret_g (.cons (.tmp rfl) (.c (.g _)) .nil) (by obtain ⟨p, q, rfl, _⟩ := plan_down ht h2; simp at h3; simp [gres, T.fits]; intros; omega) trivial
        · -- t28 = false
          refine P10 (.yes rfl rfl h3) (by first | exact S_fieldO rfl rfl rfl | exact S_fieldR rfl rfl rfl) ?_
          refine P10 (.yes rfl rfl h3) (by first | exact S_loadO1 rfl rfl rfl rfl rfl | exact S_loadR1 rfl rfl rfl | exact S_loadL1 rfl rfl rfl rfl rfl) ?_
          refine P10 (.yes rfl rfl h3) (by first | exact S_fieldO rfl rfl rfl | exact S_fieldR rfl rfl rfl) ?_
          refine P10 (.yes rfl rfl h3) (by first | exact S_loadO1 rfl rfl rfl rfl rfl | exact S_loadR1 rfl rfl rfl | exact S_loadL1 rfl rfl rfl rfl rfl) ?_
          refine P10 (.yes rfl rfl h3) (S_geq rfl rfl rfl) ?_
          refine P10 .none (S_pickF rfl h3 rfl rfl) ?_
          refine Pend ?_
          refine PW_cond rfl (fun h4 => ?_) (fun h4 => ?_)
          · -- t34
            refine PW_seq ?_
            -- region 7
            refine PW_region ?_
            refine P10 .none (S_assign rfl rfl) ?_
            refine Pend ?_
            refine PW_ret ⟨.inr rfl, ?_⟩
            exact ret_g (.cons (.tmp rfl) (.c (.g _)) .nil) (by obtain ⟨p, q, rfl, _⟩ := plan_down ht h2; simp at h4; simp [gres, T.fits]; intros; omega) trivial
          · -- not t34
            refine PW_skip ?_
            obtain ⟨p, q, e1, e2, _⟩ := plan_down ht h2
            simp at h3 h4
            exact ⟨(), ⟨true, p, q, e1, e2, by omega, by simpa using h4⟩, by repeat (first | exact trivial | refine And.intro rfl ?_ | refine And.intro (by show some (PV.c (LC.g _)) = some (PV.c (LC.g _)); simp only [*, decide_true, decide_false, eq_self, if_true, if_false, reduceIte, Bool.false_eq_true, Bool.and_false, Bool.false_and, Bool.true_and, Bool.and_true, Bool.or_true, Bool.true_or, Bool.false_or, Bool.or_false, Bool.not_true, Bool.not_false]) ?_), by repeat (first | exact trivial | refine And.intro rfl ?_ | refine And.intro (by show some (PV.c (LC.g _)) = some (PV.c (LC.g _)); simp only [*, decide_true, decide_false, eq_self, if_true, if_false, reduceIte, Bool.false_eq_true, Bool.and_false, Bool.false_and, Bool.true_and, Bool.and_true, Bool.or_true, Bool.true_or, Bool.false_or, Bool.or_false, Bool.not_true, Bool.not_false]) ?_)⟩
      · -- not t23
        refine PW_seq ?_
        -- region 8
        refine PW_region ?_
        refine P10 .none (S_eql rfl rfl rfl) ?_
        refine P10 .none (S_assign rfl rfl) ?_
        refine Pend ?_
        refine PW_cond rfl (fun h5 => ?_) (fun h5 => ?_)
        · -- t35
          refine PW_seq ?_
          -- region 9
          refine PW_region ?_
          refine P10 .none (by first | exact S_fieldO rfl rfl rfl | exact S_fieldR rfl rfl rfl) ?_
          refine P10 .none (by first | exact S_loadO1 rfl rfl rfl rfl rfl | exact S_loadR1 rfl rfl rfl | exact S_loadL1 rfl rfl rfl rfl rfl) ?_
          refine P10 .none (S_lss rfl rfl rfl) ?_
          refine P10 .none (S_move rfl rfl) ?_
          refine Psplit 40 rfl (fun h6 => ?_) (fun h6 => ?_)
          · -- t40 = true
            refine Pskip rfl rfl h6 rfl ?_
            refine Pskip rfl rfl h6 rfl ?_
            refine Pskip rfl rfl h6 rfl ?_
            refine Pskip rfl rfl h6 rfl ?_
            refine Pskip rfl rfl h6 rfl ?_
            refine P10 .none (S_pickT rfl h6 rfl rfl) ?_
            refine Pend ?_
            refine PW_condT rfl rfl ?_
            refine PW_seq ?_
            -- region 10
            refine PW_region ?_
            refine P10 .none (S_assign rfl rfl) ?_
            refine Pend ?_
            refine PW_ret ⟨.inr rfl, ?_⟩
            exact ret_g (.cons (.tmp rfl) (.c (.g _)) .nil) (by obtain ⟨p, q, rfl, _⟩ := plan_across ht h5; simp at h6; simp [gres, T.fits]; intros; omega) trivial
          · -- t40 = false
            refine P10 (.yes rfl rfl h6) (by first | exact S_fieldO rfl rfl rfl | exact S_fieldR rfl rfl rfl) ?_
            refine P10 (.yes rfl rfl h6) (by first | exact S_loadO1 rfl rfl rfl rfl rfl | exact S_loadR1 rfl rfl rfl | exact S_loadL1 rfl rfl rfl rfl rfl) ?_
            refine P10 (.yes rfl rfl h6) (by first | exact S_fieldO rfl rfl rfl | exact S_fieldR rfl rfl rfl) ?_
            refine P10 (.yes rfl rfl h6) (by first | exact S_loadO1 rfl rfl rfl rfl rfl | exact S_loadR1 rfl rfl rfl | exact S_loadL1 rfl rfl rfl rfl rfl) ?_
            refine P10 (.yes rfl rfl h6) (S_geq rfl rfl rfl) ?_
            refine P10 .none (S_pickF rfl h6 rfl rfl) ?_
            refine Pend ?_
            refine PW_cond rfl (fun h7 => ?_) (fun h7 => ?_)
            · -- t46
              refine PW_seq ?_
              -- region 10
              refine PW_region ?_
              refine P10 .none (S_assign rfl rfl) ?_
              refine Pend ?_
              refine PW_ret ⟨.inr rfl, ?_⟩
              exact ret_g (.cons (.tmp rfl) (.c (.g _)) .nil) (by obtain ⟨p, q, rfl, _⟩ := plan_across ht h5; simp at h7; simp [gres, T.fits]; intros; omega) trivial
            · -- not t46
              refine PW_skip ?_
              obtain ⟨p, q, e1, e2, _⟩ := plan_across ht h5
              simp at h6 h7
              exact ⟨(), ⟨false, p, q, e1, e2, by omega, by simpa using h7⟩, by repeat (first | exact trivial | refine And.intro rfl ?_ | refine And.intro (by show some (PV.c (LC.g _)) = some (PV.c (LC.g _)); simp only [*, decide_true, decide_false, eq_self, if_true, if_false, reduceIte, Bool.false_eq_true, Bool.and_false, Bool.false_and, Bool.true_and, Bool.and_true, Bool.or_true, Bool.true_or, Bool.false_or, Bool.or_false, Bool.not_true, Bool.not_false]) ?_), by repeat (first | exact trivial | refine And.intro rfl ?_ | refine And.intro (by show some (PV.c (LC.g _)) = some (PV.c (LC.g _)); simp only [*, decide_true, decide_false, eq_self, if_true, if_false, reduceIte, Bool.false_eq_true, Bool.and_false, Bool.false_and, Bool.true_and, Bool.and_true, Bool.or_true, Bool.true_or, Bool.false_or, Bool.or_false, Bool.not_true, Bool.not_false]) ?_)⟩
        · -- not t35
          refine PW_seq ?_
          -- region 2
          refine PW_region ?_
          refine P10 .none (S_assign rfl rfl) ?_
          refine Pend ?_
          refine PW_ret ⟨.inr rfl, ?_⟩
          exact ret_g (.cons (.tmp rfl) (.c (.g _)) .nil) (by rw [plan_waste ht h1 h2 h5]; rfl) trivial
  ·
    obtain ⟨d, p, q, rfl, rfl, ha1, ha2⟩ := hj
    obtain ⟨ihp, ihq⟩ := ih d a p q rfl
    obtain ⟨hb1, hb2⟩ := splitB_ok hb ha1 ha2
    rw [← ht]
    have hsp := splitBox_cut d a p q b
    have hspl := ctr_i_splitBox (T.cut d a p q).plan b (by simp [T.plan, Plan.a, BoxOk] at hb ⊢; split at ha2 <;> omega) (by simp [BoxOk] at hb; omega) (by simp [BoxOk] at hb; omega) (by simp [BoxOk] at hb; omega) (by simp [BoxOk] at hb; omega)
    rw [hsp] at hspl
    refine PW_seq ?_
    -- region 11
    refine PW_region ?_
    refine P10 .none (by first | exact S_loadOW rfl rfl rfl rfl rfl | exact S_loadRW rfl rfl rfl | exact S_loadLA rfl rfl rfl (Nat.le_of_ble_eq_true rfl) rfl | exact S_loadOA rfl rfl rfl (Nat.le_of_ble_eq_true rfl) rfl | exact S_loadRA rfl (Nat.le_of_ble_eq_true rfl) rfl | exact S_loadRW rfl (Plan.cells_len _) rfl | exact S_loadOW rfl rfl rfl (Plan.cells_len _) rfl) ?_
    refine P10 .none (by first | exact S_loadOW rfl rfl rfl rfl rfl | exact S_loadRW rfl rfl rfl | exact S_loadLA rfl rfl rfl (Nat.le_of_ble_eq_true rfl) rfl | exact S_loadOA rfl rfl rfl (Nat.le_of_ble_eq_true rfl) rfl | exact S_loadRA rfl (Nat.le_of_ble_eq_true rfl) rfl) ?_
    refine P00 .none (S_call (.one rfl (.one rfl .nil)) rfl hspl (.inl rfl) rfl) ?_
    refine P10 .none (S_move rfl rfl) ?_
    refine P10 .none (by first | exact S_extractG rfl rfl rfl | exact S_extractC rfl rfl rfl | exact S_extractA rfl rfl rfl) ?_
    refine P10 .none (by first | exact S_extractG rfl rfl rfl | exact S_extractC rfl rfl rfl | exact S_extractA rfl rfl rfl) ?_
    refine P22 .none (S_alloc rfl) ?_
    refine P22 .none (S_alloc rfl) ?_
    refine P01 .none (by first | exact S_storeW rfl rfl rfl rfl rfl rfl | exact S_storeWe rfl rfl rfl HK rfl rfl rfl | exact S_storeP rfl rfl rfl rfl rfl (Nat.le_of_ble_eq_true rfl) | exact S_storeLW rfl rfl rfl rfl rfl rfl rfl) ?_
    refine P01 .none (by first | exact S_storeW rfl rfl rfl rfl rfl rfl | exact S_storeWe rfl rfl rfl HK rfl rfl rfl | exact S_storeP rfl rfl rfl rfl rfl (Nat.le_of_ble_eq_true rfl) | exact S_storeLW rfl rfl rfl rfl rfl rfl rfl) ?_
    refine Pend ?_
    refine PW_seq ?_
    -- region 12
    refine PW_draw (by kernel_rfl) ?_
    refine P10 .none (by first | exact S_loadOW rfl rfl rfl rfl rfl | exact S_loadRW rfl rfl rfl | exact S_loadLA rfl rfl rfl (Nat.le_of_ble_eq_true rfl) rfl | exact S_loadOA rfl rfl rfl (Nat.le_of_ble_eq_true rfl) rfl | exact S_loadRA rfl (Nat.le_of_ble_eq_true rfl) rfl) ?_
    refine P10 .none (by first | exact S_fieldO rfl rfl rfl | exact S_fieldR rfl rfl rfl) ?_
    refine P10 .none (by first | exact S_loadO1 rfl rfl rfl rfl rfl | exact S_loadR1 rfl rfl rfl | exact S_loadL1 rfl rfl rfl rfl rfl) ?_
    refine P10 .none (by first | exact S_indexR rfl rfl (k := 0) rfl rfl rfl rfl | exact S_indexO rfl rfl rfl rfl (k := 0) rfl rfl rfl | exact S_indexR rfl rfl (k := 0) rfl rfl (Plan.cells_len _) rfl) ?_
    refine P10 .none (by first | exact S_loadOW rfl rfl rfl rfl rfl | exact S_loadRW rfl rfl rfl | exact S_loadLA rfl rfl rfl (Nat.le_of_ble_eq_true rfl) rfl | exact S_loadOA rfl rfl rfl (Nat.le_of_ble_eq_true rfl) rfl | exact S_loadRA rfl (Nat.le_of_ble_eq_true rfl) rfl | exact S_loadRW rfl (Plan.cells_len _) rfl | exact S_loadOW rfl rfl rfl (Plan.cells_len _) rfl) ?_
    refine P10 .none (by first | exact S_loadOW rfl rfl rfl rfl rfl | exact S_loadRW rfl rfl rfl | exact S_loadLA rfl rfl rfl (Nat.le_of_ble_eq_true rfl) rfl | exact S_loadOA rfl rfl rfl (Nat.le_of_ble_eq_true rfl) rfl | exact S_loadRA rfl (Nat.le_of_ble_eq_true rfl) rfl) ?_
    refine P00 .none (S_call (.one rfl (.one rfl (.one rfl .nil))) rfl (ihp _ hb1) (.inl rfl) rfl) ?_
    refine P10 .none (S_move rfl rfl) ?_
    refine Psplit 60 rfl (fun h8 => ?_) (fun h8 => ?_)
    · -- t60 = true
      refine P10 (.yes rfl rfl h8) (by first | exact S_loadOW rfl rfl rfl rfl rfl | exact S_loadRW rfl rfl rfl | exact S_loadLA rfl rfl rfl (Nat.le_of_ble_eq_true rfl) rfl | exact S_loadOA rfl rfl rfl (Nat.le_of_ble_eq_true rfl) rfl | exact S_loadRA rfl (Nat.le_of_ble_eq_true rfl) rfl) ?_
      refine P10 (.yes rfl rfl h8) (by first | exact S_fieldO rfl rfl rfl | exact S_fieldR rfl rfl rfl) ?_
      refine P10 (.yes rfl rfl h8) (by first | exact S_loadO1 rfl rfl rfl rfl rfl | exact S_loadR1 rfl rfl rfl | exact S_loadL1 rfl rfl rfl rfl rfl) ?_
      refine P10 (.yes rfl rfl h8) (by first | exact S_indexR rfl rfl (k := 1) rfl rfl rfl rfl | exact S_indexO rfl rfl rfl rfl (k := 1) rfl rfl rfl | exact S_indexR rfl rfl (k := 1) rfl rfl (Plan.cells_len _) rfl) ?_
      refine P10 (.yes rfl rfl h8) (by first | exact S_loadOW rfl rfl rfl rfl rfl | exact S_loadRW rfl rfl rfl | exact S_loadLA rfl rfl rfl (Nat.le_of_ble_eq_true rfl) rfl | exact S_loadOA rfl rfl rfl (Nat.le_of_ble_eq_true rfl) rfl | exact S_loadRA rfl (Nat.le_of_ble_eq_true rfl) rfl | exact S_loadRW rfl (Plan.cells_len _) rfl | exact S_loadOW rfl rfl rfl (Plan.cells_len _) rfl) ?_
      refine P10 (.yes rfl rfl h8) (by first | exact S_loadOW rfl rfl rfl rfl rfl | exact S_loadRW rfl rfl rfl | exact S_loadLA rfl rfl rfl (Nat.le_of_ble_eq_true rfl) rfl | exact S_loadOA rfl rfl rfl (Nat.le_of_ble_eq_true rfl) rfl | exact S_loadRA rfl (Nat.le_of_ble_eq_true rfl) rfl) ?_
      refine P00 (.yes rfl rfl h8) (S_call (.one rfl (.one rfl (.one rfl .nil))) rfl (ihq _ hb2) (.inl rfl) rfl) ?_
      refine P10 .none (S_pickT rfl h8 rfl rfl) ?_
      refine P10 .none (S_assign rfl rfl) ?_
      refine Pend ⟨by kernel_rfl, ?_⟩
      refine PW_ret ⟨.inr rfl, ?_⟩
      exact ret_g (.cons (.tmp rfl) (.c (.g _)) .nil) (by simp [gres, T.fits, ha1, ha2, h8]) trivial
    · -- t60 = false
      refine Pskip rfl rfl h8 rfl ?_
      refine Pskip rfl rfl h8 rfl ?_
      refine Pskip rfl rfl h8 rfl ?_
      refine Pskip rfl rfl h8 rfl ?_
      refine Pskip rfl rfl h8 rfl ?_
      refine Pskip rfl rfl h8 rfl ?_
      refine Pskip rfl rfl h8 rfl ?_
      refine P10 .none (S_pickF rfl h8 rfl rfl) ?_
      refine P10 .none (S_assign rfl rfl) ?_
      refine Pend ⟨by kernel_rfl, ?_⟩
      refine PW_ret ⟨.inr rfl, ?_⟩
      exact ret_g (.cons (.tmp rfl) (.c (.g _)) .nil) (by simp [gres, T.fits, ha1, ha2, h8]) trivial
end Go.Proofs.Ytdmlfhmnlddooaa
namespace Go.Proofs.Ytdmlfhmnlddooaa
open Go Go.Pu

theorem T.plan_inj : ∀ (t s : T), t.plan = s.plan → t = s := by
  intro t
  induction t with
  | waste =>
    intro s h
    match s with
    | .waste => rfl
    | .pane n tu => simp [T.plan] at h
    | .cut true a p q => simp [T.plan] at h
    | .cut false a p q => simp [T.plan] at h
  | pane n tu =>
    intro s h
    match s with
    | .waste => simp [T.plan] at h
    | .pane n tu => simp [T.plan] at h; simp [h]
    | .cut true a p q => simp [T.plan] at h
    | .cut false a p q => simp [T.plan] at h
  | cut d a p q ihp ihq =>
    intro s h
    match s with
    | .waste => cases d <;> simp [T.plan] at h
    | .pane n tu => cases d <;> simp [T.plan] at h
    | .cut d' a' p' q' =>
      have hp : p.plan = p'.plan := by cases d <;> cases d' <;> simp [T.plan] at h <;> simp [h]
      have hq : q.plan = q'.plan := by cases d <;> cases d' <;> simp [T.plan] at h <;> simp [h]
      have hd : d = d' := by cases d <;> cases d' <;> simp [T.plan] at h ⊢
      have ha : a = a' := by cases d <;> cases d' <;> simp [T.plan] at h <;> simp [h]
      rw [hd, ha, ihp _ hp, ihq _ hq]

theorem countParts_T : ∀ (t : T) (room : Int), countParts t.plan room = if (t.size : Int) ≤ room then (t.size : Int) else -1 := by
  intro t
  induction t with
  | waste =>
    intro room
    rw [T.plan, countParts_mk]
    rcases Int.lt_or_le room 1 with h | h
    · rw [if_pos h, if_neg (by simp [T.size]; omega)]
    · simp [T.size, h, show ¬ room < 1 by omega]
  | pane n tu =>
    intro room
    rw [T.plan, countParts_mk]
    rcases Int.lt_or_le room 1 with h | h
    · rw [if_pos h, if_neg (by simp [T.size]; omega)]
    · simp [T.size, h, show ¬ room < 1 by omega]
  | cut d a p q ihp ihq =>
    intro room
    have hp := p.size_pos
    have hq := q.size_pos
    have e : (if d = true then (2 : Int) else 3) ≠ 0 ∧ (if d = true then (2 : Int) else 3) ≠ 1 ∧ ((if d = true then (2 : Int) else 3) = 2 ∨ (if d = true then (2 : Int) else 3) = 3) := by cases d <;> simp
    simp only [T.plan, countParts_mk, T.size]
    rw [if_neg e.1, if_neg e.2.1, if_pos e.2.2]
    simp only [ihp, ihq]
    simp
    repeat' split
    all_goals omega
theorem countParts_formed : ∀ (p : Plan) (room : Int), 0 ≤ countParts p room → ∃ t : T, p = t.plan := by
  intro p
  induction p using Plan.ind with
  | _ op a pane turned kids ih =>
    intro room h
    rw [countParts_mk] at h
    split at h
    · simp at h
    split at h
    · rename_i h0
      split at h
      · simp at h
      · rename_i h1
        simp at h1
        refine ⟨.waste, ?_⟩
        rw [h0, h1.1, h1.2.1, h1.2.2.1, h1.2.2.2]; rfl
    split at h
    · rename_i h0
      split at h
      · simp at h
      · rename_i h1
        simp at h1
        refine ⟨.pane pane turned, ?_⟩
        rw [h0, h1.1, h1.2]; rfl
    split at h
    · rename_i h2
      rcases kids with _ | ⟨p, _ | ⟨q, _ | ⟨r, l⟩⟩⟩
      · simp at h
      · simp at h
      · dsimp only at h
        split at h
        · simp at h
        split at h
        · simp at h
        split at h
        · simp at h
        rename_i g1 g2 g3
        obtain ⟨tp, rfl⟩ := ih p (by simp) (room - 1) (by omega)
        obtain ⟨tq, rfl⟩ := ih q (by simp) _ (by omega : 0 ≤ countParts q (room - 1 - countParts tp.plan (room - 1)))
        simp at g1
        refine ⟨.cut (decide (op = 2)) a tp tq, ?_⟩
        rw [g1.1, g1.2]
        rcases h2 with h2 | h2 <;> simp [T.plan, h2]
      · simp at h
    · simp at h

def sheet (k : Work) : Box := ⟨0, 0, k.w, k.h⟩
/-- A valid plan. -/
def VP (k : Work) (t : T) : Prop := validWork k = true ∧ t.size ≤ 255 ∧ t.fits k (sheet k) = true
open Classical in
noncomputable def validPlan (k : Work) (p : Plan) : Bool := decide (∃ t : T, p = t.plan ∧ VP k t)
theorem validPlan_iff {k : Work} {p : Plan} : validPlan k p = true ↔ ∃ t : T, p = t.plan ∧ VP k t := by simp [validPlan]
theorem sheet_ok {k : Work} (h : validWork k = true) : BoxOk (sheet k) := by
  simp [validWork] at h
  simp [BoxOk, sheet]
  omega
theorem validPlan_T {k : Work} {t : T} (h1 : validWork k = true) (h2 : t.size ≤ 255) : validPlan k t.plan = t.fits k (sheet k) := by
  cases hf : t.fits k (sheet k) with
  | true => exact validPlan_iff.2 ⟨t, rfl, h1, h2, hf⟩
  | false =>
    rw [Bool.eq_false_iff]
    intro h
    obtain ⟨s, e, _, _, h3⟩ := validPlan_iff.1 h
    rw [T.plan_inj _ _ e] at hf
    rw [h3] at hf
    cases hf
def planSize (p : Plan) : Int := countParts p 255
def T.parts : T → Box → List (T × Box)
  | .waste, b => [(.waste, b)]
  | .pane n tu, b => [(.pane n tu, b)]
  | .cut d a p q, b => (.cut d a p q, b) :: (p.parts (splitB d a b).1 ++ q.parts (splitB d a b).2)
theorem T.parts_len (t : T) : ∀ b, (t.parts b).length = t.size := by
  induction t with
  | waste => intro b; rfl
  | pane n tu => intro b; rfl
  | cut d a p q ihp ihq => intro b; simp [T.parts, T.size, ihp, ihq]; omega
def encPart (x : T × Box) : List GV := x.1.plan.cells ++ x.2.cells

/- impl.PlanSize: 34 -> [3] -/
set_option maxRecDepth 100000 in
theorem ctr_i_PlanSize (p : Plan) : Ctr P 91 [.g (.agg p.cells)] (.g (.int .i64 (planSize p))) := by
  obtain ⟨op, a, pane, turned, kids⟩ := p
  refine ctr_of (fn := Go.Proofs.Try.f91) (by kernel_rfl) rfl rfl ?_
  rintro ⟨n, w0, F0, M, pin⟩ hn
  cases hn
  refine PW_seq ?_
  -- region 0
  refine PW_region ?_
  refine P22 .none (by first | exact S_boxA rfl rfl rfl rfl | exact S_boxL rfl rfl rfl rfl rfl | exact S_boxA rfl (Plan.cells_len _) (Plan.cells_one _) rfl) ?_
  refine P10 .none (S_assign rfl rfl) ?_
  refine Pend ?_
  refine PW_seq ?_
  -- region 1
  refine PW_region ?_
  refine P10 .none (by first | exact S_loadOW rfl rfl rfl rfl rfl | exact S_loadRW rfl rfl rfl | exact S_loadLA rfl rfl rfl (Nat.le_of_ble_eq_true rfl) rfl | exact S_loadOA rfl rfl rfl (Nat.le_of_ble_eq_true rfl) rfl | exact S_loadRA rfl (Nat.le_of_ble_eq_true rfl) rfl | exact S_loadRW rfl (Plan.cells_len _) rfl | exact S_loadOW rfl rfl rfl (Plan.cells_len _) rfl) ?_
  refine P00 .none (S_call (.one rfl (.one rfl .nil)) rfl (ctr_i_countParts _ 255 (by omega)) (.inl rfl) rfl) ?_
  refine P10 .none (S_assign rfl rfl) ?_
  refine Pend ?_
  refine PW_ret ⟨.inr rfl, ?_⟩
  exact ret_g (.cons (.tmp rfl) (.c (.g _)) .nil) (by rfl) trivial
/- impl.ValidPlan: 25, 34 -> [4] -/
set_option maxRecDepth 100000 in
theorem ctr_i_ValidPlan (k : Work) (p : Plan) : Ctr P 76 [.g (.agg k.cells), .g (.agg p.cells)] (.g (.bool (validPlan k p))) := by
  generalize hpp : p = pl
  obtain ⟨op, a, pane, turned, kids⟩ := pl
  refine ctr_of (fn := Go.Proofs.Try.f76) (by kernel_rfl) rfl rfl ?_
  rintro ⟨n, w0, F0, M, pin⟩ hn
  cases hn
  refine PW_seq ?_
  -- region 0
  refine PW_region ?_
  refine P22 .none (by first | exact S_boxA rfl rfl rfl rfl | exact S_boxL rfl rfl rfl rfl rfl) ?_
  refine P22 .none (by first | exact S_boxA rfl rfl rfl rfl | exact S_boxL rfl rfl rfl rfl rfl | exact S_boxA rfl (Plan.cells_len _) (Plan.cells_one _) rfl) ?_
  refine P10 .none (S_assign rfl rfl) ?_
  refine Pend ?_
  refine PW_seq ?_
  -- region 1
  refine PW_draw (by kernel_rfl) ?_
  refine P10 .none (by first | exact S_loadOW rfl rfl rfl rfl rfl | exact S_loadRW rfl rfl rfl | exact S_loadLA rfl rfl rfl (Nat.le_of_ble_eq_true rfl) rfl | exact S_loadOA rfl rfl rfl (Nat.le_of_ble_eq_true rfl) rfl | exact S_loadRA rfl (Nat.le_of_ble_eq_true rfl) rfl) ?_
  refine P00 .none (S_call (.one rfl .nil) rfl (ctr_i_ValidWork k) (.inl rfl) rfl) ?_
  refine P10 .none (S_move rfl rfl) ?_
  refine Psplit 7 rfl (fun h1 => ?_) (fun h1 => ?_)
  · -- t7 = true
    refine P10 (.yes rfl rfl h1) (by first | exact S_loadOW rfl rfl rfl rfl rfl | exact S_loadRW rfl rfl rfl | exact S_loadLA rfl rfl rfl (Nat.le_of_ble_eq_true rfl) rfl | exact S_loadOA rfl rfl rfl (Nat.le_of_ble_eq_true rfl) rfl | exact S_loadRA rfl (Nat.le_of_ble_eq_true rfl) rfl | exact S_loadRW rfl (Plan.cells_len _) rfl | exact S_loadOW rfl rfl rfl (Plan.cells_len _) rfl) ?_
    refine P00 (.yes rfl rfl h1) (S_call (.one rfl .nil) rfl (ctr_i_PlanSize (.mk op a pane turned kids)) (.inl rfl) rfl) ?_
    refine P10 (.yes rfl rfl h1) (S_gtr rfl rfl rfl) ?_
    refine P10 .none (S_pickT rfl h1 rfl rfl) ?_
    refine P10 .none (S_move rfl rfl) ?_
    refine Psplit 12 rfl (fun h2 => ?_) (fun h2 => ?_)
    · -- t12 = true
      rw [← hpp] at h2
      obtain ⟨t, ht⟩ := countParts_formed p 255 (by have := of_decide_eq_true h2; simp only [planSize] at this; omega)
      have hsz : t.size ≤ 255 := by
        have h3 := of_decide_eq_true h2
        rw [planSize, ht, countParts_T] at h3
        split at h3 <;> omega
      have hval := validPlan_T (t := t) h1 hsz
      rw [← ht, hpp] at hval
      have hfit := ctr_i_planFits k t (sheet k) (sheet_ok h1)
      rw [← ht, hpp] at hfit
      rw [hpp] at h2
      refine P10 (.yes rfl rfl h2) (by first | exact S_loadOW rfl rfl rfl rfl rfl | exact S_loadRW rfl rfl rfl | exact S_loadLA rfl rfl rfl (Nat.le_of_ble_eq_true rfl) rfl | exact S_loadOA rfl rfl rfl (Nat.le_of_ble_eq_true rfl) rfl | exact S_loadRA rfl (Nat.le_of_ble_eq_true rfl) rfl) ?_
      refine P10 (.yes rfl rfl h2) (by first | exact S_loadOW rfl rfl rfl rfl rfl | exact S_loadRW rfl rfl rfl | exact S_loadLA rfl rfl rfl (Nat.le_of_ble_eq_true rfl) rfl | exact S_loadOA rfl rfl rfl (Nat.le_of_ble_eq_true rfl) rfl | exact S_loadRA rfl (Nat.le_of_ble_eq_true rfl) rfl | exact S_loadRW rfl (Plan.cells_len _) rfl | exact S_loadOW rfl rfl rfl (Plan.cells_len _) rfl) ?_
      refine P10 (.yes rfl rfl h2) (by first | exact S_loadOW rfl rfl rfl rfl rfl | exact S_loadRW rfl rfl rfl | exact S_loadLA rfl rfl rfl (Nat.le_of_ble_eq_true rfl) rfl | exact S_loadOA rfl rfl rfl (Nat.le_of_ble_eq_true rfl) rfl | exact S_loadRA rfl (Nat.le_of_ble_eq_true rfl) rfl) ?_
      refine P00 (.yes rfl rfl h2) (S_call (.one rfl .nil) rfl (ctr_i_sheetOf k) (.inl rfl) rfl) ?_
      refine P00 (.yes rfl rfl h2) (S_call (.one rfl (.one rfl (.one rfl .nil))) rfl hfit (.inl rfl) rfl) ?_
      refine P10 .none (S_pickT rfl h2 rfl rfl) ?_
      refine P10 .none (S_assign rfl rfl) ?_
      refine Pend ⟨by kernel_rfl, ?_⟩
      refine PW_ret ⟨.inr rfl, ?_⟩
      exact ret_g (.cons (.tmp rfl) (.c (.g _)) .nil) (by simp only [gres, hval]) trivial
    · -- t12 = false
      refine Pskip rfl rfl h2 rfl ?_
      refine Pskip rfl rfl h2 rfl ?_
      refine Pskip rfl rfl h2 rfl ?_
      refine Pskip rfl rfl h2 rfl ?_
      refine Pskip rfl rfl h2 rfl ?_
      refine P10 .none (S_pickF rfl h2 rfl rfl) ?_
      refine P10 .none (S_assign rfl rfl) ?_
      refine Pend ⟨by kernel_rfl, ?_⟩
      refine PW_ret ⟨.inr rfl, ?_⟩
      exact ret_g (.cons (.tmp rfl) (.c (.g _)) .nil) (by simp only [gres, GV.bool.injEq]; symm; rw [Bool.eq_false_iff]; intro h; obtain ⟨t, e, _, h4, _⟩ := validPlan_iff.1 h; rw [planSize, e, countParts_T, if_pos (by omega)] at h2; have := t.size_pos; simp at h2; omega) trivial
  · -- t7 = false
    refine Pskip rfl rfl h1 rfl ?_
    refine Pskip rfl rfl h1 rfl ?_
    refine Pskip rfl rfl h1 rfl ?_
    refine P10 .none (S_pickF rfl h1 rfl rfl) ?_
    refine P10 .none (S_move rfl rfl) ?_
    refine Pskip rfl rfl rfl rfl ?_
    refine Pskip rfl rfl rfl rfl ?_
    refine Pskip rfl rfl rfl rfl ?_
    refine Pskip rfl rfl rfl rfl ?_
    refine Pskip rfl rfl rfl rfl ?_
    refine P10 .none (S_pickF rfl rfl rfl rfl) ?_
    refine P10 .none (S_assign rfl rfl) ?_
    refine Pend ⟨by kernel_rfl, ?_⟩
    refine PW_ret ⟨.inr rfl, ?_⟩
    exact ret_g (.cons (.tmp rfl) (.c (.g _)) .nil) (by simp only [gres, GV.bool.injEq]; symm; rw [Bool.eq_false_iff]; intro h; obtain ⟨t, e, h4, _⟩ := validPlan_iff.1 h; rw [h4] at h1; cases h1) trivial
end Go.Proofs.Ytdmlfhmnlddooaa
namespace Go.Proofs.Ytdmlfhmnlddooaa
open Go Go.Pu

theorem isCut_T (t : T) : isCut t.plan = match t with | .cut .. => true | _ => false := by
  match t with
  | .waste => rfl
  | .pane n tu => rfl
  | .cut true a p q => rfl
  | .cut false a p q => rfl
theorem T.fits_cut {k : Work} {d : Bool} {a : Int} {p q : T} {b : Box} (h : (T.cut d a p q).fits k b = true) : 1 ≤ a ∧ (a < if d then b.w else b.h) ∧ p.fits k (splitB d a b).1 = true ∧ q.fits k (splitB d a b).2 = true := by
  simp only [T.fits, Bool.and_eq_true, decide_eq_true_eq] at h
  exact ⟨h.1.1.1, h.1.1.2, h.1.2, h.2⟩
theorem ctr_splitBox_T {d : Bool} {a : Int} {p q : T} {b : Box} (hb : BoxOk b) (h1 : 1 ≤ a) (h2 : a < if d then b.w else b.h) :
    Ctr P 84 [.g (.agg (T.cut d a p q).plan.cells), .g (.agg b.cells)] (.g (.tup [.agg (splitB d a b).1.cells, .agg (splitB d a b).2.cells])) := by
  have hsp := splitBox_cut d a p q b
  have := ctr_i_splitBox (T.cut d a p q).plan b (by simp [T.plan, Plan.a, BoxOk] at hb ⊢; split at h2 <;> omega) (by simp [BoxOk] at hb; omega) (by simp [BoxOk] at hb; omega) (by simp [BoxOk] at hb; omega) (by simp [BoxOk] at hb; omega)
  rwa [hsp] at this

/- impl.addParts: 108, 34, 102 -> [108] -/
set_option maxRecDepth 100000 in
theorem ctr_i_addParts (k : Work) : ∀ (t : T) (b : Box) (es : List (List GV)), BoxOk b → t.fits k b = true → es.length + t.size ≤ 100000 → Ctr P 138 [.mv 115 0 es, .g (.agg t.plan.cells), .g (.agg b.cells)] (.own 115 0 (es ++ (t.parts b).map encPart)) := by
  intro t
  induction t using T.ind with
  | _ t ih =>
  intro b es hb hf hl
  have hpos := t.size_pos
  have hcut := ctr_i_isCut t.plan
  rw [isCut_T] at hcut
  have he : encPart (t, b) = t.plan.cells ++ b.cells := rfl
  generalize ht : t.plan = pl at hcut he
  obtain ⟨op, a, pane, turned, kids⟩ := pl
  refine ctr_of (fn := Go.Proofs.Try.f138) (by kernel_rfl) rfl rfl ?_
  rintro ⟨n, w0, F0, M, pin⟩ hn
  cases hn
  refine PW_seq ?_
  -- region 0
  refine PW_region ?_
  refine P22 .none (by first | exact S_boxA rfl rfl rfl rfl | exact S_boxL rfl rfl rfl rfl rfl | exact S_boxA rfl (Plan.cells_len _) (Plan.cells_one _) rfl) ?_
  refine P22 .none (by first | exact S_boxA rfl rfl rfl rfl | exact S_boxL rfl rfl rfl rfl rfl) ?_
  refine P10 .none (S_assign rfl rfl) ?_
  refine Pend ?_
  refine PW_seq ?_
  -- region 1
  refine PW_region ?_
  refine P10 .none (S_move rfl rfl) ?_
  refine P10 .none (by first | exact S_loadOW rfl rfl rfl rfl rfl | exact S_loadRW rfl rfl rfl | exact S_loadLA rfl rfl rfl (Nat.le_of_ble_eq_true rfl) rfl | exact S_loadOA rfl rfl rfl (Nat.le_of_ble_eq_true rfl) rfl | exact S_loadRA rfl (Nat.le_of_ble_eq_true rfl) rfl | exact S_loadRW rfl (Plan.cells_len _) rfl | exact S_loadOW rfl rfl rfl (Plan.cells_len _) rfl) ?_
  refine P10 .none (by first | exact S_loadOW rfl rfl rfl rfl rfl | exact S_loadRW rfl rfl rfl | exact S_loadLA rfl rfl rfl (Nat.le_of_ble_eq_true rfl) rfl | exact S_loadOA rfl rfl rfl (Nat.le_of_ble_eq_true rfl) rfl | exact S_loadRA rfl (Nat.le_of_ble_eq_true rfl) rfl) ?_
  refine P10 .none (S_build (gs := [_, _, _, _, _, _, _, _, _]) (.agg rfl rfl rfl rfl rfl (.agg rfl rfl rfl rfl rfl (.nil _))) rfl rfl) ?_
  refine P22 .none (S_lit (.agg rfl rfl rfl (.nil _)) rfl rfl rfl) ?_
  refine P22 .none (S_appW rfl rfl rfl rfl (.ownW rfl rfl rfl) (fun l hl => by simp only [List.mem_singleton] at hl; subst hl; rfl) rfl (by omega) (by simp; omega) rfl) ?_
  refine P10 .none (S_assign rfl rfl) ?_
  refine Pend ?_
  refine PW_seq ?_
  refine PW_seq ?_
  -- region 2
  refine PW_region ?_
  refine P10 .none (by first | exact S_loadOW rfl rfl rfl rfl rfl | exact S_loadRW rfl rfl rfl | exact S_loadLA rfl rfl rfl (Nat.le_of_ble_eq_true rfl) rfl | exact S_loadOA rfl rfl rfl (Nat.le_of_ble_eq_true rfl) rfl | exact S_loadRA rfl (Nat.le_of_ble_eq_true rfl) rfl | exact S_loadRW rfl (Plan.cells_len _) rfl | exact S_loadOW rfl rfl rfl (Plan.cells_len _) rfl) ?_
  refine P00 .none (S_call (.one rfl .nil) rfl hcut (.inl rfl) rfl) ?_
  refine Pend ?_
  refine PW_cond rfl (fun h1 => ?_) (fun h1 => ?_)
  · -- t16
    obtain ⟨d, a', p, q, rfl⟩ : ∃ d a' p q, t = .cut d a' p q := by
      match t, h1 with
      | .cut d a' p q, _ => exact ⟨d, a', p, q, rfl⟩
    obtain ⟨ihp, ihq⟩ := ih d a' p q rfl
    obtain ⟨f1, f2, f3, f4⟩ := T.fits_cut hf
    obtain ⟨hb1, hb2⟩ := splitB_ok hb f1 f2
    have hspl := ctr_splitBox_T (p := p) (q := q) hb f1 f2
    rw [ht] at hspl
    have hkids : kids = [p.plan, q.plan] := by simp [T.plan] at ht; simp [ht]
    subst hkids
    simp only [T.size] at hl
    refine PW_seq ?_
    -- region 3
    refine PW_region ?_
    refine P10 .none (by first | exact S_loadOW rfl rfl rfl rfl rfl | exact S_loadRW rfl rfl rfl | exact S_loadLA rfl rfl rfl (Nat.le_of_ble_eq_true rfl) rfl | exact S_loadOA rfl rfl rfl (Nat.le_of_ble_eq_true rfl) rfl | exact S_loadRA rfl (Nat.le_of_ble_eq_true rfl) rfl | exact S_loadRW rfl (Plan.cells_len _) rfl | exact S_loadOW rfl rfl rfl (Plan.cells_len _) rfl) ?_
    refine P10 .none (by first | exact S_loadOW rfl rfl rfl rfl rfl | exact S_loadRW rfl rfl rfl | exact S_loadLA rfl rfl rfl (Nat.le_of_ble_eq_true rfl) rfl | exact S_loadOA rfl rfl rfl (Nat.le_of_ble_eq_true rfl) rfl | exact S_loadRA rfl (Nat.le_of_ble_eq_true rfl) rfl) ?_
    refine P00 .none (S_call (.one rfl (.one rfl .nil)) rfl hspl (.inl rfl) rfl) ?_
    refine P10 .none (S_move rfl rfl) ?_
    refine P10 .none (by first | exact S_extractG rfl rfl rfl | exact S_extractC rfl rfl rfl | exact S_extractA rfl rfl rfl) ?_
    refine P10 .none (by first | exact S_extractG rfl rfl rfl | exact S_extractC rfl rfl rfl | exact S_extractA rfl rfl rfl) ?_
    refine P22 .none (S_alloc rfl) ?_
    refine P22 .none (S_alloc rfl) ?_
    refine P01 .none (by first | exact S_storeW rfl rfl rfl rfl rfl rfl | exact S_storeWe rfl rfl rfl HK rfl rfl rfl | exact S_storeP rfl rfl rfl rfl rfl (Nat.le_of_ble_eq_true rfl) | exact S_storeLW rfl rfl rfl rfl rfl rfl rfl) ?_
    refine P01 .none (by first | exact S_storeW rfl rfl rfl rfl rfl rfl | exact S_storeWe rfl rfl rfl HK rfl rfl rfl | exact S_storeP rfl rfl rfl rfl rfl (Nat.le_of_ble_eq_true rfl) | exact S_storeLW rfl rfl rfl rfl rfl rfl rfl) ?_
    refine Pend ?_
    refine PW_seq ?_
    -- region 4
    refine PW_draw (by kernel_rfl) ?_
    refine P10 .none (S_move rfl rfl) ?_
    refine P10 .none (by first | exact S_fieldO rfl rfl rfl | exact S_fieldR rfl rfl rfl) ?_
    refine P10 .none (by first | exact S_loadO1 rfl rfl rfl rfl rfl | exact S_loadR1 rfl rfl rfl | exact S_loadL1 rfl rfl rfl rfl rfl) ?_
    refine P10 .none (by first | exact S_indexR rfl rfl (k := 0) rfl rfl rfl rfl | exact S_indexO rfl rfl rfl rfl (k := 0) rfl rfl rfl | exact S_indexR rfl rfl (k := 0) rfl rfl (Plan.cells_len _) rfl) ?_
    refine P10 .none (by first | exact S_loadOW rfl rfl rfl rfl rfl | exact S_loadRW rfl rfl rfl | exact S_loadLA rfl rfl rfl (Nat.le_of_ble_eq_true rfl) rfl | exact S_loadOA rfl rfl rfl (Nat.le_of_ble_eq_true rfl) rfl | exact S_loadRA rfl (Nat.le_of_ble_eq_true rfl) rfl | exact S_loadRW rfl (Plan.cells_len _) rfl | exact S_loadOW rfl rfl rfl (Plan.cells_len _) rfl) ?_
    refine P10 .none (by first | exact S_loadOW rfl rfl rfl rfl rfl | exact S_loadRW rfl rfl rfl | exact S_loadLA rfl rfl rfl (Nat.le_of_ble_eq_true rfl) rfl | exact S_loadOA rfl rfl rfl (Nat.le_of_ble_eq_true rfl) rfl | exact S_loadRA rfl (Nat.le_of_ble_eq_true rfl) rfl) ?_
    refine P00 .none (S_call (.mv rfl rfl (by simp) rfl (.one rfl (.one rfl .nil))) rfl (ihp _ _ hb1 f3 (by simp; omega)) (.inl rfl) rfl) ?_
    refine P10 .none (S_assign rfl rfl) ?_
    refine Pend ⟨by kernel_rfl, ?_⟩
    -- region 5
    refine PW_draw (by kernel_rfl) ?_
    refine P10 .none (S_move rfl rfl) ?_
    refine P10 .none (by first | exact S_fieldO rfl rfl rfl | exact S_fieldR rfl rfl rfl) ?_
    refine P10 .none (by first | exact S_loadO1 rfl rfl rfl rfl rfl | exact S_loadR1 rfl rfl rfl | exact S_loadL1 rfl rfl rfl rfl rfl) ?_
    refine P10 .none (by first | exact S_indexR rfl rfl (k := 1) rfl rfl rfl rfl | exact S_indexO rfl rfl rfl rfl (k := 1) rfl rfl rfl | exact S_indexR rfl rfl (k := 1) rfl rfl (Plan.cells_len _) rfl) ?_
    refine P10 .none (by first | exact S_loadOW rfl rfl rfl rfl rfl | exact S_loadRW rfl rfl rfl | exact S_loadLA rfl rfl rfl (Nat.le_of_ble_eq_true rfl) rfl | exact S_loadOA rfl rfl rfl (Nat.le_of_ble_eq_true rfl) rfl | exact S_loadRA rfl (Nat.le_of_ble_eq_true rfl) rfl | exact S_loadRW rfl (Plan.cells_len _) rfl | exact S_loadOW rfl rfl rfl (Plan.cells_len _) rfl) ?_
    refine P10 .none (by first | exact S_loadOW rfl rfl rfl rfl rfl | exact S_loadRW rfl rfl rfl | exact S_loadLA rfl rfl rfl (Nat.le_of_ble_eq_true rfl) rfl | exact S_loadOA rfl rfl rfl (Nat.le_of_ble_eq_true rfl) rfl | exact S_loadRA rfl (Nat.le_of_ble_eq_true rfl) rfl) ?_
    refine P00 .none (S_call (.mv rfl rfl rfl rfl (.one rfl (.one rfl .nil))) rfl (ihq _ _ hb2 f4 (by simp [T.parts_len]; omega)) (.inl rfl) rfl) ?_
    refine P10 .none (S_assign rfl rfl) ?_
    refine Pend ⟨by kernel_rfl, ?_⟩
    refine PW_seq ?_
    -- region 6
    refine PW_region ?_
    refine P10 .none (S_move rfl rfl) ?_
    refine P10 .none (S_assign rfl rfl) ?_
    refine Pend ?_
    refine PW_ret ⟨.inr rfl, ?_⟩
    exact RetOk.own_eq (ret_o rfl rfl rfl rfl rfl trivial) (by simp [T.parts, he]; rfl)
  · -- not t16
    refine PW_skip ?_
    refine PW_seq ?_
    -- region 6
    refine PW_region ?_
    refine P10 .none (S_move rfl rfl) ?_
    refine P10 .none (S_assign rfl rfl) ?_
    refine Pend ?_
    refine PW_ret ⟨.inr rfl, ?_⟩
    refine RetOk.own_eq (ret_o rfl rfl rfl rfl (by simp) trivial) ?_
    match t, h1 with
    | .waste, _ => simp [T.parts, he]; rfl
    | .pane n tu, _ => simp [T.parts, he]; rfl
end Go.Proofs.Ytdmlfhmnlddooaa
namespace Go.Proofs.Ytdmlfhmnlddooaa
open Go Go.Pu

theorem validPlan_VP {k : Work} {t : T} (h : VP k t) : validPlan k t.plan = true := validPlan_iff.2 ⟨t, rfl, h⟩
theorem T.parts_sheet {k : Work} {t : T} (h : VP k t) : (t.parts (sheet k)).length ≤ 255 := by rw [T.parts_len]; exact h.2.1

/- impl.partsOf: 25, 34 -> [108] -/
set_option maxRecDepth 100000 in
theorem ctr_i_partsOf (k : Work) (t : T) (hv : VP k t) : Ctr P 79 [.g (.agg k.cells), .g (.agg t.plan.cells)] (.g (.sl ((t.parts (sheet k)).map encPart))) := by
  have hvp := ctr_i_ValidPlan k t.plan
  rw [validPlan_VP hv] at hvp
  have hadd := ctr_i_addParts k t (sheet k) [] (sheet_ok hv.1) hv.2.2 (by simp; have := hv.2.1; omega)
  rw [List.nil_append] at hadd
  generalize ht : t.plan = pl at hvp hadd
  obtain ⟨op, a, pane, turned, kids⟩ := pl
  refine ctr_of (fn := Go.Proofs.Try.f79) (by kernel_rfl) rfl rfl ?_
  rintro ⟨n, w0, F0, M, pin⟩ hn
  cases hn
  refine PW_seq ?_
  -- region 0
  refine PW_region ?_
  refine P22 .none (by first | exact S_boxA rfl rfl rfl rfl | exact S_boxL rfl rfl rfl rfl rfl) ?_
  refine P22 .none (by first | exact S_boxA rfl rfl rfl rfl | exact S_boxL rfl rfl rfl rfl rfl | exact S_boxA rfl (Plan.cells_len _) (Plan.cells_one _) rfl) ?_
  refine P10 .none (S_assign rfl rfl) ?_
  refine Pend ?_
  refine PW_seq ?_
  refine PW_seq ?_
  -- region 1
  refine PW_region ?_
  refine P10 .none (by first | exact S_loadOW rfl rfl rfl rfl rfl | exact S_loadRW rfl rfl rfl | exact S_loadLA rfl rfl rfl (Nat.le_of_ble_eq_true rfl) rfl | exact S_loadOA rfl rfl rfl (Nat.le_of_ble_eq_true rfl) rfl | exact S_loadRA rfl (Nat.le_of_ble_eq_true rfl) rfl) ?_
  refine P10 .none (by first | exact S_loadOW rfl rfl rfl rfl rfl | exact S_loadRW rfl rfl rfl | exact S_loadLA rfl rfl rfl (Nat.le_of_ble_eq_true rfl) rfl | exact S_loadOA rfl rfl rfl (Nat.le_of_ble_eq_true rfl) rfl | exact S_loadRA rfl (Nat.le_of_ble_eq_true rfl) rfl | exact S_loadRW rfl (Plan.cells_len _) rfl | exact S_loadOW rfl rfl rfl (Plan.cells_len _) rfl) ?_
  refine P00 .none (S_call (.one rfl (.one rfl .nil)) rfl hvp (.inl rfl) rfl) ?_
  refine P10 .none (S_not rfl rfl) ?_
  refine Pend ?_
  refine PW_cond rfl (fun h1 => ?_) (fun h1 => ?_)
  · -- t8
    refine PW_seq ?_
    -- region 2
    refine PW_region ?_
    refine P10 .none (S_assign rfl rfl) ?_
    refine Pend ?_
    refine PW_ret ⟨.inr rfl, ?_⟩
    cases h1
  · -- not t8
    refine PW_skip ?_
    refine PW_seq ?_
    -- region 3
    refine PW_draw (by kernel_rfl) ?_
    refine P10 .none (by first | exact S_loadOW rfl rfl rfl rfl rfl | exact S_loadRW rfl rfl rfl | exact S_loadLA rfl rfl rfl (Nat.le_of_ble_eq_true rfl) rfl | exact S_loadOA rfl rfl rfl (Nat.le_of_ble_eq_true rfl) rfl | exact S_loadRA rfl (Nat.le_of_ble_eq_true rfl) rfl | exact S_loadRW rfl (Plan.cells_len _) rfl | exact S_loadOW rfl rfl rfl (Plan.cells_len _) rfl) ?_
    refine P10 .none (by first | exact S_loadOW rfl rfl rfl rfl rfl | exact S_loadRW rfl rfl rfl | exact S_loadLA rfl rfl rfl (Nat.le_of_ble_eq_true rfl) rfl | exact S_loadOA rfl rfl rfl (Nat.le_of_ble_eq_true rfl) rfl | exact S_loadRA rfl (Nat.le_of_ble_eq_true rfl) rfl) ?_
    refine P00 .none (S_call (.one rfl .nil) rfl (ctr_i_sheetOf k) (.inl rfl) rfl) ?_
    refine P00 .none (S_call (.nl rfl (.one rfl (.one rfl .nil))) rfl hadd (.inl rfl) rfl) ?_
    refine P10 .none (S_assign rfl rfl) ?_
    refine Pend ⟨by kernel_rfl, ?_⟩
    refine PW_ret ⟨.inr rfl, ?_⟩
    exact ret_g (.cons (.tmp rfl) (.c (Ex.whole rfl rfl rfl)) .nil) rfl trivial
/- impl.partsOf: 25, 34 -> [108] -/
set_option maxRecDepth 100000 in
theorem ctr_i_partsOf_no (k : Work) (p : Plan) (hv : validPlan k p = false) : Ctr P 79 [.g (.agg k.cells), .g (.agg p.cells)] (.g (.sl [])) := by
  have hvp := ctr_i_ValidPlan k p
  rw [hv] at hvp
  obtain ⟨op, a, pane, turned, kids⟩ := p
  refine ctr_of (fn := Go.Proofs.Try.f79) (by kernel_rfl) rfl rfl ?_
  rintro ⟨n, w0, F0, M, pin⟩ hn
  cases hn
  refine PW_seq ?_
  -- region 0
  refine PW_region ?_
  refine P22 .none (by first | exact S_boxA rfl rfl rfl rfl | exact S_boxL rfl rfl rfl rfl rfl) ?_
  refine P22 .none (by first | exact S_boxA rfl rfl rfl rfl | exact S_boxL rfl rfl rfl rfl rfl | exact S_boxA rfl (Plan.cells_len _) (Plan.cells_one _) rfl) ?_
  refine P10 .none (S_assign rfl rfl) ?_
  refine Pend ?_
  refine PW_seq ?_
  refine PW_seq ?_
  -- region 1
  refine PW_region ?_
  refine P10 .none (by first | exact S_loadOW rfl rfl rfl rfl rfl | exact S_loadRW rfl rfl rfl | exact S_loadLA rfl rfl rfl (Nat.le_of_ble_eq_true rfl) rfl | exact S_loadOA rfl rfl rfl (Nat.le_of_ble_eq_true rfl) rfl | exact S_loadRA rfl (Nat.le_of_ble_eq_true rfl) rfl) ?_
  refine P10 .none (by first | exact S_loadOW rfl rfl rfl rfl rfl | exact S_loadRW rfl rfl rfl | exact S_loadLA rfl rfl rfl (Nat.le_of_ble_eq_true rfl) rfl | exact S_loadOA rfl rfl rfl (Nat.le_of_ble_eq_true rfl) rfl | exact S_loadRA rfl (Nat.le_of_ble_eq_true rfl) rfl | exact S_loadRW rfl (Plan.cells_len _) rfl | exact S_loadOW rfl rfl rfl (Plan.cells_len _) rfl) ?_
  refine P00 .none (S_call (.one rfl (.one rfl .nil)) rfl hvp (.inl rfl) rfl) ?_
  refine P10 .none (S_not rfl rfl) ?_
  refine Pend ?_
  refine PW_cond rfl (fun h1 => ?_) (fun h1 => ?_)
  · -- t8
    refine PW_seq ?_
    -- region 2
    refine PW_region ?_
    refine P10 .none (S_assign rfl rfl) ?_
    refine Pend ?_
    refine PW_ret ⟨.inr rfl, ?_⟩
    exact ret_g (.cons (.tmp rfl) (.c .nil) .nil) rfl trivial
  · -- not t8
    cases h1

end Go.Proofs.Ytdmlfhmnlddooaa
