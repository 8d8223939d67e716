/- The pure layer and the contracts of the functions, part 2: what the functions of the program leave, as values. -/
import Derived.Test.YtdmlfhmnlddooaaB0
set_option linter.unusedSimpArgs false
set_option linter.unusedVariables false
/- The pure layer, part 11: contracts; what a function gives back. Any program. -/
namespace Go.Pu
open Go

/-- What stands at a place. -/
def ObjAt (P : Program) (F : FMap) (w : World) (p : Plc) (e : TypeId) (fz : Nat) (es : List (List GV)) : Prop :=
  p.fz ≤ fz ∧ (∃ i, P.info? e = some i ∧ i.size = p.sz) ∧ (∀ el ∈ es, el.length = p.sz) ∧ es.length ≤ p.cap ∧ p.cap ≤ maxLen ∧
    ((p.blk = none ∧ es = []) ∨ ∃ b cur, p.blk = some b ∧ w.heap[b]? = some (.cells cur e (0, 0)) ∧ p.o + p.cap * p.sz ≤ cur.size ∧
      ∀ (i j : Nat) (el : List GV) (c : GV), es[i]? = some el → el[j]? = some c → ∃ v, cur[p.o + i * p.sz + j]? = some v ∧ v.oneCell' = true ∧ RG F c v)

theorem gnd_get {es : List (List GV)} {i : Nat} {el : List LC} (h : (Cont.gnd es).cells[i]? = some el) : ∃ l, es[i]? = some l ∧ el = l.map .g := by
  simp only [Cont.cells, List.getElem?_map, Option.map_eq_some_iff] at h
  obtain ⟨l, h1, h2⟩ := h
  exact ⟨l, h1, h2.symm⟩
theorem map_get {l : List GV} {j : Nat} {x : LC} (h : (l.map LC.g)[j]? = some x) : ∃ g, l[j]? = some g ∧ x = .g g := by
  simp only [List.getElem?_map, Option.map_eq_some_iff] at h
  obtain ⟨g, h1, h2⟩ := h
  exact ⟨g, h1, h2.symm⟩

theorem objAt_of {P : Program} {F : FMap} {L : LMap} {w : World} {id : Nat} {e : TypeId} {fz : Nat} {es : List (List GV)} (h : ObjOk P F L w id ⟨e, fz, .gnd es⟩) : ∃ p, L id = some p ∧ ObjAt P F w p e fz es := by
  obtain ⟨p, h1, h2, h3, h4, h5, h6, h7⟩ := h
  refine ⟨p, h1, h2, h3, fun el hel => ?_, by simpa [Cont.cells] using h5, h6, ?_⟩
  · have := h4 (el.map .g) (by simp only [Cont.cells, List.mem_map]; exact ⟨el, hel, rfl⟩)
    simpa using this
  · rcases h7 with ⟨h7, h8⟩ | ⟨b, cur, g1, g2, g3, g4⟩
    · exact .inl ⟨h7, by simpa [Cont.cells] using h8⟩
    · refine .inr ⟨b, cur, g1, g2, g3, fun i j el x hi hj => ?_⟩
      obtain ⟨v, hv, hv1, hv2⟩ := g4 i j (el.map .g) (.g x) (gnd_at hi) (by simp [hj])
      exact ⟨v, hv, hv1, hv2⟩
theorem objOk_of {P : Program} {F : FMap} {L : LMap} {w : World} {id : Nat} {e : TypeId} {fz : Nat} {es : List (List GV)} {p : Plc} (hp : L id = some p) (h : ObjAt P F w p e fz es) : ObjOk P F L w id ⟨e, fz, .gnd es⟩ := by
  obtain ⟨h2, h3, h4, h5, h6, h7⟩ := h
  refine ⟨p, hp, h2, h3, fun el hel => ?_, by simpa [Cont.cells] using h5, h6, ?_⟩
  · simp only [Cont.cells, List.mem_map] at hel
    obtain ⟨l, hl, rfl⟩ := hel
    simpa using h4 l hl
  · rcases h7 with ⟨h7, h8⟩ | ⟨b, cur, g1, g2, g3, g4⟩
    · exact .inl ⟨h7, by simp [Cont.cells, h8]⟩
    · refine .inr ⟨b, cur, g1, g2, g3, fun i j el x hi hj => ?_⟩
      obtain ⟨l, hl, rfl⟩ := gnd_get hi
      obtain ⟨g, hg, rfl⟩ := map_get hj
      obtain ⟨v, hv, hv1, hv2⟩ := g4 i j l g hl hg
      exact ⟨v, hv, hv1, hv2⟩

/-- A header of a whole place. -/
def SlAt (p : Plc) (n : Nat) (x : Value) : Prop :=
  n ≤ p.cap ∧ ((p.blk = none ∧ x = .slice none 0 0 ∧ n = 0) ∨ ∃ b, p.blk = some b ∧ x = .slice (some ⟨b, p.o, none⟩) n p.cap)
theorem slAt_of {F : FMap} {L : LMap} {id n : Nat} {x : Value} {p : Plc} (hp : L id = some p) (h : RL F L (.osl id 0 n) x) : SlAt p n x := by
  obtain ⟨p', h1, h2, h3⟩ := h
  rw [hp] at h1
  cases h1
  refine ⟨by omega, ?_⟩
  rcases h3 with ⟨a, b, _, d⟩ | ⟨b, o', a, e, f⟩
  · exact .inl ⟨a, b, d⟩
  · refine .inr ⟨b, a, ?_⟩
    rw [e, f (.inl rfl)]
    simp
theorem slAt_to {F : FMap} {L : LMap} {id n : Nat} {x : Value} {p : Plc} (hp : L id = some p) (h : SlAt p n x) : RL F L (.osl id 0 n) x := by
  obtain ⟨h1, h2⟩ := h
  refine ⟨p, hp, by omega, ?_⟩
  rcases h2 with ⟨a, b, d⟩ | ⟨b, a, e⟩
  · exact .inl ⟨a, b, rfl, d⟩
  · exact .inr ⟨b, p.o, a, by simpa using e, fun _ => by simp⟩

/-- An argument, and what becomes of it. -/
inductive XA where
  | g (v : GV)
  | box (e : TypeId) (cs cs' : List GV)
  | sl (e : TypeId) (es es' : List (List GV))
  | mv (e : TypeId) (fz : Nat) (es : List (List GV))

/-- A result. -/
inductive XR where
  | g (v : GV)
  | own (e : TypeId) (fz : Nat) (es : List (List GV))
  | otup (e : TypeId) (fz : Nat) (es : List (List GV)) (l : List GV)
  | obox (e : TypeId) (cs : List GV)

def ArgOk (P : Program) (F : FMap) (w : World) : XA → Value → Option Plc → Prop
  | .g v, x, q => RG F v x ∧ q = none
  | .box e cs _, x, q => ∃ p b, q = some p ∧ p.blk = some b ∧ x = .pointer (some ⟨b, p.o, none⟩) ∧ ObjAt P F w p e 0 [cs]
  | .sl e es _, x, q => ∃ p, q = some p ∧ SlAt p es.length x ∧ ObjAt P F w p e 0 es
  | .mv e fz es, x, q => ∃ p, q = some p ∧ SlAt p es.length x ∧ ObjAt P F w p e fz es

def XA.keep : XA → Bool
  | .box .. => true
  | .sl .. => true
  | _ => false

structure ArgsOk (P : Program) (F : FMap) (w : World) (args : List XA) (vs : Array Value) (pl : Nat → Option Plc) : Prop where
  len : vs.size = args.length
  arg : ∀ i a, args[i]? = some a → ArgOk P F w a (vs.getD i undef) (pl i)
  out : ∀ i, args.length ≤ i → pl i = none
  blk : ∀ i p b, pl i = some p → p.blk = some b → b < w.heap.size
  free : ∀ i p b o, pl i = some p → p.blk = some b → p.o + p.fz * p.sz ≤ o → F b o = none
  inj : ∀ i j p q b, pl i = some p → pl j = some q → p.blk = some b → q.blk = some b → i = j

def OutOk (P : Program) (F : FMap) (w : World) : XA → Option Plc → Prop
  | .box e _ cs', q => ∃ p, q = some p ∧ ObjAt P F w p e 0 [cs']
  | .sl e es es', q => ∃ p, q = some p ∧ ObjAt P F w p e 0 es' ∧ es'.length = es.length
  | _, _ => True

def ResOk (P : Program) (F : FMap) (w : World) : XR → Value → Option Plc → Prop
  | .g x, v, q => RG F x v ∧ q = none
  | .own e fz es, v, q => ∃ p, q = some p ∧ SlAt p es.length v ∧ ObjAt P F w p e fz es
  | .otup e fz es l, v, q => ∃ p u us, q = some p ∧ v = .tuple ⟨u :: us⟩ ∧ SlAt p es.length u ∧ ObjAt P F w p e fz es ∧ us.length = l.length ∧ ∀ (i : Nat) (g : GV) (x : Value), l[i]? = some g → us[i]? = some x → RG F g x
  | .obox e cs, v, q => ∃ p b, q = some p ∧ p.blk = some b ∧ v = .pointer (some ⟨b, p.o, none⟩) ∧ ObjAt P F w p e 0 [cs]

def MB (pl : Nat → Option Plc) (b : Nat) : Prop := ∃ i p, pl i = some p ∧ p.blk = some b

/-- How a call ends. -/
structure PostOk (P : Program) (F : FMap) (w : World) (args : List XA) (pl : Nat → Option Plc) (res : XR) (v : Value) (w' : World) (F' : FMap) (pr : Option Plc) : Prop where
  ag : Ag F' w'
  fr : Fr w w' (MB pl)
  ext : ∀ b o u, F b o = some u → F' b o = some u
  fx : ∀ b o, b < w.heap.size → ¬ MB pl b → F' b o = F b o
  res : ResOk P F' w' res v pr
  outs : ∀ i a, args[i]? = some a → OutOk P F' w' a (pl i)
  rblk : ∀ p b, pr = some p → p.blk = some b → (w.heap.size ≤ b ∨ MB pl b) ∧ b < w'.heap.size
  rfree : ∀ p b o, pr = some p → p.blk = some b → p.o + p.fz * p.sz ≤ o → F' b o = none
  rne : ∀ p b, pr = some p → p.blk = some b → ∀ i a q, args[i]? = some a → a.keep = true → pl i = some q → q.blk ≠ some b
  ofree : ∀ i a q b o, args[i]? = some a → a.keep = true → pl i = some q → q.blk = some b → q.o + q.fz * q.sz ≤ o → F' b o = none

/-- The contract of a function: from these arguments it comes to this result. -/
def Ctr (P : Program) (f : FuncId) (args : List XA) (res : XR) : Prop :=
  ∀ F w vs pl, Ag F w → ArgsOk P F w args vs pl → Calls P f vs w fun | .returned v, w' => ∃ F' pr, PostOk P F w args pl res v w' F' pr | _, _ => False

/-! ### what a call gives out -/
inductive Ex (n : Nat) (s : St) : LC → GV → Prop where
  | g (v : GV) : Ex n s (.g v) v
  | nil : Ex n s (.g .nil) (.sl [])
  | sl {id off k : Nat} {ob : Obj} {es : List (List GV)} (hid : id < n) (ho : lookO s.objs id = some ob) (hl : es.length = k) (hb : off + k ≤ ob.es.cells.length)
      (hw : ∀ (i : Nat) (el : List GV) (cs : List LC), es[i]? = some el → ob.es.cells[off + i]? = some cs → el.length = cs.length)
      (h : ∀ (i j : Nat) (el : List GV) (cs : List LC) (x : LC) (y : GV), es[i]? = some el → ob.es.cells[off + i]? = some cs → cs[j]? = some x → el[j]? = some y → Ex n s x y) : Ex n s (.osl id off k) (.sl es)
  | ref {id : Nat} {ob : Obj} {cs : List LC} {gs : List GV} (hid : id < n) (ho : lookO s.objs id = some ob) (hc : ob.es.cells[0]? = some cs) (hl : gs.length = cs.length)
      (h : ∀ (j : Nat) (x : LC) (y : GV), cs[j]? = some x → gs[j]? = some y → Ex n s x y) : Ex n s (.optr id 0 0) (.ref gs)

theorem Ex.own {n : Nat} {s : St} {id off k fz : Nat} {e : TypeId} {es : List (List GV)} (hid : Nat.blt id n = true) (ho : lookO s.objs id = some ⟨e, fz, .gnd es⟩) (hb : off + k ≤ es.length) : Ex n s (.osl id off k) (.sl ((es.drop off).take k)) := by
  refine .sl (Nat.blt_lt hid) ho (by simp; omega) (by simpa [Cont.cells] using hb) ?_ ?_
  · intro i el cs hi hc
    obtain ⟨l, hl, rfl⟩ := gnd_get hc
    rw [List.getElem?_take] at hi
    split at hi
    · rw [List.getElem?_drop, hl] at hi
      cases hi; simp
    · cases hi
  · intro i j el cs x y hi hc hx hy
    obtain ⟨l, hl, rfl⟩ := gnd_get hc
    obtain ⟨g, hg, rfl⟩ := map_get hx
    rw [List.getElem?_take] at hi
    split at hi
    · rw [List.getElem?_drop, hl] at hi
      cases hi
      rw [hg] at hy
      cases hy
      exact .g _
    · cases hi
theorem Ex.whole {n : Nat} {s : St} {id k fz : Nat} {e : TypeId} {es : List (List GV)} (hid : Nat.blt id n = true) (ho : lookO s.objs id = some ⟨e, fz, .gnd es⟩) (hb : es.length = k) : Ex n s (.osl id 0 k) (.sl es) := by
  have := Ex.own (off := 0) (k := k) hid ho (by omega)
  rwa [List.drop_zero, ← hb, List.take_length, hb] at this

/-- What is given out, over the cells that stand still from now on. -/
theorem Ex.out {P : Program} {c : Ctx} {s : St} {a : Act} {w : World} {F : FMap} {L : LMap} (h : SimFL P c s a w F L) {F' : FMap} (hF : ∀ b o v, F b o = some v → F' b o = some v)
    (hz : ∀ id p b o v, id < c.n → L id = some p → p.blk = some b → w.cell? ⟨b, o, none⟩ = some v → F' b o = some v) : ∀ {x : LC} {y : GV}, Ex c.n s x y → ∀ v, RL F L x v → RG F' y v := by
  intro x y hx
  induction hx with
  | g v => intro u hu; exact RG.mono hF hu
  | nil => intro u hu; cases hu; exact .sl0 _ _
  | @sl id off k ob es hid ho hl hb hw _ ih =>
    rintro v ⟨p, hp, hcap, hcase⟩
    obtain ⟨p', q1, q2, q3, q4, q5, q6, q7⟩ := h.ob id ob ho
    rw [hp] at q1
    cases q1
    have hk0 : k = 0 → RG F' (.sl es) v := by
      intro hk
      have : es = [] := List.eq_nil_of_length_eq_zero (by omega)
      subst this
      rcases hcase with ⟨_, rfl, _⟩ | ⟨b, o', _, rfl, _⟩
      · exact .sl0 _ _
      · rw [hk]; exact .sl0 _ _
    rcases Nat.eq_zero_or_pos k with hk | hk
    · exact hk0 hk
    rcases hcase with ⟨_, _, _, hk'⟩ | ⟨b, o', hb', rfl, ho'⟩
    · exact hk0 hk'
    rcases q7 with ⟨q7, _⟩ | ⟨b2, cur, q7, q8, q9, q10⟩
    · rw [hb'] at q7; cases q7
    rw [hb'] at q7
    cases q7
    have e0 := ho' (.inr (by omega))
    have rows : ∀ (i : Nat) (el : List GV), es[i]? = some el → ∃ cs, ob.es.cells[off + i]? = some cs ∧ cs.length = el.length ∧ el.length = p.sz := by
      intro i el hi
      have hlt := (List.getElem?_eq_some_iff.1 hi).1
      have hc : ob.es.cells[off + i]? = some (ob.es.cells[off + i]'(by omega)) := List.getElem?_eq_getElem _
      refine ⟨_, hc, (hw i el _ hi hc).symm, ?_⟩
      rw [hw i el _ hi hc]
      exact q4 _ (List.getElem_mem _)
    have cellat : ∀ (i j : Nat) (el : List GV) (y : GV), es[i]? = some el → el[j]? = some y → ∃ u, w.cell? ⟨b, o' + i * p.sz + j, none⟩ = some u ∧ RG F' y u := by
      intro i j el y hi hj
      obtain ⟨cs, hc, hlen, hsz⟩ := rows i el hi
      have hjl := (List.getElem?_eq_some_iff.1 hj).1
      have hx : cs[j]? = some (cs[j]'(by omega)) := List.getElem?_eq_getElem _
      obtain ⟨u, hu, _, hr⟩ := q10 (off + i) j cs _ hc hx
      refine ⟨u, ?_, ih i j el cs _ y hi hc hx hj u hr⟩
      rw [cell_of_row w b _ cur _ _ q8, ← hu, e0]
      congr 1
      rw [Nat.add_mul]; omega
    rw [← hl]
    refine .sl es b o' (p.cap - off) p.sz (fun i j => (w.cell? ⟨b, o' + i * p.sz + j, none⟩).getD undef) ?_ ?_ ?_ (by omega)
    · intro el hel
      obtain ⟨i, hi⟩ := List.mem_iff_getElem?.1 hel
      exact (rows i el hi).choose_spec.2.2
    · intro i j hi hj
      obtain ⟨cs, hc, hlen, hsz⟩ := rows i _ (List.getElem?_eq_getElem hi)
      obtain ⟨u, hu, _⟩ := cellat i j _ _ (List.getElem?_eq_getElem hi) (List.getElem?_eq_getElem (by omega))
      rw [hu]
      exact hz id p b _ u hid hp hb' hu
    · intro i j el y hi hj
      obtain ⟨u, hu, hr⟩ := cellat i j el y hi hj
      rw [hu]; exact hr
  | @ref id ob cs gs hid ho hc hl _ ih =>
    rintro v ⟨p, b, hp, hb', rfl⟩
    obtain ⟨p', q1, q2, q3, q4, q5, q6, q7⟩ := h.ob id ob ho
    rw [hp] at q1
    cases q1
    rcases q7 with ⟨q7, _⟩ | ⟨b2, cur, q7, q8, q9, q10⟩
    · rw [hb'] at q7; cases q7
    rw [hb'] at q7
    cases q7
    have cellat : ∀ (j : Nat) (y : GV), gs[j]? = some y → ∃ u, w.cell? ⟨b, p.o + 0 * p.sz + 0 + j, none⟩ = some u ∧ RG F' y u := by
      intro j y hj
      have hjl := (List.getElem?_eq_some_iff.1 hj).1
      have hx : cs[j]? = some (cs[j]'(by omega)) := List.getElem?_eq_getElem _
      obtain ⟨u, hu, _, hr⟩ := q10 0 j cs _ hc hx
      refine ⟨u, ?_, ih j _ y hx hj u hr⟩
      rw [cell_of_row w b _ cur _ _ q8, ← hu]
      rfl
    refine .ref gs b _ (fun j => (w.cell? ⟨b, p.o + 0 * p.sz + 0 + j, none⟩).getD undef) ?_ ?_
    · intro j hj
      obtain ⟨u, hu, _⟩ := cellat j _ (List.getElem?_eq_getElem hj)
      rw [hu]
      exact hz id p b _ u hid hp hb' hu
    · intro j y hj
      obtain ⟨u, hu, hr⟩ := cellat j y hj
      rw [hu]; exact hr

inductive ExP (n : Nat) (s : St) : PV → GV → Prop where
  | c {x : LC} {g : GV} (h : Ex n s x g) : ExP n s (.c x) g
  | agg {cs : List LC} {gs : List GV} (hl : cs.length = gs.length) (h : ∀ (i : Nat) (x : LC) (g : GV), cs[i]? = some x → gs[i]? = some g → Ex n s x g) : ExP n s (.agg cs) (.agg gs)

theorem ExP.out {P : Program} {c : Ctx} {s : St} {a : Act} {w : World} {F : FMap} {L : LMap} (h : SimFL P c s a w F L) {F' : FMap} (hF : ∀ b o v, F b o = some v → F' b o = some v)
    (hz : ∀ id p b o v, id < c.n → L id = some p → p.blk = some b → w.cell? ⟨b, o, none⟩ = some v → F' b o = some v) {x : PV} {y : GV} (hx : ExP c.n s x y) (v : Value) (hv : RP F L x v) : RG F' y v := by
  cases hx with
  | c hx => exact hx.out h hF hz v hv
  | agg hl hx =>
    obtain ⟨vs, rfl, hlen, hr⟩ := hv
    refine .agg _ _ (by omega) fun i g u hg hu => ?_
    have hlt := (List.getElem?_eq_some_iff.1 hu).1
    have hc := List.getElem?_eq_getElem (l := ‹List LC›) (i := i) (by omega)
    exact (hx i _ g hc hg).out h hF hz u (hr i _ u hc hu)
end Go.Pu
/- The pure layer, part 12: entering and leaving a function. Any program. -/
namespace Go.Pu
open Go

/-- The slots at the start. -/
def XA.pv (n i : Nat) : XA → PV
  | .g v => .c (.g v)
  | .box .. => .c (.optr (n + i) 0 0)
  | .sl _ es _ => .c (.osl (n + i) 0 es.length)
  | .mv _ _ es => .c (.osl i 0 es.length)
def initR (n : Nat) : Nat → List XA → List REv
  | _, [] => []
  | i, a :: l => .set i (a.pv n i) :: initR n (i + 1) l
def initO (n : Nat) : Nat → List XA → List OEv
  | _, [] => []
  | i, .g _ :: l => initO n (i + 1) l
  | i, .box e cs _ :: l => .set (n + i) ⟨e, 0, .gnd [cs]⟩ :: initO n (i + 1) l
  | i, .sl e es _ :: l => .set (n + i) ⟨e, 0, .gnd es⟩ :: initO n (i + 1) l
  | i, .mv e fz es :: l => .set i ⟨e, fz, .gnd es⟩ :: initO n (i + 1) l

theorem initR_look {n : Nat} : ∀ {l : List XA} {k t : Nat} {v : PV}, look (initR n k l) t = some v → ∃ a, k ≤ t ∧ l[t - k]? = some a ∧ v = a.pv n t := by
  intro l
  induction l with
  | nil => intro k t v h; cases h
  | cons a l ih =>
    intro k t v h
    simp only [initR, look] at h
    cases hb : Nat.beq k t with
    | true =>
      rw [hb] at h
      simp only [cond_true, Option.some.injEq] at h
      have := beq_of hb
      subst this
      exact ⟨a, Nat.le_refl _, by simp, h.symm⟩
    | false =>
      rw [hb] at h
      obtain ⟨a', h1, h2, h3⟩ := ih h
      refine ⟨a', by omega, ?_, h3⟩
      rw [show t - k = (t - (k + 1)) + 1 by omega, List.getElem?_cons_succ]
      exact h2

/-- Which object an argument is. -/
def XA.obj (n i : Nat) : XA → Option (Nat × Obj)
  | .g _ => none
  | .box e cs _ => some (n + i, ⟨e, 0, .gnd [cs]⟩)
  | .sl e es _ => some (n + i, ⟨e, 0, .gnd es⟩)
  | .mv e fz es => some (i, ⟨e, fz, .gnd es⟩)
theorem initO_look {n : Nat} : ∀ {l : List XA} {k t : Nat} {o : Obj}, lookO (initO n k l) t = some o → ∃ i a, k ≤ i ∧ l[i - k]? = some a ∧ a.obj n i = some (t, o) := by
  intro l
  induction l with
  | nil => intro k t v h; cases h
  | cons a l ih =>
    intro k t o h
    have next : lookO (initO n (k + 1) l) t = some o → ∃ i a', k ≤ i ∧ (a :: l)[i - k]? = some a' ∧ a'.obj n i = some (t, o) := by
      intro h
      obtain ⟨i, a', h1, h2, h3⟩ := ih h
      refine ⟨i, a', by omega, ?_, h3⟩
      rw [show i - k = (i - (k + 1)) + 1 by omega, List.getElem?_cons_succ]
      exact h2
    have here : ∀ id ob, a.obj n k = some (id, ob) → (bif Nat.beq id t then some ob else lookO (initO n (k + 1) l) t) = some o → ∃ i a', k ≤ i ∧ (a :: l)[i - k]? = some a' ∧ a'.obj n i = some (t, o) := by
      intro id ob ha h2
      cases hb : Nat.beq id t with
      | true =>
        rw [hb] at h2
        have h3 : ob = o := by simpa using h2
        have h4 := beq_of hb
        exact ⟨k, a, Nat.le_refl _, by simp, by rw [ha, h3, h4]⟩
      | false => rw [hb] at h2; exact next h2
    cases a with
    | g v => exact next h
    | box e cs cs' => exact here _ _ rfl h
    | sl e es es' => exact here _ _ rfl h
    | mv e fz es => exact here _ _ rfl h
theorem initO_free {n : Nat} : ∀ {l : List XA} {k t : Nat}, freeO (initO n k l) t = false := by
  intro l
  induction l with
  | nil => intro k t; rfl
  | cons a l ih =>
    intro k t
    cases a with
    | g v => exact ih
    | _ => simp only [initO, freeO]; cases Nat.beq _ t <;> first | rfl | exact ih

def placeAt (n : Nat) (args : List XA) (pl : Nat → Option Plc) (id : Nat) : Option Plc :=
  if id < n then (match args[id]? with | some (.mv ..) => pl id | _ => none)
  else (match args[id - n]? with | some a => if a.keep = true then pl (id - n) else none | _ => none)

theorem placeAt_inv {n : Nat} {args : List XA} {pl : Nat → Option Plc} {id : Nat} {p : Plc} (h : placeAt n args pl id = some p) : ∃ i a, args[i]? = some a ∧ pl i = some p ∧ ((id = i ∧ id < n ∧ a.keep = false) ∨ (id = n + i ∧ a.keep = true)) := by
  unfold placeAt at h
  split at h
  · rename_i hlt
    split at h
    · rename_i e fz es ha
      exact ⟨id, _, ha, h, .inl ⟨rfl, hlt, rfl⟩⟩
    · cases h
  · split at h
    · rename_i a ha
      split at h
      · rename_i hk
        exact ⟨id - n, a, ha, h, .inr ⟨by omega, hk⟩⟩
      · cases h
    · cases h

def rvRun (tmps : Array Value) : ResultVar → Sem Value
  | .tmp t => pure (tmps.getD t undef)
  | .cell x t => do loadVar t (← asAddr (tmps.getD x undef))

theorem results_eq (fn : Func) (tmps : Array Value) : results fn tmps = (do let vs ← fn.results.mapM (rvRun tmps); pure (if h : vs.size = 1 then vs[0] else .tuple vs)) := by
  unfold results
  congr 2

/-- What a function's end has to be. -/
def RetOk (P : Program) (n : Nat) (rs : Array ResultVar) (args : List XA) (res : XR) (s : St) : Prop :=
  ∀ (c : Ctx) (a : Act) (w : World) (pl : Nat → Option Plc), c.n = n → c.M = MB pl → (∀ i x, args[i]? = some x → x.keep = true → ∃ q, pl i = some q ∧ c.pin (n + i) = some q) → Sim P c s a w →
    ∃ v, (rs.mapM (rvRun a.tmps)).run P w = .ok v w ∧
      ∃ F' pr, PostOk P c.F0 c.w0 args pl res (if h : v.size = 1 then v[0] else .tuple v) w F' pr

/-- From the walk of its text to the contract of a function. -/
theorem ctr_of {P : Program} {f : FuncId} {fn : Func} {code : Code} {args : List XA} {res : XR} (hf : P.funcs[f]? = some fn) (hb : fn.body = some code) (hn : Nat.ble args.length fn.ntmps = true)
    (h : ∀ c : Ctx, c.n = fn.ntmps → PW P c code (fun e s => (e = .normal ∨ e = .ret) ∧ RetOk P fn.ntmps fn.results args res s) ⟨initR fn.ntmps 0 args, initO fn.ntmps 0 args⟩) : Ctr P f args res := by
  intro F w vs pl hag ha
  refine calls_of_wp hf hb ?_
  have hn' : args.length ≤ fn.ntmps := by simpa [Nat.ble_eq] using hn
  let c : Ctx := ⟨fn.ntmps, w, F, MB pl, placeAt fn.ntmps args pl⟩
  have hsz : (vs ++ Array.replicate (fn.ntmps - vs.size) undef).size = fn.ntmps := by simp [ha.len]; omega
  have hlook : ∀ t, t < args.length → (vs ++ Array.replicate (fn.ntmps - vs.size) undef).getD t undef = vs.getD t undef := by
    intro t ht
    have := ha.len
    simp only [Array.getD_eq_getD_getElem?]
    rw [Array.getElem?_append_left (by omega)]
  have hLmv : ∀ (i : Nat) (e : TypeId) (fz : Nat) (es : List (List GV)), args[i]? = some (.mv e fz es) → placeAt fn.ntmps args pl i = pl i := by
    intro i e fz es hi
    have := (List.getElem?_eq_some_iff.1 hi).1
    unfold placeAt
    rw [if_pos (by omega), hi]
  have hLk : ∀ (i : Nat) (x : XA), args[i]? = some x → x.keep = true → placeAt fn.ntmps args pl (fn.ntmps + i) = pl i := by
    intro i x hi hk
    unfold placeAt
    rw [if_neg (by omega), show fn.ntmps + i - fn.ntmps = i by omega, hi]
    simp [hk]
  have hsim : Sim P c ⟨initR fn.ntmps 0 args, initO fn.ntmps 0 args⟩ { tmps := vs ++ Array.replicate (fn.ntmps - vs.size) undef, defers := [] } w := by
    refine ⟨F, placeAt fn.ntmps args pl, {
      df := rfl
      sz := hsz
      ag := hag
      fr := Fr.refl w _
      fx := fun _ _ _ _ => rfl
      rg := ?_
      ob := ?_
      lk := ?_
      fe := fun id hid => by rw [initO_free] at hid; cases hid
      pn := fun _ _ => rfl
      f0 := fun _ _ _ h => h }⟩
    · intro t v ht
      obtain ⟨x, _, hx, rfl⟩ := initR_look ht
      rw [Nat.sub_zero] at hx
      have hlt := (List.getElem?_eq_some_iff.1 hx).1
      rw [hlook t hlt]
      have hok := ha.arg t x hx
      cases x with
      | g v => exact hok.1
      | box e cs cs' =>
        obtain ⟨p, b, hp, hpb, hv, _⟩ := hok
        exact ⟨p, b, by rw [hLk t _ hx rfl]; exact hp, hpb, by simpa using hv⟩
      | sl e es es' =>
        obtain ⟨p, hp, hs, _⟩ := hok
        exact slAt_to (F := F) (by rw [hLk t _ hx rfl]; exact hp) hs
      | mv e fz es =>
        obtain ⟨p, hp, hs, _⟩ := hok
        exact slAt_to (F := F) (by rw [hLmv t _ _ _ hx]; exact hp) hs
    · intro id o ho
      obtain ⟨i, x, _, hx, hobj⟩ := initO_look ho
      rw [Nat.sub_zero] at hx
      have hok := ha.arg i x hx
      cases x with
      | g v => cases hobj
      | box e cs cs' =>
        cases hobj
        obtain ⟨p, b, hp, hpb, hv, hat⟩ := hok
        exact objOk_of (by rw [hLk i _ hx rfl]; exact hp) hat
      | sl e es es' =>
        cases hobj
        obtain ⟨p, hp, hs, hat⟩ := hok
        exact objOk_of (by rw [hLk i _ hx rfl]; exact hp) hat
      | mv e fz es =>
        cases hobj
        obtain ⟨p, hp, hs, hat⟩ := hok
        exact objOk_of (by rw [hLmv _ _ _ _ hx]; exact hp) hat
    · refine ⟨?_, ?_, ?_⟩
      · intro id p b hp hpb
        obtain ⟨i, x, hx, hpi, _⟩ := placeAt_inv hp
        exact ⟨.inr ⟨i, p, hpi, hpb⟩, ha.blk i p b hpi hpb⟩
      · intro id p b o hp hpb ho
        obtain ⟨i, x, hx, hpi, _⟩ := placeAt_inv hp
        exact ha.free i p b o hpi hpb ho
      · intro id id' p p' b hp hp' hpb hpb'
        obtain ⟨i, x, hx, hpi, h1⟩ := placeAt_inv hp
        obtain ⟨i', x', hx', hpi', h2⟩ := placeAt_inv hp'
        have := ha.inj i i' p p' b hpi hpi' hpb hpb'
        subst this
        rw [hx] at hx'
        cases hx'
        rcases h1 with ⟨h1, _, h1k⟩ | ⟨h1, h1k⟩ <;> rcases h2 with ⟨h2, _, h2k⟩ | ⟨h2, h2k⟩ <;> first | omega | (rw [h1k] at h2k; cases h2k)
  have hend : ∀ s a' w', RetOk P fn.ntmps fn.results args res s → Sim P c s a' w' → a'.defers = [] ∧ ∃ v, (results fn a'.tmps).run P w' = .ok v w' ∧ ∃ F' pr, PostOk P F w args pl res v w' F' pr := by
    intro s a' w' hr hs
    obtain ⟨v, h1, F', pr, h2⟩ := hr c a' w' pl rfl rfl (fun i x hi hk => by
      have := ha.arg i x hi
      cases x with
      | box e cs cs' => obtain ⟨p, b, hp, _⟩ := this; exact ⟨p, hp, (hLk i _ hi hk).trans hp⟩
      | sl e es es' => obtain ⟨p, hp, _⟩ := this; exact ⟨p, hp, (hLk i _ hi hk).trans hp⟩
      | _ => cases hk) hs
    obtain ⟨F2, L2, hs2⟩ := hs
    refine ⟨hs2.df, _, ?_, F', pr, h2⟩
    rw [results_eq]
    simp only [Sem.run_bind, h1, Result.andThen_ok, Sem.run_pure]
  refine wp_mono (h c rfl _ w hsim) ?_
  rintro e a' w' ⟨s', ⟨he, hr⟩, hs'⟩
  rcases he with rfl | rfl
  · exact hend s' a' w' hr hs'
  · exact hend s' a' w' hr hs'

/-! ### leaving -/
/-- What a result variable holds. -/
inductive RV (P : Program) (s : St) : ResultVar → PV → Prop where
  | tmp {t : Nat} {v : PV} (h : look s.regs t = some v) : RV P s (.tmp t) v
  | gnd {x : Nat} {t e : TypeId} {n id fz : Nat} {cs : List GV} [h1 : TAgg P t] [h2 : TSz P t n] (hx : look s.regs x = some (.c (.optr id 0 0))) (ho : lookO s.objs id = some ⟨e, fz, .gnd [cs]⟩) (hn : cs.length = n) : RV P s (.cell x t) (.c (.g (.agg cs)))
  | loc {x : Nat} {t e : TypeId} {n id fz : Nat} {cs : List LC} [h1 : TAgg P t] [h2 : TSz P t n] (hx : look s.regs x = some (.c (.optr id 0 0))) (ho : lookO s.objs id = some ⟨e, fz, .loc [cs]⟩) (hn : cs.length = n) : RV P s (.cell x t) (.agg cs)

theorem run_loadVarA {P : Program} {t : TypeId} {n : Nat} [TAgg P t] [TSz P t n] {w : World} {b o : Nat} {vs : List Value} (hn : vs.length = n) (h : ∀ j v, vs[j]? = some v → w.cell? ⟨b, o + j, none⟩ = some v) :
    (loadVar t ⟨b, o, none⟩).run P w = .ok (.agg ⟨vs⟩) w := by
  have := run_loadCells_list (P := P) w ⟨b, o, none⟩ vs (fun j v hj => by rw [add_off]; exact h j v hj)
  simp [loadVar, run_isAgg, run_sizeOf, ← hn, this]

theorem RV.run {P : Program} {c : Ctx} {s : St} {a : Act} {w : World} {F : FMap} {L : LMap} (h : SimFL P c s a w F L) {r : ResultVar} {v : PV} (hr : RV P s r v) : ∃ u, (rvRun a.tmps r).run P w = .ok u w ∧ RP F L v u := by
  cases hr with
  | tmp ht => exact ⟨_, by simp [rvRun], h.rg _ _ ht⟩
  | @gnd x t e n id fz cs h1 h2 hx ho hn =>
    obtain ⟨b, q, hv, hrd⟩ := optr_cell (h.rg _ _ hx) (h.ob _ _ ho)
    obtain ⟨vs, e1, e2, e3⟩ := own_cells (n := n) (by simp; omega) (hrd _ (gnd_at (es := [cs]) (el := 0) rfl))
    refine ⟨.agg ⟨vs⟩, ?_, ?_⟩
    · simp only [rvRun, hv]
      simp [asAddr, run_loadVarA (P := P) (t := t) e1 e2]
    · refine RG.agg _ _ (by omega) fun i y v hy hv' => ?_
      exact e3 i (.g y) v (by
        have := (List.getElem?_eq_some_iff.1 hy).1
        rw [List.drop_zero, List.getElem?_take, if_pos (by omega), List.getElem?_map, hy]; rfl) hv'
  | @loc x t e n id fz cs h1 h2 hx ho hn =>
    obtain ⟨b, q, hv, hrd⟩ := optr_cell (h.rg _ _ hx) (h.ob _ _ ho)
    obtain ⟨vs, e1, e2, e3⟩ := own_cells (n := n) (by omega) (hrd cs rfl)
    refine ⟨.agg ⟨vs⟩, ?_, vs, rfl, by omega, ?_⟩
    · simp only [rvRun, hv]
      simp [asAddr, run_loadVarA (P := P) (t := t) e1 e2]
    · intro i y v hy hv'
      exact e3 i y v (by
        have := (List.getElem?_eq_some_iff.1 hy).1
        rw [List.drop_zero, List.getElem?_take, if_pos (by omega)]; exact hy) hv'

/-- What stays of the arguments. -/
def OutsOk (n : Nat) (s : St) : Nat → List XA → Prop
  | _, [] => True
  | i, .box e _ cs' :: l => lookO s.objs (n + i) = some ⟨e, 0, .gnd [cs']⟩ ∧ OutsOk n s (i + 1) l
  | i, .sl e es es' :: l => (lookO s.objs (n + i) = some ⟨e, 0, .gnd es'⟩ ∧ es'.length = es.length) ∧ OutsOk n s (i + 1) l
  | i, _ :: l => OutsOk n s (i + 1) l

theorem OutsOk.at {n : Nat} {s : St} : ∀ {l : List XA} {k : Nat}, OutsOk n s k l → ∀ (i : Nat) (a : XA), l[i]? = some a → match a with
    | .box e _ cs' => lookO s.objs (n + (k + i)) = some ⟨e, 0, .gnd [cs']⟩
    | .sl e es es' => lookO s.objs (n + (k + i)) = some ⟨e, 0, .gnd es'⟩ ∧ es'.length = es.length
    | _ => True := by
  intro l
  induction l with
  | nil => intro k _ i a h; simp at h
  | cons x l ih =>
    intro k h i a hi
    cases i with
    | zero =>
      simp at hi
      subst hi
      cases x with
      | g v => trivial
      | mv e fz es => trivial
      | box e cs cs' => exact h.1
      | sl e es es' => exact h.1
    | succ i =>
      rw [List.getElem?_cons_succ] at hi
      have h' : OutsOk n s (k + 1) l := by
        cases x with
        | g v => exact h
        | mv e fz es => exact h
        | box e cs cs' => exact h.2
        | sl e es es' => exact h.2
      have := ih h' i a hi
      rw [show k + 1 + i = k + (i + 1) by omega] at this
      exact this

theorem outs_of {P : Program} {c : Ctx} {s : St} {a : Act} {w : World} {F : FMap} {L : LMap} (h : SimFL P c s a w F L) {args : List XA} {pl : Nat → Option Plc} {F' : FMap} (hF : ∀ b o v, F b o = some v → F' b o = some v)
    (hpin : ∀ i x, args[i]? = some x → x.keep = true → ∃ q, pl i = some q ∧ c.pin (c.n + i) = some q) (ho : OutsOk c.n s 0 args) :
    ∀ i x, args[i]? = some x → OutOk P F' w x (pl i) := by
  intro i x hx
  have hat := ho.at i x hx
  rw [Nat.zero_add] at hat
  have key : ∀ (e : TypeId) (es : List (List GV)), x.keep = true → lookO s.objs (c.n + i) = some ⟨e, 0, .gnd es⟩ → ∃ p, pl i = some p ∧ ObjAt P F' w p e 0 es := by
    intro e es hk hl
    obtain ⟨q, hq, hpq⟩ := hpin i x hx hk
    have hL : L (c.n + i) = some q := by rw [h.pn _ (by omega)]; exact hpq
    obtain ⟨p, hp, hat⟩ := objAt_of (h.ob _ _ hl)
    rw [hL] at hp
    cases hp
    refine ⟨q, hq, ?_⟩
    obtain ⟨g1, g2, g3, g4, g5, g6⟩ := hat
    refine ⟨g1, g2, g3, g4, g5, ?_⟩
    rcases g6 with g6 | ⟨b, cur, k1, k2, k3, k4⟩
    · exact .inl g6
    · exact .inr ⟨b, cur, k1, k2, k3, fun i j el c hi hj => by
        obtain ⟨v, v1, v2, v3⟩ := k4 i j el c hi hj
        exact ⟨v, v1, v2, RG.mono hF v3⟩⟩
  cases x with
  | g v => trivial
  | mv e fz es => trivial
  | box e cs cs' => exact key e _ rfl hat
  | sl e es es' =>
    obtain ⟨p, hp, hat'⟩ := key e _ rfl hat.1
    exact ⟨p, hp, hat', hat.2⟩

open Classical in
/-- All that is the call's own, but what it hands back, stands still from now on. -/
noncomputable def frz (Z : Nat → Prop) (F : FMap) (L : LMap) (w : World) : FMap := fun b o =>
  match F b o with
  | some v => some v
  | none => if ∃ id p, Z id ∧ L id = some p ∧ p.blk = some b then w.cell? ⟨b, o, none⟩ else none

theorem frz_ext {Z : Nat → Prop} {F : FMap} {L : LMap} {w : World} (b o : Nat) (v : Value) (h : F b o = some v) : frz Z F L w b o = some v := by
  unfold frz; rw [h]
theorem frz_own {Z : Nat → Prop} {F : FMap} {L : LMap} {w : World} (hag : Ag F w) (id : Nat) (p : Plc) (b o : Nat) (v : Value) (hid : Z id) (hp : L id = some p) (hb : p.blk = some b) (hv : w.cell? ⟨b, o, none⟩ = some v) : frz Z F L w b o = some v := by
  unfold frz
  cases hx : F b o with
  | some u =>
    have := hag b o u hx
    rw [hv] at this
    exact this.symm
  | none =>
    simp only
    rw [if_pos ⟨id, p, hid, hp, hb⟩]
    exact hv
theorem frz_ag {Z : Nat → Prop} {F : FMap} {L : LMap} {w : World} (hag : Ag F w) : Ag (frz Z F L w) w := by
  intro b o v h
  unfold frz at h
  split at h
  · rename_i u hu
    cases h
    exact hag b o _ hu
  · split at h
    · exact h
    · cases h
theorem frz_other {Z : Nat → Prop} {F : FMap} {L : LMap} {w : World} {b o : Nat} (h : ∀ id p, Z id → L id = some p → p.blk ≠ some b) : frz Z F L w b o = F b o := by
  unfold frz
  cases hx : F b o with
  | some u => rfl
  | none =>
    simp only
    rw [if_neg]
    rintro ⟨id, p, h1, h2, h3⟩
    exact h id p h1 h2 h3

theorem mapM_run {P : Program} {α β : Type} {f : α → Sem β} {w : World} : ∀ {l : List α} {us : List β}, us.length = l.length → (∀ (i : Nat) (x : α) (u : β), l[i]? = some x → us[i]? = some u → (f x).run P w = .ok u w) → (l.mapM f : Sem (List β)).run P w = .ok us w := by
  intro l
  induction l with
  | nil => intro us hl _; cases us <;> first | (simp; done) | simp at hl
  | cons x l ih =>
    intro us hl h
    cases us with
    | nil => simp at hl
    | cons u us =>
      rw [List.mapM_cons]
      simp [h 0 x u rfl rfl, ih (us := us) (by simpa using hl) (fun i x u hx hu => h (i + 1) x u (by simpa using hx) (by simpa using hu))]

/-- The result variables and what is given out for them. -/
inductive RGs (P : Program) (n : Nat) (s : St) : List ResultVar → List GV → Prop where
  | nil : RGs P n s [] []
  | cons {r : ResultVar} {v : PV} {g : GV} {rs : List ResultVar} {gs : List GV} (h1 : RV P s r v) (h2 : ExP n s v g) (h3 : RGs P n s rs gs) : RGs P n s (r :: rs) (g :: gs)

theorem RGs.run {P : Program} {c : Ctx} {s : St} {a : Act} {w : World} {F : FMap} {L : LMap} (h : SimFL P c s a w F L) {rs : List ResultVar} {gs : List GV} (hr : RGs P c.n s rs gs) :
    ∃ us : List Value, us.length = rs.length ∧ gs.length = rs.length ∧ (∀ (i : Nat) (x : ResultVar) (u : Value), rs[i]? = some x → us[i]? = some u → (rvRun a.tmps x).run P w = .ok u w) ∧ ∀ (i : Nat) (g : GV) (u : Value), gs[i]? = some g → us[i]? = some u → RG (frz (· < c.n) F L w) g u := by
  induction hr with
  | nil => exact ⟨[], rfl, rfl, by simp, by simp⟩
  | cons h1 h2 _ ih =>
    obtain ⟨us, e1, e2, e3, e4⟩ := ih
    obtain ⟨u, u1, u2⟩ := h1.run h
    have hg := h2.out h (F' := frz (· < c.n) F L w) (fun b o v => frz_ext b o v) (fun id p b o v => frz_own (Z := (· < c.n)) h.ag id p b o v) u u2
    refine ⟨u :: us, by simp [e1], by simp [e2], ?_, ?_⟩
    · intro i x y hx hy
      cases i with
      | zero => simp at hx hy; subst hx; subst hy; exact u1
      | succ i => exact e3 i x y (by simpa using hx) (by simpa using hy)
    · intro i g y hx hy
      cases i with
      | zero => simp at hx hy; subst hx; subst hy; exact hg
      | succ i => exact e4 i g y (by simpa using hx) (by simpa using hy)

def gres : List GV → GV
  | [g] => g
  | gs => .tup gs

theorem run_rvs {P : Program} {w : World} {tmps : Array Value} {rs : Array ResultVar} {us : List Value} (h1 : us.length = rs.toList.length) (h2 : ∀ (i : Nat) (x : ResultVar) (u : Value), rs.toList[i]? = some x → us[i]? = some u → (rvRun tmps x).run P w = .ok u w) :
    (rs.mapM (rvRun tmps)).run P w = .ok us.toArray w := by
  rw [Array.mapM_eq_mapM_toList]
  simp [mapM_run h1 h2]

theorem pin_free {P : Program} {c : Ctx} {s : St} {a : Act} {w : World} {F : FMap} {L : LMap} (h : SimFL P c s a w F L) {args : List XA} {pl : Nat → Option Plc}
    (hpin : ∀ i x, args[i]? = some x → x.keep = true → ∃ q, pl i = some q ∧ c.pin (c.n + i) = some q) : ∀ i x q b o, args[i]? = some x → x.keep = true → pl i = some q → q.blk = some b → q.o + q.fz * q.sz ≤ o → F b o = none := by
  intro i x q b o hx hk hq hb ho
  obtain ⟨q', hq', hp⟩ := hpin i x hx hk
  rw [hq] at hq'
  cases hq'
  exact h.lk.free (c.n + i) q b o (by rw [h.pn _ (by omega)]; exact hp) hb ho
theorem pin_ne {P : Program} {c : Ctx} {s : St} {a : Act} {w : World} {F : FMap} {L : LMap} (h : SimFL P c s a w F L) {args : List XA} {pl : Nat → Option Plc}
    (hpin : ∀ i x, args[i]? = some x → x.keep = true → ∃ q, pl i = some q ∧ c.pin (c.n + i) = some q) {id : Nat} {p : Plc} {b : Nat} (hid : id < c.n) (hp : L id = some p) (hb : p.blk = some b) :
    ∀ i x q, args[i]? = some x → x.keep = true → pl i = some q → q.blk ≠ some b := by
  intro i x q hx hk hq hqb
  obtain ⟨q', hq', hpq⟩ := hpin i x hx hk
  rw [hq] at hq'
  cases hq'
  have := h.lk.inj id (c.n + i) p q b hp (by rw [h.pn _ (by omega)]; exact hpq) hb hqb
  omega

/-- The end of a function whose results hold no memory of the call's own. -/
theorem ret_g {P : Program} {n : Nat} {rs : Array ResultVar} {args : List XA} {s : St} {gs : List GV} {res : GV} (hr : RGs P n s rs.toList gs) (hres : gres gs = res) (ho : OutsOk n s 0 args) : RetOk P n rs args (.g res) s := by
  rintro c a w pl rfl hM hpin ⟨F, L, hs⟩
  obtain ⟨us, e1, e2, e3, e4⟩ := hr.run hs
  refine ⟨_, run_rvs e1 e3, frz (· < c.n) F L w, none, {
    ag := frz_ag hs.ag
    fr := by rw [← hM]; exact hs.fr
    ext := fun b o u hu => frz_ext b o u (hs.f0 b o u hu)
    fx := ?_
    res := ⟨?_, rfl⟩
    outs := outs_of hs (fun b o v => frz_ext b o v) hpin ho
    rblk := fun _ _ h => by cases h
    rfree := fun _ _ _ h => by cases h
    rne := fun _ _ h => by cases h
    ofree := ?_ }⟩
  · intro b o hb hm
    rw [frz_other, hs.fx b o hb (by rw [hM]; exact hm)]
    intro id p hid hp hpb
    rcases (hs.lk.own id p b hp hpb).1 with h | h
    · omega
    · rw [hM] at h; exact hm h
  · subst hres
    match gs, us, e1, e2, e4 with
    | [], [], _, _, _ => exact RG.tup [] [] rfl (by simp)
    | [g], [u], _, _, e4 => exact e4 0 g u rfl rfl
    | g :: g' :: gs, u :: u' :: us, _, _, e4 => exact RG.tup _ _ (by omega) e4
    | [], _ :: _, e1, e2, _ => simp at e1 e2; omega
    | [_], [], e1, e2, _ => simp at e1 e2; omega
    | [_], _ :: _ :: _, e1, e2, _ => simp at e1 e2; omega
    | _ :: _ :: _, [], e1, e2, _ => simp at e1 e2; omega
    | _ :: _ :: _, [_], e1, e2, _ => simp at e1 e2; omega
  · intro i x q b o hx hk hq hqb hle
    rw [frz_other, pin_free hs hpin i x q b o hx hk hq hqb hle]
    intro id p hid hp hpb
    exact pin_ne hs hpin hid hp hpb i x q hx hk hq hqb

/-- The end of a function that hands an own slice over. -/
theorem ret_o {P : Program} {n : Nat} {rs : Array ResultVar} {args : List XA} {s : St} {t id fz : Nat} {e : TypeId} {es : List (List GV)} {k : Nat} (hrs : rs = #[.tmp t]) (hx : look s.regs t = some (.c (.osl id 0 k))) (hid : Nat.blt id n = true)
    (hl : lookO s.objs id = some ⟨e, fz, .gnd es⟩) (hk : es.length = k) (ho : OutsOk n s 0 args) : RetOk P n rs args (.own e fz es) s := by
  rintro c a w pl rfl hM hpin ⟨F, L, hs⟩
  subst hrs
  obtain ⟨p, hp, hat⟩ := objAt_of (hs.ob _ _ hl)
  have hid' : id < c.n := Nat.blt_lt hid
  refine ⟨#[a.tmps.getD t undef], by simp [rvRun], F, some p, {
    ag := hs.ag
    fr := by rw [← hM]; exact hs.fr
    ext := hs.f0
    fx := fun b o hb hm => hs.fx b o hb (by rw [hM]; exact hm)
    res := ⟨p, rfl, by subst hk; exact slAt_of (F := F) hp (hs.rg _ _ hx), hat⟩
    outs := outs_of hs (fun b o v h => h) hpin ho
    rblk := fun q b hq hb => by cases hq; have := hs.lk.own id p b hp hb; rw [hM] at this; exact this
    rfree := fun q b o hq hb hle => by cases hq; exact hs.lk.free id p b o hp hb hle
    rne := fun q b hq hb => by cases hq; exact pin_ne hs hpin hid' hp hb
    ofree := pin_free hs hpin }⟩
/-- The end of a function that hands an own variable over. -/
theorem ret_b {P : Program} {n : Nat} {rs : Array ResultVar} {args : List XA} {s : St} {t id : Nat} {e : TypeId} {cs : List GV} (hrs : rs = #[.tmp t]) (hx : look s.regs t = some (.c (.optr id 0 0))) (hid : Nat.blt id n = true)
    (hl : lookO s.objs id = some ⟨e, 0, .gnd [cs]⟩) (ho : OutsOk n s 0 args) : RetOk P n rs args (.obox e cs) s := by
  rintro c a w pl rfl hM hpin ⟨F, L, hs⟩
  subst hrs
  obtain ⟨p, hp, hat⟩ := objAt_of (hs.ob _ _ hl)
  have hid' : id < c.n := Nat.blt_lt hid
  have hv : ∃ b, p.blk = some b ∧ a.tmps.getD t undef = .pointer (some ⟨b, p.o, none⟩) := by
    obtain ⟨q, b, hq, hb, hv⟩ := hs.rg _ _ hx
    rw [hp] at hq
    cases hq
    exact ⟨b, hb, by simpa using hv⟩
  obtain ⟨b, hb, hv⟩ := hv
  refine ⟨#[a.tmps.getD t undef], by simp [rvRun], F, some p, {
    ag := hs.ag
    fr := by rw [← hM]; exact hs.fr
    ext := hs.f0
    fx := fun b o hb hm => hs.fx b o hb (by rw [hM]; exact hm)
    res := ⟨p, b, rfl, hb, hv, hat⟩
    outs := outs_of hs (fun b o v h => h) hpin ho
    rblk := fun q b hq hb => by cases hq; have := hs.lk.own id p b hp hb; rw [hM] at this; exact this
    rfree := fun q b o hq hb hle => by cases hq; exact hs.lk.free id p b o hp hb hle
    rne := fun q b hq hb => by cases hq; exact pin_ne hs hpin hid' hp hb
    ofree := pin_free hs hpin }⟩
/-- The end of a function that hands an own slice and ground values over. -/
theorem ret_ot {P : Program} {n : Nat} {rs : Array ResultVar} {args : List XA} {s : St} {t id fz : Nat} {e : TypeId} {es : List (List GV)} {k : Nat} {ts : List Nat} {l : List GV} (hrs : rs = (.tmp t :: ts.map .tmp).toArray) (hts : 0 < ts.length) (hx : look s.regs t = some (.c (.osl id 0 k))) (hid : Nat.blt id n = true)
    (hl : lookO s.objs id = some ⟨e, fz, .gnd es⟩) (hk : es.length = k) (hlen : l.length = ts.length) (hg : ∀ (i : Nat) (u : Nat) (g : GV), ts[i]? = some u → l[i]? = some g → look s.regs u = some (.c (.g g))) (ho : OutsOk n s 0 args) : RetOk P n rs args (.otup e fz es l) s := by
  rintro c a w pl rfl hM hpin ⟨F, L, hs⟩
  subst hrs
  obtain ⟨p, hp, hat⟩ := objAt_of (hs.ob _ _ hl)
  have hid' : id < c.n := Nat.blt_lt hid
  have hrun := run_rvs (P := P) (w := w) (tmps := a.tmps) (rs := (ResultVar.tmp t :: ts.map .tmp).toArray) (us := a.tmps.getD t undef :: ts.map fun u => a.tmps.getD u undef) (by simp) (by
    intro i x u hx hu
    cases i with
    | zero => simp at hx hu; subst hx; subst hu; simp [rvRun]
    | succ i =>
      simp only [List.getElem?_cons_succ, List.getElem?_map, Option.map_eq_some_iff] at hx hu
      obtain ⟨y, hy, rfl⟩ := hx
      obtain ⟨y', hy', rfl⟩ := hu
      rw [hy] at hy'
      cases hy'
      simp [rvRun])
  refine ⟨_, hrun, F, some p, {
    ag := hs.ag
    fr := by rw [← hM]; exact hs.fr
    ext := hs.f0
    fx := fun b o hb hm => hs.fx b o hb (by rw [hM]; exact hm)
    res := ⟨p, a.tmps.getD t undef, ts.map fun u => a.tmps.getD u undef, rfl, ?_, by subst hk; exact slAt_of (F := F) hp (hs.rg _ _ hx), hat, by simp [hlen], ?_⟩
    outs := outs_of hs (fun b o v h => h) hpin ho
    rblk := fun q b hq hb => by cases hq; have := hs.lk.own id p b hp hb; rw [hM] at this; exact this
    rfree := fun q b o hq hb hle => by cases hq; exact hs.lk.free id p b o hp hb hle
    rne := fun q b hq hb => by cases hq; exact pin_ne hs hpin hid' hp hb
    ofree := pin_free hs hpin }⟩
  · rw [dif_neg (by simp; rintro rfl; simp at hts)]
  · intro i g x hi hx'
    simp only [List.getElem?_map, Option.map_eq_some_iff] at hx'
    obtain ⟨y, hy, rfl⟩ := hx'
    exact hs.rg _ _ (hg i y g hy hi)
end Go.Pu
/- The pure layer, part 13: calls by contract. Any program. -/
namespace Go.Pu
open Go

class TFun (P : Program) (f : FuncId) : Prop where
  h : ∃ fn, P.funcs[f]? = some fn ∧ (fn.name == "runtime.NumGoroutine") = false ∧ fn.body.isSome = true

theorem run_callFunc {P : Program} {f : FuncId} [h : TFun P f] (args : Array Value) (w : World) : (callFunc f args).run P w = .ok (.enter f args) w := by
  obtain ⟨fn, h1, h2, h3⟩ := h.h
  have h4 : fn.name ≠ "runtime.NumGoroutine" := by simpa using h2
  have h5 : ¬ fn.body = none := by intro e; rw [e] at h3; cases h3
  simp [callFunc, h1, h4, h5]

/-- Values in which no memory is. -/
def GV.Flat (g : GV) : Prop := ∀ (F F' : FMap) (v : Value), RG F g v → RG F' g v
theorem flat_int (k : IntKind) (n : Int) : (GV.int k n).Flat := by intro F F' v h; cases h; exact .int _ _
theorem flat_bool (b : Bool) : (GV.bool b).Flat := by intro F F' v h; cases h; exact .bool _
theorem flat_str (l : List UInt8) : (GV.str l).Flat := by intro F F' v h; cases h; exact .str _
theorem flat_nil : GV.nil.Flat := by intro F F' v h; cases h; exact .nil
theorem flat_agg {cs : List GV} (hc : ∀ x ∈ cs, x.Flat) : (GV.agg cs).Flat := by
  intro F F' v h
  cases h with
  | agg _ vs hl h => exact .agg _ vs hl fun i c u hi hu => hc c (List.mem_of_getElem? hi) F F' u (h i c u hi hu)
theorem flat_tup {cs : List GV} (hc : ∀ x ∈ cs, x.Flat) : (GV.tup cs).Flat := by
  intro F F' v h
  cases h with
  | tup _ vs hl h => exact .tup _ vs hl fun i c u hi hu => hc c (List.mem_of_getElem? hi) F F' u (h i c u hi hu)

def XR.Flat : XR → Prop
  | .g v => v.Flat
  | .own _ _ es => ∀ el ∈ es, ∀ x ∈ el, GV.Flat x
  | .otup _ _ es l => (∀ el ∈ es, ∀ x ∈ el, GV.Flat x) ∧ ∀ x ∈ l, GV.Flat x
  | .obox _ cs => ∀ x ∈ cs, GV.Flat x
def XA.Flat : XA → Prop
  | .box _ _ cs' => ∀ x ∈ cs', GV.Flat x
  | .sl _ _ es' => ∀ el ∈ es', ∀ x ∈ el, GV.Flat x
  | _ => True

/-! ### the arguments of a call -/
inductive ArgG : PV → GV → List (Nat × Obj) → Prop where
  | g (v : GV) : ArgG (.c (.g v)) v []
  | nil : ArgG (.c (.g .nil)) (.sl []) []
  | bor {id off k fz : Nat} {e : TypeId} {es : List (List GV)} (hb : off + k ≤ es.length) : ArgG (.c (.osl id off k)) (.sl ((es.drop off).take k)) [(id, ⟨e, fz, .gnd es⟩)]
  | ref {id fz : Nat} {e : TypeId} {cs : List GV} : ArgG (.c (.optr id 0 0)) (.ref cs) [(id, ⟨e, fz, .gnd [cs]⟩)]

/-- What becomes of an own argument. -/
inductive OwE where
  | keep (id : Nat) (e : TypeId) (es' : List (List GV))
  | mv (id : Nat)

inductive ArgO (n : Nat) : PV → XA → Nat × Obj → OwE → Prop where
  | box {id : Nat} {e : TypeId} {cs cs' : List GV} : ArgO n (.c (.optr id 0 0)) (.box e cs cs') (id, ⟨e, 0, .gnd [cs]⟩) (.keep id e [cs'])
  | sl {id k : Nat} {e : TypeId} {es es' : List (List GV)} (hk : es.length = k) : ArgO n (.c (.osl id 0 k)) (.sl e es es') (id, ⟨e, 0, .gnd es⟩) (.keep id e es')
  | mv {id k fz fz' : Nat} {e : TypeId} {es : List (List GV)} (hid : id < n) (hf : fz ≤ fz') (hk : es.length = k) : ArgO n (.c (.osl id 0 k)) (.mv e fz' es) (id, ⟨e, fz, .gnd es⟩) (.mv id)

/-- Where an argument's place is. -/
inductive PS where
  | no
  | id (i : Nat)
  | nil (sz : Nat)

/-- The arguments of a call, one after the other: what is read of the call's own, and at most one argument that is the call's own. -/
inductive EvA (P : Program) (n : Nat) (r : List REv) (o : List OEv) : List Operand → List (Operand × PV) → List XA → List (Nat × Obj) → Option ((Nat × Obj) × OwE) → List PS → Prop where
  | nil : EvA P n r o [] [] [] [] none []
  | gg {x : Operand} {v : PV} {y : GV} {b bs : List (Nat × Obj)} {xs : List Operand} {ps : List (Operand × PV)} {ys : List XA} {ow : Option ((Nat × Obj) × OwE)} {pls : List PS} (hx : ev r x = some v) (hg : ArgG v y b) (ho : ∀ p ∈ b, lookO o p.1 = some p.2)
      (k : EvA P n r o xs ps ys bs ow pls) : EvA P n r o (x :: xs) ((x, v) :: ps) (.g y :: ys) (b ++ bs) ow (.no :: pls)
  | oo {x : Operand} {v : PV} {a : XA} {ro : Nat × Obj} {we : OwE} {bs : List (Nat × Obj)} {xs : List Operand} {ps : List (Operand × PV)} {ys : List XA} {pls : List PS} (hx : ev r x = some v) (ha : ArgO n v a ro we) (ho : lookO o ro.1 = some ro.2)
      (k : EvA P n r o xs ps ys bs none pls) : EvA P n r o (x :: xs) ((x, v) :: ps) (a :: ys) bs (some (ro, we)) (.id ro.1 :: pls)
  | nl {x : Operand} {e : TypeId} {fz sz : Nat} {bs : List (Nat × Obj)} {xs : List Operand} {ps : List (Operand × PV)} {ys : List XA} {ow : Option ((Nat × Obj) × OwE)} {pls : List PS} [hz : TSz P e sz] (hx : ev r x = some (.c (.g .nil)))
      (k : EvA P n r o xs ps ys bs ow pls) : EvA P n r o (x :: xs) ((x, .c (.g .nil)) :: ps) (.mv e fz [] :: ys) bs ow (.nil sz :: pls)

section
variable {P : Program} {n : Nat} {r : List REv} {o : List OEv} {xs : List Operand} {ps : List (Operand × PV)} {ys : List XA} {bs : List (Nat × Obj)} {ow : Option ((Nat × Obj) × OwE)} {pls : List PS}

theorem EvA.one {x : Operand} {y : GV} (hx : ev r x = some (.c (.g y))) (k : EvA P n r o xs ps ys bs ow pls) : EvA P n r o (x :: xs) ((x, .c (.g y)) :: ps) (.g y :: ys) bs ow (.no :: pls) :=
  .gg (b := []) hx (.g y) (by simp) k
theorem EvA.non {x : Operand} (hx : ev r x = some (.c (.g .nil))) (k : EvA P n r o xs ps ys bs ow pls) : EvA P n r o (x :: xs) ((x, .c (.g .nil)) :: ps) (.g (.sl []) :: ys) bs ow (.no :: pls) :=
  .gg (b := []) hx .nil (by simp) k
theorem EvA.borw {x : Operand} {id k fz : Nat} {e : TypeId} {es : List (List GV)} (hx : ev r x = some (.c (.osl id 0 k))) (ho : lookO o id = some ⟨e, fz, .gnd es⟩) (hk : es.length = k) (h : EvA P n r o xs ps ys bs ow pls) :
    EvA P n r o (x :: xs) ((x, .c (.osl id 0 k)) :: ps) (.g (.sl es) :: ys) ((id, ⟨e, fz, .gnd es⟩) :: bs) ow (.no :: pls) := by
  have := EvA.gg (P := P) (n := n) (o := o) hx (ArgG.bor (id := id) (off := 0) (k := k) (fz := fz) (e := e) (es := es) (by omega)) (by simpa using ho) h
  simpa [← hk] using this
theorem EvA.bor {x : Operand} {id off k fz : Nat} {e : TypeId} {es : List (List GV)} (hx : ev r x = some (.c (.osl id off k))) (ho : lookO o id = some ⟨e, fz, .gnd es⟩) (hk : off + k ≤ es.length) (h : EvA P n r o xs ps ys bs ow pls) :
    EvA P n r o (x :: xs) ((x, .c (.osl id off k)) :: ps) (.g (.sl ((es.drop off).take k)) :: ys) ((id, ⟨e, fz, .gnd es⟩) :: bs) ow (.no :: pls) :=
  EvA.gg (b := [(id, ⟨e, fz, .gnd es⟩)]) hx (.bor hk) (by simpa using ho) h
theorem EvA.ref {x : Operand} {id fz : Nat} {e : TypeId} {cs : List GV} (hx : ev r x = some (.c (.optr id 0 0))) (ho : lookO o id = some ⟨e, fz, .gnd [cs]⟩) (h : EvA P n r o xs ps ys bs ow pls) :
    EvA P n r o (x :: xs) ((x, .c (.optr id 0 0)) :: ps) (.g (.ref cs) :: ys) ((id, ⟨e, fz, .gnd [cs]⟩) :: bs) ow (.no :: pls) :=
  EvA.gg (b := [(id, ⟨e, fz, .gnd [cs]⟩)]) hx .ref (by simpa using ho) h
theorem EvA.box {x : Operand} {id : Nat} {e : TypeId} {cs cs' : List GV} (hx : ev r x = some (.c (.optr id 0 0))) (ho : lookO o id = some ⟨e, 0, .gnd [cs]⟩) (h : EvA P n r o xs ps ys bs none pls) :
    EvA P n r o (x :: xs) ((x, .c (.optr id 0 0)) :: ps) (.box e cs cs' :: ys) bs (some ((id, ⟨e, 0, .gnd [cs]⟩), .keep id e [cs'])) (.id id :: pls) :=
  .oo hx .box ho h
theorem EvA.sl {x : Operand} {id k : Nat} {e : TypeId} {es es' : List (List GV)} (hx : ev r x = some (.c (.osl id 0 k))) (ho : lookO o id = some ⟨e, 0, .gnd es⟩) (hk : es.length = k) (h : EvA P n r o xs ps ys bs none pls) :
    EvA P n r o (x :: xs) ((x, .c (.osl id 0 k)) :: ps) (.sl e es es' :: ys) bs (some ((id, ⟨e, 0, .gnd es⟩), .keep id e es')) (.id id :: pls) :=
  .oo hx (.sl hk) ho h
theorem EvA.mv {x : Operand} {id k fz : Nat} {e : TypeId} {es : List (List GV)} (hx : ev r x = some (.c (.osl id 0 k))) (ho : lookO o id = some ⟨e, fz, .gnd es⟩) (hk : es.length = k) (hid : Nat.blt id n = true) (h : EvA P n r o xs ps ys bs none pls) :
    EvA P n r o (x :: xs) ((x, .c (.osl id 0 k)) :: ps) (.mv e fz es :: ys) bs (some ((id, ⟨e, fz, .gnd es⟩), .mv id)) (.id id :: pls) :=
  .oo hx (.mv (Nat.blt_lt hid) (Nat.le_refl _) hk) ho h

theorem EvA.reads (h : EvA P n r o xs ps ys bs ow pls) : (∀ p ∈ ps, ev r p.1 = some p.2) ∧ (∀ p ∈ bs, lookO o p.1 = some p.2) ∧ (∀ p, ow = some p → lookO o p.1.1 = some p.1.2) ∧ xs = ps.map (·.1) ∧ ys.length = xs.length := by
  induction h with
  | nil => simp
  | gg hx hg ho k ih =>
    obtain ⟨i1, i2, i3, i4, i5⟩ := ih
    exact ⟨List.forall_mem_cons.2 ⟨hx, i1⟩, fun p hp => (List.mem_append.1 hp).elim (ho p) (i2 p), i3, by simp [i4], by simp [i5]⟩
  | oo hx ha ho k ih =>
    obtain ⟨i1, i2, i3, i4, i5⟩ := ih
    exact ⟨List.forall_mem_cons.2 ⟨hx, i1⟩, i2, fun p hp => by cases hp; exact ho, by simp [i4], by simp [i5]⟩
  | nl hx k ih =>
    obtain ⟨i1, i2, i3, i4, i5⟩ := ih
    exact ⟨List.forall_mem_cons.2 ⟨hx, i1⟩, i2, i3, by simp [i4], by simp [i5]⟩

/-- One argument. -/
theorem EvA.at (h : EvA P n r o xs ps ys bs ow pls) : ∀ (i : Nat) (y : XA), ys[i]? = some y → ∃ p, ps[i]? = some p ∧ (
    (∃ g b, y = .g g ∧ ArgG p.2 g b ∧ (∀ q ∈ b, q ∈ bs) ∧ pls[i]? = some .no) ∨ (∃ ro we, ArgO n p.2 y ro we ∧ ow = some (ro, we) ∧ pls[i]? = some (.id ro.1)) ∨
    (∃ e fz sz, y = .mv e fz [] ∧ p.2 = .c (.g .nil) ∧ (∃ i, P.info? e = some i ∧ i.size = sz) ∧ pls[i]? = some (.nil sz))) := by
  induction h with
  | nil => intro i y h; simp at h
  | gg hx hg ho k ih =>
    intro i y hi
    cases i with
    | zero => simp at hi; subst hi; exact ⟨_, rfl, .inl ⟨_, _, rfl, hg, fun q hq => List.mem_append_left _ hq, rfl⟩⟩
    | succ i =>
      obtain ⟨p, hp, h⟩ := ih i y (by simpa using hi)
      refine ⟨p, by simpa using hp, ?_⟩
      rcases h with ⟨g, b, h1, h2, h3, h4⟩ | h | h
      · exact .inl ⟨g, b, h1, h2, fun q hq => List.mem_append_right _ (h3 q hq), by simpa using h4⟩
      · exact .inr (.inl (by simpa using h))
      · exact .inr (.inr (by simpa using h))
  | oo hx ha ho k ih =>
    intro i y hi
    cases i with
    | zero => simp at hi; subst hi; exact ⟨_, rfl, .inr (.inl ⟨_, _, ha, rfl, rfl⟩)⟩
    | succ i =>
      obtain ⟨p, hp, h⟩ := ih i y (by simpa using hi)
      refine ⟨p, by simpa using hp, ?_⟩
      rcases h with h | ⟨ro, we, h1, h2, h3⟩ | h
      · exact .inl (by simpa using h)
      · cases h2
      · exact .inr (.inr (by simpa using h))
  | nl hx k ih =>
    rename_i hz
    intro i y hi
    cases i with
    | zero => simp at hi; subst hi; exact ⟨_, rfl, .inr (.inr ⟨_, _, _, rfl, rfl, hz.h, rfl⟩)⟩
    | succ i =>
      obtain ⟨p, hp, h⟩ := ih i y (by simpa using hi)
      refine ⟨p, by simpa using hp, ?_⟩
      rcases h with h | h | h
      · exact .inl (by simpa using h)
      · exact .inr (.inl (by simpa using h))
      · exact .inr (.inr (by simpa using h))
theorem EvA.pls_one (h : EvA P n r o xs ps ys bs ow pls) : pls.length = ys.length ∧ (∀ (i : Nat) (k : Nat), pls[i]? = some (.id k) → ∃ p, ow = some p ∧ k = p.1.1) ∧ ∀ (i j : Nat) (a b : Nat), pls[i]? = some (.id a) → pls[j]? = some (.id b) → i = j := by
  induction h with
  | nil => simp
  | gg hx hg ho k ih =>
    obtain ⟨i1, i2, i3⟩ := ih
    refine ⟨by simp [i1], ?_, ?_⟩
    · intro i k hi
      cases i with
      | zero => simp at hi
      | succ i => exact i2 i k (by simpa using hi)
    · intro i j a b hi hj
      cases i with
      | zero => simp at hi
      | succ i =>
        cases j with
        | zero => simp at hj
        | succ j => rw [i3 i j a b (by simpa using hi) (by simpa using hj)]
  | oo hx ha ho k ih =>
    obtain ⟨i1, i2, i3⟩ := ih
    have hno : ∀ (i k : Nat), ¬ (‹List PS›[i]? = some (.id k)) := fun i k hi => by obtain ⟨p, hp, _⟩ := i2 i k hi; cases hp
    refine ⟨by simp [i1], ?_, ?_⟩
    · intro i k hi
      cases i with
      | zero => simp at hi; exact ⟨_, rfl, hi.symm⟩
      | succ i => exact absurd (by simpa using hi) (hno i k)
    · intro i j a b hi hj
      cases i with
      | zero =>
        cases j with
        | zero => rfl
        | succ j => exact absurd (by simpa using hj) (hno j b)
      | succ i => exact absurd (by simpa using hi) (hno i a)
  | nl hx k ih =>
    obtain ⟨i1, i2, i3⟩ := ih
    refine ⟨by simp [i1], ?_, ?_⟩
    · intro i k hi
      cases i with
      | zero => simp at hi
      | succ i => exact i2 i k (by simpa using hi)
    · intro i j a b hi hj
      cases i with
      | zero => simp at hi
      | succ i =>
        cases j with
        | zero => simp at hj
        | succ j => rw [i3 i j a b (by simpa using hi) (by simpa using hj)]

def plOf (L : LMap) (pls : List PS) (i : Nat) : Option Plc :=
  match pls[i]? with
  | some (.id k) => L k
  | some (.nil sz) => some ⟨none, 0, 0, sz, 0⟩
  | _ => none

def ownFree (ow : Option ((Nat × Obj) × OwE)) (bs : List (Nat × Obj)) : Bool :=
  match ow with
  | none => true
  | some p => bs.all fun b => !Nat.beq b.1 p.1.1

theorem EvA.argsOk (h : EvA P n r o xs ps ys bs ow pls) {c : Ctx} (hdis : ownFree ow bs = true) {s : St} {a : Act} {w : World} {F : FMap} {L : LMap} (hs : SimFL P c s a w F L)
    (hps : ∀ p ∈ ps, ev s.regs p.1 = some p.2) (hbs : ∀ p ∈ bs, lookO s.objs p.1 = some p.2) (how : ∀ p, ow = some p → lookO s.objs p.1.1 = some p.1.2) (caps : List GV) (us : List Value) (hcl : caps.length = us.length)
    (hcaps : ∀ (i : Nat) (g : GV) (u : Value), caps[i]? = some g → us[i]? = some u → RG F g u) :
    ArgsOk P (frz (· ∈ bs.map (·.1)) F L w) w (ys ++ caps.map .g) ((ps.map fun p => a.eval p.1) ++ us).toArray (plOf L pls) := by
  obtain ⟨_, _, _, hxs, hlen⟩ := h.reads
  obtain ⟨hpl, hpo, hp1⟩ := h.pls_one
  have hysps : ys.length = ps.length := by rw [hlen, hxs]; simp
  have hinv : ∀ i p b, plOf L pls i = some p → p.blk = some b → ∃ q, pls[i]? = some (.id q.1.1) ∧ ow = some q ∧ L q.1.1 = some p := by
    intro i p b hi hb
    unfold plOf at hi
    split at hi
    · rename_i k hk
      obtain ⟨q, hq, rfl⟩ := hpo i k hk
      exact ⟨q, hk, hq, hi⟩
    · cases hi; cases hb
    · cases hi
  refine ⟨by simp [hlen, hxs, hcl], ?_, ?_, ?_, ?_, ?_⟩
  · intro i y hi
    rw [List.getElem?_append] at hi
    split at hi
    · rename_i hlt
      have hval : ∀ p, ps[i]? = some p → (((ps.map fun p => a.eval p.1) ++ us).toArray).getD i undef = a.eval p.1 := by
        intro p hp
        rw [Array.getD_eq_getD_getElem?, List.getElem?_toArray, List.getElem?_append_left (by simp; omega), List.getElem?_map, hp]; rfl
      obtain ⟨p, hp, hcase⟩ := h.at i y hi
      rw [hval p hp]
      have hev := ev_ok hs.rg (hps p (List.mem_of_getElem? hp))
      rcases hcase with ⟨g, b, rfl, hg, hb, hno⟩ | ⟨ro, we, ha, how', hid⟩ | ⟨e, fz, sz, rfl, hnil, hsz, hpn⟩
      · have hnone : plOf L pls i = none := by unfold plOf; rw [hno]
        refine ⟨?_, hnone⟩
        have exo : ∀ {x : LC} {y : GV}, Ex c.n s x y → True := fun _ => trivial
        cases hg' : p.2 with
        | c x =>
          rw [hg'] at hg hev
          cases hg with
          | g v => exact RG.mono (fun b o v => frz_ext b o v) hev
          | nil => simp only [RP, RL] at hev; generalize a.eval p.1 = u at hev; cases hev; exact .sl0 _ _
          | @bor id off k fz e es hbd =>
            have hlo := hbs _ (hb (id, ⟨e, fz, .gnd es⟩) (by simp))
            obtain ⟨p2, hp2, hcap, hc⟩ := hev
            obtain ⟨p3, hp3, q1, q2, q3, q4, q5, q6⟩ := objAt_of (hs.ob _ _ hlo)
            rw [hp2] at hp3
            cases hp3
            have hk0 : k = 0 → RG (frz (· ∈ bs.map (·.1)) F L w) (.sl ((es.drop off).take k)) (a.eval p.1) := by
              intro hk
              subst hk
              rw [List.take_zero]
              rcases hc with ⟨_, e1, _⟩ | ⟨b2, o2, _, e1, _⟩
              · rw [e1]; exact .sl0 _ _
              · rw [e1]; exact .sl0 _ _
            rcases Nat.eq_zero_or_pos k with hk | hk
            · exact hk0 hk
            rcases hc with ⟨_, _, _, e4⟩ | ⟨b2, o2, e1, e2, e3⟩
            · exact hk0 e4
            rcases q6 with ⟨q6, _⟩ | ⟨b3, cur, q6, q7, q8, q9⟩
            · rw [e1] at q6; cases q6
            rw [e1] at q6
            cases q6
            have eo := e3 (.inr (by omega))
            rw [e2]
            have hl : ((es.drop off).take k).length = k := by simp; omega
            have hat : ∀ (i j : Nat) (el : List GV) (y : GV), ((es.drop off).take k)[i]? = some el → el[j]? = some y → ∃ u, w.cell? ⟨b2, o2 + i * p2.sz + j, none⟩ = some u ∧ RG F y u := by
              intro i j el y hi hj
              rw [List.getElem?_take] at hi
              split at hi
              · rw [List.getElem?_drop] at hi
                obtain ⟨u, hu, _, hr⟩ := q9 (off + i) j el y hi hj
                refine ⟨u, ?_, hr⟩
                rw [cell_of_row w b2 _ cur _ _ q7, ← hu, eo]
                congr 1
                rw [Nat.add_mul]; omega
              · cases hi
            rw [show (Value.slice (some ⟨b2, o2, none⟩) k (p2.cap - off)) = .slice (some ⟨b2, o2, none⟩) ((es.drop off).take k).length (p2.cap - off) by rw [hl]]
            refine .sl _ b2 o2 (p2.cap - off) p2.sz (fun i j => (w.cell? ⟨b2, o2 + i * p2.sz + j, none⟩).getD undef) ?_ ?_ ?_ (by omega)
            · intro el hel
              exact q3 el (List.mem_of_mem_drop (List.mem_of_mem_take hel))
            · intro i j hi hj
              have hel := List.getElem?_eq_getElem hi
              have hsz := q3 _ (List.mem_of_mem_drop (List.mem_of_mem_take (List.getElem_mem hi)))
              obtain ⟨u, hu, _⟩ := hat i j _ _ hel (List.getElem?_eq_getElem (by omega))
              rw [hu]
              exact frz_own hs.ag id p2 b2 _ u (List.mem_map_of_mem (hb (id, ⟨e, fz, .gnd es⟩) (by simp))) hp2 e1 hu
            · intro i j el y hi hj
              obtain ⟨u, hu, hr⟩ := hat i j el y hi hj
              rw [hu]
              exact RG.mono (fun b o v => frz_ext b o v) hr
          | @ref id fz e cs =>
            have hlo := hbs _ (hb (id, ⟨e, fz, .gnd [cs]⟩) (by simp))
            obtain ⟨p2, b2, hp2, e1, e2⟩ := hev
            obtain ⟨p3, hp3, q1, q2, q3, q4, q5, q6⟩ := objAt_of (hs.ob _ _ hlo)
            rw [hp2] at hp3
            cases hp3
            rcases q6 with ⟨q6, _⟩ | ⟨b3, cur, q6, q7, q8, q9⟩
            · rw [e1] at q6; cases q6
            rw [e1] at q6
            cases q6
            rw [e2]
            have hat : ∀ (j : Nat) (y : GV), cs[j]? = some y → ∃ u, w.cell? ⟨b2, p2.o + 0 * p2.sz + 0 + j, none⟩ = some u ∧ RG F y u := by
              intro j y hj
              obtain ⟨u, hu, _, hr⟩ := q9 0 j cs y rfl hj
              refine ⟨u, ?_, hr⟩
              rw [cell_of_row w b2 _ cur _ _ q7, ← hu]; rfl
            refine .ref cs b2 _ (fun j => (w.cell? ⟨b2, p2.o + 0 * p2.sz + 0 + j, none⟩).getD undef) ?_ ?_
            · intro j hj
              obtain ⟨u, hu, _⟩ := hat j _ (List.getElem?_eq_getElem hj)
              rw [hu]
              exact frz_own hs.ag id p2 b2 _ u (List.mem_map_of_mem (hb (id, ⟨e, fz, .gnd [cs]⟩) (by simp))) hp2 e1 hu
            · intro j y hj
              obtain ⟨u, hu, hr⟩ := hat j y hj
              rw [hu]
              exact RG.mono (fun b o v => frz_ext b o v) hr
        | agg cs => rw [hg'] at hg; cases hg
        | tup cs => rw [hg'] at hg; cases hg
      · have hpi : plOf L pls i = L ro.1 := by unfold plOf; rw [hid]
        rw [hpi]
        have hlo := how _ how'
        have lift : ∀ {p : Plc} {e : TypeId} {fz : Nat} {es : List (List GV)}, ObjAt P F w p e fz es → ObjAt P (frz (· ∈ bs.map (·.1)) F L w) w p e fz es := by
          rintro p e fz es ⟨q1, q2, q3, q4, q5, q6⟩
          refine ⟨q1, q2, q3, q4, q5, ?_⟩
          rcases q6 with q6 | ⟨b, cur, k1, k2, k3, k4⟩
          · exact .inl q6
          · exact .inr ⟨b, cur, k1, k2, k3, fun i j el c hi hj => by
              obtain ⟨v, v1, v2, v3⟩ := k4 i j el c hi hj
              exact ⟨v, v1, v2, RG.mono (fun b o v => frz_ext b o v) v3⟩⟩
        generalize hpv : p.2 = pv at ha hev
        cases ha with
        | box =>
          obtain ⟨q, hq, hat⟩ := objAt_of (hs.ob _ _ hlo)
          obtain ⟨q', b, hq', hb, hv⟩ := hev
          simp only at hq
          rw [hq] at hq'
          cases hq'
          exact ⟨q, b, hq, hb, by simpa using hv, lift hat⟩
        | sl hk =>
          obtain ⟨q, hq, hat⟩ := objAt_of (hs.ob _ _ hlo)
          exact ⟨q, hq, by rw [hk]; exact slAt_of (F := F) hq hev, lift hat⟩
        | mv hid2 hf hk =>
          obtain ⟨q, hq, hat⟩ := objAt_of (hs.ob _ _ hlo)
          obtain ⟨q1, q2⟩ := lift hat
          exact ⟨q, hq, by rw [hk]; exact slAt_of (F := F) hq hev, Nat.le_trans q1 hf, q2⟩
      · have hpi : plOf L pls i = some ⟨none, 0, 0, sz, 0⟩ := by unfold plOf; rw [hpn]
        rw [hnil] at hev
        have hv : a.eval p.1 = .slice none 0 0 := by
          simp only [RP, RL] at hev
          generalize a.eval p.1 = u at hev
          cases hev; rfl
        refine ⟨_, hpi, ⟨by simp, .inl ⟨rfl, hv, rfl⟩⟩, Nat.zero_le _, hsz, by simp, by simp, by simp, .inl ⟨rfl, rfl⟩⟩
    · rename_i hge
      rw [List.getElem?_map, Option.map_eq_some_iff] at hi
      obtain ⟨g, hg, rfl⟩ := hi
      have hlt := (List.getElem?_eq_some_iff.1 hg).1
      have hu : us[i - ys.length]? = some (us[i - ys.length]'(by omega)) := List.getElem?_eq_getElem _
      refine ⟨?_, by unfold plOf; rw [List.getElem?_eq_none (by omega)]⟩
      rw [Array.getD_eq_getD_getElem?, List.getElem?_toArray, List.getElem?_append_right (by simp; omega), List.length_map, ← hysps, hu]
      exact RG.mono (fun b o v => frz_ext b o v) (hcaps _ g _ hg hu)
  · intro i hi
    unfold plOf
    rw [List.getElem?_eq_none (by simp at hi; omega)]
  · intro i p b hi hb
    obtain ⟨q, _, _, hq⟩ := hinv i p b hi hb
    exact (hs.lk.own _ p b hq hb).2
  · intro i p b o hi hb hle
    obtain ⟨q, _, hqo, hq⟩ := hinv i p b hi hb
    rw [frz_other, hs.lk.free _ p b o hq hb hle]
    intro id p' hid hp' hb'
    have := hs.lk.inj _ _ p p' b hq hp' hb hb'
    subst this
    obtain ⟨x, hx, hx1⟩ := List.mem_map.1 hid
    rw [hqo] at hdis
    simp only [ownFree, List.all_eq_true] at hdis
    have := hdis x hx
    rw [hx1] at this
    simp at this
  · intro i j p q b hi hj hb hb'
    obtain ⟨x, hx, hxo, _⟩ := hinv i p b hi hb
    obtain ⟨y, hy, hyo, _⟩ := hinv j q b hj hb'
    exact hp1 i j _ _ hx hy
end
end Go.Pu
/- The pure layer, part 14: the step of a call. Any program. -/
namespace Go.Pu
open Go

theorem SimFL.weak {P : Program} {c : Ctx} {s s' : St} {a : Act} {w : World} {F : FMap} {L : LMap} (h : SimFL P c s a w F L) (hw : Weak s s') : SimFL P c s' a w F L :=
  { h with rg := fun t v ht => h.rg t v (hw.1 t v ht), ob := fun id o ho => h.ob id o (hw.2.1 id o ho), fe := fun id hf => h.fe id (hw.2.2 id hf) }

def delZ : Option Nat → List OEv
  | some id => [.del id]
  | none => []

/-- The world after a call. -/
theorem SimFL.world {P : Program} {c : Ctx} {s : St} {a : Act} {w : World} {F : FMap} {L : LMap} (h : SimFL P c s a w F L) {w' : World} {Fn : FMap} {Mb : Nat → Prop} (Z : Option Nat) (hag : Ag Fn w') (hfr : Fr w w' Mb)
    (hM : ∀ b, Mb b → c.w0.heap.size ≤ b ∨ c.M b) (hZ : ∀ id p b, L id = some p → p.blk = some b → Mb b → Z = some id) (hext : ∀ b o u, F b o = some u → Fn b o = some u) (hfx : ∀ b o, b < w.heap.size → ¬ Mb b → Fn b o = F b o)
    (hfree : ∀ id p b o, Z = some id → L id = some p → p.blk = some b → p.o + p.fz * p.sz ≤ o → Fn b o = none) : SimFL P c ⟨s.regs, delZ Z ++ s.objs⟩ a w' Fn L where
  df := h.df
  sz := h.sz
  ag := hag
  fr := ⟨hfr.os.trans h.fr.os, hfr.tape.trans h.fr.tape, hfr.output.trans h.fr.output, Nat.le_trans h.fr.size hfr.size, fun k hk hm => by
    rw [hfr.block k (Nat.lt_of_lt_of_le hk h.fr.size)]
    · exact h.fr.block k hk hm
    · intro hb
      rcases hM k hb with h1 | h1
      · omega
      · exact hm h1⟩
  fx := fun b o hb hm => by
    rw [hfx b o (Nat.lt_of_lt_of_le hb h.fr.size)]
    · exact h.fx b o hb hm
    · intro hx
      rcases hM b hx with h1 | h1
      · omega
      · exact hm h1
  rg := fun t v ht => RP_mono hext (h.rg t v ht)
  ob := by
    intro id o ho
    have key : lookO s.objs id = some o ∧ Z ≠ some id := by
      cases Z with
      | none => exact ⟨ho, by simp⟩
      | some z =>
        simp only [delZ, List.cons_append, List.nil_append, lookO] at ho
        cases hb : Nat.beq z id with
        | true => rw [hb] at ho; cases ho
        | false => rw [hb] at ho; exact ⟨ho, fun e => ne_of_beq hb (Option.some.inj e)⟩
    exact (h.ob id o key.1).re rfl rfl (Nat.le_refl _) (fun x => x) (map_map_id _) (fun x v hx => RL_mono hext hx) (fun p b hp hb => hfr.block b (h.lk.own id p b hp hb).2 (fun hx => key.2 (hZ id p b hp hb hx)))
  lk := by
    refine ⟨fun id p b hp hb => ⟨(h.lk.own id p b hp hb).1, Nat.lt_of_lt_of_le (h.lk.own id p b hp hb).2 hfr.size⟩, ?_, h.lk.inj⟩
    intro id p b o hp hb hle
    by_cases hz : Z = some id
    · exact hfree id p b o hz hp hb hle
    · rw [hfx b o (h.lk.own id p b hp hb).2 (fun hx => hz (hZ id p b hp hb hx))]
      exact h.lk.free id p b o hp hb hle
  fe := by
    intro id hid
    cases Z with
    | none => exact h.fe id hid
    | some z =>
      simp only [delZ, List.cons_append, List.nil_append, freeO] at hid
      cases hb : Nat.beq z id with
      | true => rw [hb] at hid; cases hid
      | false => rw [hb] at hid; exact h.fe id hid
  pn := h.pn
  f0 := fun b o v hv => hext b o v (h.f0 b o v hv)

theorem SimFL.setObj {P : Program} {c : Ctx} {s : St} {a : Act} {w : World} {F : FMap} {L : LMap} (h : SimFL P c s a w F L) {id : Nat} {p : Plc} {e : TypeId} {fz : Nat} {es : List (List GV)} (hL : L id = some p) (hat : ObjAt P F w p e fz es) :
    SimFL P c ⟨s.regs, .set id ⟨e, fz, .gnd es⟩ :: s.objs⟩ a w F L :=
  { h with
    ob := by
      intro i o ho
      simp only [lookO] at ho
      cases hb : Nat.beq id i with
      | true =>
        rw [hb] at ho
        cases ho
        rw [← beq_of hb]
        exact objOk_of hL hat
      | false => rw [hb] at ho; exact h.ob i o ho
    fe := by
      intro i hi
      simp only [freeO] at hi
      cases hb : Nat.beq id i with
      | true => rw [hb] at hi; cases hi
      | false => rw [hb] at hi; exact h.fe i hi }

def wrE : Option ((Nat × Obj) × OwE) → List REv
  | some (_, .mv id) => [.kill id]
  | _ => []
def woE : Option ((Nat × Obj) × OwE) → List OEv
  | some (_, .keep id e es') => [.set id ⟨e, 0, .gnd es'⟩]
  | some (_, .mv id) => [.free id]
  | none => []
def roE : Option ((Nat × Obj) × OwE) → List (Nat × Obj)
  | some p => [p.1]
  | none => []

def gpart : GV → Bool × List LC
  | .agg cs => (true, cs.map .g)
  | g => (false, [.g g])
def XR.pv (d : Nat) : XR → PV
  | .g v => .c (.g v)
  | .own _ _ es => .c (.osl d 0 es.length)
  | .otup _ _ es l => .tup ((false, [.osl d 0 es.length]) :: l.map gpart)
  | .obox _ _ => .c (.optr d 0 0)
def XR.wr (d : Nat) : XR → List REv
  | .g v => [.set d (.c (.g v))]
  | .own _ _ es => [.set d (.c (.osl d 0 es.length)), .kill d]
  | .otup _ _ es l => [.set d (.tup ((false, [.osl d 0 es.length]) :: l.map gpart)), .kill d]
  | .obox _ _ => [.set d (.c (.optr d 0 0)), .kill d]
def XR.wo (d : Nat) : XR → List OEv
  | .g _ => []
  | .own e fz es => [.set d ⟨e, fz, .gnd es⟩, .free d]
  | .otup e fz es _ => [.set d ⟨e, fz, .gnd es⟩, .free d]
  | .obox e cs => [.set d ⟨e, 0, .gnd [cs]⟩, .free d]

theorem objAt_flat {P : Program} {F F' : FMap} {w : World} {p : Plc} {e : TypeId} {fz : Nat} {es : List (List GV)} (h : ObjAt P F w p e fz es) (hf : ∀ el ∈ es, ∀ x ∈ el, GV.Flat x) : ObjAt P F' w p e fz es := by
  obtain ⟨q1, q2, q3, q4, q5, q6⟩ := h
  refine ⟨q1, q2, q3, q4, q5, ?_⟩
  rcases q6 with q6 | ⟨b, cur, k1, k2, k3, k4⟩
  · exact .inl q6
  · exact .inr ⟨b, cur, k1, k2, k3, fun i j el c hi hj => by
      obtain ⟨v, v1, v2, v3⟩ := k4 i j el c hi hj
      exact ⟨v, v1, v2, hf el (List.mem_of_getElem? hi) c (List.mem_of_getElem? hj) _ _ _ v3⟩⟩

section
variable {P : Program} {n : Nat} {r : List REv} {o : List OEv} {xs : List Operand} {ps : List (Operand × PV)} {ys : List XA} {bs : List (Nat × Obj)} {ow : Option ((Nat × Obj) × OwE)} {pls : List PS}

theorem ArgO.id {pv : PV} {y : XA} {ro : Nat × Obj} {we : OwE} (h : ArgO n pv y ro we) : (y.keep = true ∧ ∃ e es', we = .keep ro.1 e es' ∧ ((∃ cs cs', y = .box e cs cs' ∧ es' = [cs']) ∨ ∃ es, y = .sl e es es')) ∨ (y.keep = false ∧ we = .mv ro.1 ∧ ro.1 < n) := by
  cases h with
  | box => exact .inl ⟨rfl, _, _, rfl, .inl ⟨_, _, rfl, rfl⟩⟩
  | sl hk => exact .inl ⟨rfl, _, _, rfl, .inr ⟨_, rfl⟩⟩
  | mv h1 h2 h3 => exact .inr ⟨rfl, rfl, h1⟩

/-- The state after a call, but for its result. -/
theorem call_state (h : EvA P n r o xs ps ys bs ow pls) {c : Ctx} (hn : c.n = n) {s : St} {a : Act} {w : World} {F : FMap} {L : LMap} (hs : SimFL P c s a w F L) {caps : List GV} {res : XR} {v : Value} {w' : World} {F' : FMap} {pr : Option Plc}
    (hfl : bs = [] ∨ (res.Flat ∧ ∀ y ∈ ys, y.Flat)) (hp : PostOk P (frz (· ∈ bs.map (·.1)) F L w) w (ys ++ caps.map .g) (plOf L pls) res v w' F' pr) :
    ∃ Fn L', SimFL P c ⟨wrE ow ++ s.regs, woE ow ++ s.objs⟩ a w' Fn L' ∧ ResOk P Fn w' res v pr ∧
      (∀ p b, pr = some p → p.blk = some b → (c.w0.heap.size ≤ b ∨ c.M b) ∧ (∀ o, p.o + p.fz * p.sz ≤ o → Fn b o = none) ∧ ∀ i q, L' i = some q → q.blk ≠ some b) := by
  obtain ⟨hpl, hpo, hp1⟩ := h.pls_one
  have hMB : ∀ b, MB (plOf L pls) b → ∃ q p, ow = some q ∧ L q.1.1 = some p ∧ p.blk = some b := by
    rintro b ⟨i, p, hi, hb⟩
    unfold plOf at hi
    split at hi
    · rename_i k hk
      obtain ⟨q, hq, rfl⟩ := hpo i k hk
      exact ⟨q, p, hq, hi, hb⟩
    · cases hi; cases hb
    · cases hi
  have hMown : ∀ b, MB (plOf L pls) b → c.w0.heap.size ≤ b ∨ c.M b := by
    intro b hb
    obtain ⟨q, p, _, hL, hb'⟩ := hMB b hb
    exact (hs.lk.own _ p b hL hb').1
  -- the map of the cells that stand still
  have hFn : ∃ Fn, Ag Fn w' ∧ (∀ b o u, F b o = some u → Fn b o = some u) ∧ (∀ b o, b < w.heap.size → ¬ MB (plOf L pls) b → Fn b o = F b o) ∧ ResOk P Fn w' res v pr ∧ (∀ i y, ys[i]? = some y → OutOk P Fn w' y (plOf L pls i)) ∧
      (∀ p b o, pr = some p → p.blk = some b → p.o + p.fz * p.sz ≤ o → Fn b o = none) ∧ (∀ i y q b o, ys[i]? = some y → y.keep = true → plOf L pls i = some q → q.blk = some b → q.o + q.fz * q.sz ≤ o → Fn b o = none) := by
    have hargs : ∀ (i : Nat) (y : XA), ys[i]? = some y → (ys ++ caps.map .g)[i]? = some y := fun i y hi => by
      rw [List.getElem?_append_left (List.getElem?_eq_some_iff.1 hi).1]; exact hi
    rcases hfl with rfl | ⟨hf, hfy⟩
    · have e0 : ∀ b o, frz (· ∈ ([] : List (Nat × Obj)).map (·.1)) F L w b o = F b o := fun b o => frz_other (by simp)
      refine ⟨F', hp.ag, fun b o u hu => hp.ext b o u (by rw [e0]; exact hu), fun b o hb hm => by rw [hp.fx b o hb hm, e0], hp.res, fun i y hi => hp.outs i y (hargs i y hi), hp.rfree, fun i y q b o hi => hp.ofree i y q b o (hargs i y hi)⟩
    · have hle : ∀ b o u, F b o = some u → F' b o = some u := fun b o u hu => hp.ext b o u (frz_ext b o u hu)
      have hnone : ∀ b o, F' b o = none → F b o = none := by
        intro b o h
        cases hx : F b o with
        | none => rfl
        | some u => rw [hle b o u hx] at h; cases h
      refine ⟨F, fun b o u hu => hp.ag b o u (hle b o u hu), fun _ _ _ h => h, fun _ _ _ _ => rfl, ?_, ?_, fun p b o h1 h2 h3 => hnone b o (hp.rfree p b o h1 h2 h3), fun i y q b o hi h1 h2 h3 h4 => hnone b o (hp.ofree i y q b o (hargs i y hi) h1 h2 h3 h4)⟩
      · have := hp.res
        cases res with
        | g x => exact ⟨hf _ _ _ this.1, this.2⟩
        | own e fz es =>
          obtain ⟨p, h1, h2, h3⟩ := this
          exact ⟨p, h1, h2, objAt_flat h3 hf⟩
        | otup e fz es l =>
          obtain ⟨p, u, us, h1, h2, h3, h4, h5, h6⟩ := this
          exact ⟨p, u, us, h1, h2, h3, objAt_flat h4 hf.1, h5, fun i g x hi hx => hf.2 g (List.mem_of_getElem? hi) _ _ _ (h6 i g x hi hx)⟩
        | obox e cs =>
          obtain ⟨p, b, h1, h2, h3, h4⟩ := this
          exact ⟨p, b, h1, h2, h3, objAt_flat h4 (by intro el hel x hx; simp only [List.mem_singleton] at hel; subst hel; exact hf x hx)⟩
      · intro i y hi
        have h1 := hp.outs i y (hargs i y hi)
        have h2 := hfy y (List.mem_of_getElem? hi)
        cases y with
        | g v => trivial
        | mv e fz es => trivial
        | box e cs cs' =>
          obtain ⟨p, hp, hat⟩ := h1
          exact ⟨p, hp, objAt_flat hat (by intro el hel x hx; simp only [List.mem_singleton] at hel; subst hel; exact h2 x hx)⟩
        | sl e es es' =>
          obtain ⟨p, hp, hat, hl⟩ := h1
          exact ⟨p, hp, objAt_flat hat h2, hl⟩
  obtain ⟨Fn, g1, g2, g3, g4, g5, g6, g7⟩ := hFn
  have hrb : ∀ p b, pr = some p → p.blk = some b → c.w0.heap.size ≤ b ∨ c.M b := by
    intro p b h1 h2
    rcases (hp.rblk p b h1 h2).1 with h | h
    · exact .inl (Nat.le_trans hs.fr.size h)
    · exact hMown b h
  cases how : ow with
  | none =>
    have hno : ∀ b, ¬ MB (plOf L pls) b := fun b hb => by obtain ⟨q, _, hq, _⟩ := hMB b hb; rw [how] at hq; cases hq
    refine ⟨Fn, L, hs.world none g1 hp.fr hMown (fun id p b _ _ hb => absurd hb (hno b)) g2 g3 (fun _ _ _ _ h => by cases h), g4, fun p b h1 h2 => ⟨hrb p b h1 h2, fun o h3 => g6 p b o h1 h2 h3, ?_⟩⟩
    intro i q hq hb
    rcases (hp.rblk p b h1 h2).1 with h | h
    · have := (hs.lk.own i q b hq hb).2; omega
    · exact hno b h
  | some x =>
    obtain ⟨ro, we⟩ := x
    -- where the own argument stands
    have hex : ∃ i y pv, ys[i]? = some y ∧ ArgO n pv y ro we ∧ plOf L pls i = L ro.1 := by
      clear g5 g7 hp hfl hpo hp1 hMB hMown g1 g2 g3 g4 g6 hrb hpl hs
      induction h with
      | nil => cases how
      | gg hx hg ho k ih =>
        obtain ⟨i, y, pv, h1, h2, h3⟩ := ih how
        exact ⟨i + 1, y, pv, by simpa using h1, h2, by simpa [plOf] using h3⟩
      | oo hx ha ho k ih =>
        cases how
        exact ⟨0, _, _, rfl, ha, rfl⟩
      | nl hx k ih =>
        obtain ⟨i, y, pv, h1, h2, h3⟩ := ih how
        exact ⟨i + 1, y, pv, by simpa using h1, h2, by simpa [plOf] using h3⟩
    obtain ⟨i, y, pv, hy, ha, hpi⟩ := hex
    have hMid : ∀ b, MB (plOf L pls) b → ∃ p, L ro.1 = some p ∧ p.blk = some b := by
      intro b hb
      obtain ⟨q, p, hq, hL, hb'⟩ := hMB b hb
      rw [how] at hq
      cases hq
      exact ⟨p, hL, hb'⟩
    rcases ha.id with ⟨hk, e, es', rfl, hcase⟩ | ⟨hk, rfl, hid⟩
    · have hout := g5 i y hy
      have hob : ∃ p, L ro.1 = some p ∧ ObjAt P Fn w' p e 0 es' := by
        rw [hpi] at hout
        rcases hcase with ⟨cs, cs', rfl, rfl⟩ | ⟨es, rfl⟩
        · exact hout
        · obtain ⟨p, h1, h2, _⟩ := hout; exact ⟨p, h1, h2⟩
      obtain ⟨p0, hL0, hat⟩ := hob
      have h2 := hs.world (some ro.1) g1 hp.fr hMown (fun id p b hL hb hm => by
        obtain ⟨p', hL', hb'⟩ := hMid b hm
        rw [hs.lk.inj id ro.1 p p' b hL hL' hb hb']) g2 g3 (fun id p b o hz hL hb hle => by
        cases hz
        exact g7 i y p b o hy hk (by rw [hpi]; exact hL) hb hle)
      refine ⟨Fn, L, (h2.setObj hL0 hat).weak ⟨fun _ _ h => h, ?_, ?_⟩, g4, fun p b h1 h2 => ⟨hrb p b h1 h2, fun o h3 => g6 p b o h1 h2 h3, ?_⟩⟩
      · intro id ob hl
        simp only [woE, List.cons_append, List.nil_append, lookO, delZ] at hl ⊢
        cases hb : Nat.beq ro.1 id <;> rw [hb] at hl <;> exact hl
      · intro id hl
        simp only [woE, List.cons_append, List.nil_append, freeO, delZ] at hl ⊢
        cases hb : Nat.beq ro.1 id <;> rw [hb] at hl <;> exact hl
      · intro j q hq hb
        rcases (hp.rblk p b h1 h2).1 with h | h
        · have := (hs.lk.own j q b hq hb).2; omega
        · obtain ⟨p', hL', hb'⟩ := hMid b h
          have := hs.lk.inj j ro.1 q p' b hq hL' hb hb'
          subst this
          exact hp.rne p b h1 h2 i y p' (by rw [List.getElem?_append_left (List.getElem?_eq_some_iff.1 hy).1]; exact hy) hk (by rw [hpi]; exact hL') hb'
    · have hf := hs.free ro.1 (by omega)
      have hL' : ∀ id p, updL L ro.1 none id = some p → id ≠ ro.1 ∧ L id = some p := by
        intro id p h
        unfold updL at h
        split at h
        · cases h
        · rename_i hne; exact ⟨hne, h⟩
      have h2 := hf.world none g1 hp.fr hMown (fun id p b hL hb hm => by
        obtain ⟨p', hLp, hb'⟩ := hMid b hm
        obtain ⟨hne, hL2⟩ := hL' id p hL
        exact absurd (hs.lk.inj id ro.1 p p' b hL2 hLp hb hb') hne) g2 g3 (fun _ _ _ _ h => by cases h)
      refine ⟨Fn, _, h2, g4, fun p b h1 h2 => ⟨hrb p b h1 h2, fun o h3 => g6 p b o h1 h2 h3, ?_⟩⟩
      intro j q hq hb
      obtain ⟨hne, hL2⟩ := hL' j q hq
      rcases (hp.rblk p b h1 h2).1 with h | h
      · have := (hs.lk.own j q b hL2 hb).2; omega
      · obtain ⟨p', hLp, hb'⟩ := hMid b h
        exact hne (hs.lk.inj j ro.1 q p' b hL2 hLp hb hb')

theorem call_result {c : Ctx} {s : St} {a : Act} {w : World} {F : FMap} {L : LMap} (hs : SimFL P c s a w F L) {res : XR} {v : Value} {pr : Option Plc} {d : Nat} (hd : d < c.n) (hres : ResOk P F w res v pr)
    (hpr : ∀ p b, pr = some p → p.blk = some b → (c.w0.heap.size ≤ b ∨ c.M b) ∧ (∀ o, p.o + p.fz * p.sz ≤ o → F b o = none) ∧ ∀ i q, L i = some q → q.blk ≠ some b) :
    ∃ L', SimFL P c ⟨res.wr d ++ s.regs, res.wo d ++ s.objs⟩ (a.put (some d) v) w F L' := by
  have own : ∀ p e fz es, pr = some p → ObjAt P F w p e fz es → SimFL P c ⟨.kill d :: s.regs, .set d ⟨e, fz, .gnd es⟩ :: .free d :: s.objs⟩ a w F (updL (updL L d none) d (some p)) := by
    rintro p e fz es hp ⟨q1, q2, q3, q4, q5, q6⟩
    refine (hs.free d hd).adopt hd (by simp [freeO]) ⟨e, fz, .gnd es⟩ p q1 q2 ?_ (by simpa [Cont.cells] using q4) q5 ?_
    · intro el hel
      simp only [Cont.cells, List.mem_map] at hel
      obtain ⟨l, hl, rfl⟩ := hel
      simpa using q3 l hl
    · rcases q6 with ⟨q6, q7⟩ | ⟨b, cur, k1, k2, k3, k4⟩
      · exact .inl ⟨q6, by simp [Cont.cells, q7]⟩
      · obtain ⟨r1, r2, r3⟩ := hpr p b hp k1
        refine .inr ⟨b, cur, k1, k2, k3, r1, r2, ?_, ?_⟩
        · intro i q hq
          unfold updL at hq
          split at hq
          · cases hq
          · exact r3 i q hq
        · intro i j el x hi hx
          obtain ⟨l, hl, rfl⟩ := gnd_get hi
          obtain ⟨g, hg, rfl⟩ := map_get hx
          exact k4 i j l g hl hg
  cases res with
  | g x => exact ⟨L, hs.set hd (nv := .c (.g x)) hres.1⟩
  | own e fz es =>
    obtain ⟨p, hp, hsl, hat⟩ := hres
    exact ⟨_, (own p e fz es hp hat).set hd (nv := .c (.osl d 0 es.length)) (slAt_to (F := F) (updL_same _ _ _) hsl)⟩
  | obox e cs =>
    obtain ⟨p, b, hp, hb, hv, hat⟩ := hres
    exact ⟨_, (own p e 0 [cs] hp hat).set hd (nv := .c (.optr d 0 0)) ⟨p, b, updL_same _ _ _, hb, by simpa using hv⟩⟩
  | otup e fz es l =>
    obtain ⟨p, u, us, hp, rfl, hsl, hat, hl, hg⟩ := hres
    refine ⟨_, (own p e fz es hp hat).set hd (nv := .tup ((false, [.osl d 0 es.length]) :: l.map gpart)) ⟨u :: us, rfl, by simp [hl], ?_⟩⟩
    intro i q x hi hx
    cases i with
    | zero =>
      simp at hi hx
      subst hi; subst hx
      exact ⟨_, rfl, slAt_to (F := F) (updL_same _ _ _) hsl⟩
    | succ i =>
      simp only [List.getElem?_cons_succ, List.getElem?_map, Option.map_eq_some_iff] at hi hx
      obtain ⟨g, hgi, rfl⟩ := hi
      have := hg i g x hgi hx
      cases g with
      | agg cs =>
        cases this with
        | agg _ vs hlen hr =>
          refine ⟨vs, rfl, by simpa [gpart] using hlen.symm, ?_⟩
          intro j y z hj hz
          obtain ⟨g2, hg2, rfl⟩ := map_get hj
          exact hr j g2 z hg2 hz
      | _ => exact ⟨_, rfl, this⟩

/-- A call of a function by its contract; 'caps': what the function value has caught. -/
theorem S_callV {c : Ctx} {ops : Array Oper} {d : Nat} {x : Operand} {f : FuncId} {caps : List GV} {ts : Array TypeId} {ty : TypeId} {pos : String} {af : Array Edge} {res : XR} [hf : TFun P f] (hx : ev r x = some (.c (.g (.clo f caps))))
    (ha : EvA P c.n r o xs ps ys bs ow pls) (hdis : ownFree ow bs = true) (hsp : Ctr P f (ys ++ caps.map .g) res) (hfl : bs = [] ∨ (res.Flat ∧ ∀ y ∈ ys, y.Flat)) (hd : Nat.blt d c.n = true) :
    Op1 P c ops (some d) (.call { callee := .value x, args := xs.toArray, argTypes := ts }) ty pos af ⟨r, o⟩ ⟨((x, .c (.g (.clo f caps))) :: ps).flatMap rdx, roE ow ++ bs, res.wr d ++ wrE ow, res.wo d ++ woE ow⟩ := by
  obtain ⟨h1, h2, h3, h4, h5⟩ := ha.reads
  have hro : ∀ p ∈ roE ow ++ bs, lookO o p.1 = some p.2 := by
    intro p hp
    rcases List.mem_append.1 hp with hp | hp
    · cases how : ow with
      | none => rw [how] at hp; cases hp
      | some q => rw [how] at hp; simp only [roE, List.mem_singleton] at hp; subst hp; exact h3 _ how
    · exact h2 p hp
  have hxs : ∀ p ∈ (x, PV.c (.g (.clo f caps))) :: ps, ev r p.1 = some p.2 := List.forall_mem_cons.2 ⟨hx, h1⟩
  refine ⟨?_, holds_of hxs hro⟩
  rintro ⟨r', o'⟩ a w hh ⟨F, L, hs⟩
  rw [if_pos (by simp [Region.wanted])]
  have hx' := ev_of_holds hxs hh
  have hps' : ∀ p ∈ ps, ev r' p.1 = some p.2 := fun p hp => hx' p (List.mem_cons_of_mem _ hp)
  have hbs' : ∀ p ∈ bs, lookO o' p.1 = some p.2 := fun p hp => hh.2 p (List.mem_append_right _ hp)
  have how' : ∀ p, ow = some p → lookO o' p.1.1 = some p.1.2 := fun p hp => hh.2 p.1 (List.mem_append_left _ (by rw [hp]; simp [roE]))
  have hv := ev_ok hs.rg (hx' (x, .c (.g (.clo f caps))) (by simp))
  have hcl : ∃ us : List Value, a.eval x = .func (.func f) #[] ⟨us⟩ ∧ caps.length = us.length ∧ ∀ (i : Nat) (g : GV) (u : Value), caps[i]? = some g → us[i]? = some u → RG F g u := by
    simp only [RP, RL] at hv
    generalize a.eval x = y at hv
    cases hv with
    | clo _ _ vs hl h => exact ⟨vs, rfl, hl, h⟩
  obtain ⟨us, hev, hcl, hcaps⟩ := hcl
  have hok := ha.argsOk hdis hs hps' hbs' how' caps us hcl hcaps
  have hcall := hsp _ w _ _ (frz_ag hs.ag) hok
  unfold Oper.wp
  have hrun : (execOp a.eval ⟨some d, .call { callee := .value x, args := xs.toArray, argTypes := ts }, ty, pos, af, none⟩).run P w = .ok (.enter f ((ps.map fun p => a.eval p.1) ++ us).toArray) w := by
    have e1 : (xs.toArray.map a.eval) = (ps.map fun p => a.eval p.1).toArray := by rw [h4]; simp
    simp only [execOp, resolve, hev, Deferred.ofValue, Sem.run_bind, Sem.run_pure, Result.andThen_ok, invoke]
    rw [run_callFunc, e1]
    simp
  rw [hrun]
  refine Calls.mono hcall ?_
  rintro e w' he
  cases e with
  | returned v =>
    obtain ⟨F', pr, hpost⟩ := he
    obtain ⟨Fn, L', hs', hres, hpr⟩ := call_state ha rfl hs hfl hpost
    obtain ⟨L2, hs2⟩ := call_result hs' (Nat.blt_lt hd) hres hpr
    exact ⟨Fn, L2, by simpa [ap] using hs2⟩
  | panicked ch => exact he.elim
  | outgrown => exact he.elim

/-- A call of a named function by its contract. -/
theorem S_call {c : Ctx} {ops : Array Oper} {d : Nat} {f : FuncId} {ts : Array TypeId} {ty : TypeId} {pos : String} {af : Array Edge} {res : XR} [hf : TFun P f]
    (ha : EvA P c.n r o xs ps ys bs ow pls) (hdis : ownFree ow bs = true) (hsp : Ctr P f ys res) (hfl : bs = [] ∨ (res.Flat ∧ ∀ y ∈ ys, y.Flat)) (hd : Nat.blt d c.n = true) :
    Op1 P c ops (some d) (.call { callee := .value (.func f), args := xs.toArray, argTypes := ts }) ty pos af ⟨r, o⟩ ⟨ps.flatMap rdx, roE ow ++ bs, res.wr d ++ wrE ow, res.wo d ++ woE ow⟩ :=
  S_callV (x := .func f) (caps := []) rfl ha hdis (by simpa using hsp) hfl hd
end

/-- A fresh slice may be read as one that never changes. -/
theorem Ctr.frozen {P : Program} {f : FuncId} {args : List XA} {e : TypeId} {fz : Nat} {es : List (List GV)} (h : Ctr P f args (.own e fz es)) (hk : args.all (fun a : XA => !a.keep) = true) : Ctr P f args (.g (.sl es)) := by
  intro F w vs pl hag ha
  refine Calls.mono (h F w vs pl hag ha) ?_
  rintro en w' he
  cases en with
  | panicked ch => exact he.elim
  | outgrown => exact he.elim
  | returned v =>
    obtain ⟨F', pr, hp⟩ := he
    obtain ⟨p, rfl, hsl, q1, q2, q3, q4, q5, q6⟩ := hp.res
    have hk' : ∀ (i : Nat) (a : XA), args[i]? = some a → a.keep = true → False := by
      intro i a hi hka
      have := List.all_eq_true.1 hk a (List.mem_of_getElem? hi)
      rw [hka] at this
      cases this
    rcases q6 with ⟨q6, q7⟩ | ⟨b, cur, k1, k2, k3, k4⟩
    · subst q7
      refine ⟨F', none, { hp with res := ⟨?_, rfl⟩, rblk := (fun _ _ h => by cases h), rfree := (fun _ _ _ h => by cases h), rne := (fun _ _ h => by cases h) }⟩
      rcases hsl.2 with ⟨_, e2, _⟩ | ⟨b, e1, _⟩
      · rw [e2]; exact .sl0 _ _
      · rw [q6] at e1; cases e1
    · obtain ⟨r1, r2⟩ := hp.rblk p b rfl k1
      have hF' : ∀ b2 o2 u, F' b2 o2 = some u → frz (· = 0) F' (fun _ => some p) w' b2 o2 = some u := fun b2 o2 u h => frz_ext b2 o2 u h
      refine ⟨frz (· = 0) F' (fun _ => some p) w', none, {
        ag := frz_ag hp.ag
        fr := hp.fr
        ext := fun b o u hu => frz_ext b o u (hp.ext b o u hu)
        fx := ?_
        res := ⟨?_, rfl⟩
        outs := ?_
        rblk := fun _ _ h => by cases h
        rfree := fun _ _ _ h => by cases h
        rne := fun _ _ h => by cases h
        ofree := fun i a q b o hi hka => (hk' i a hi hka).elim }⟩
      · intro b2 o2 hb hm
        rw [frz_other, hp.fx b2 o2 hb hm]
        intro id q _ hq hqb
        cases hq
        rw [k1] at hqb
        cases hqb
        rcases r1 with r1 | r1
        · omega
        · exact hm r1
      · have hcase := hsl.2
        rcases hcase with ⟨e1, _⟩ | ⟨b2, e1, e2⟩
        · rw [k1] at e1; cases e1
        rw [k1] at e1
        cases e1
        rw [e2]
        have hat : ∀ (i j : Nat) (el : List GV) (y : GV), es[i]? = some el → el[j]? = some y → ∃ u, w'.cell? ⟨b, p.o + i * p.sz + j, none⟩ = some u ∧ RG F' y u := by
          intro i j el y hi hj
          obtain ⟨u, hu, _, hr⟩ := k4 i j el y hi hj
          exact ⟨u, by rw [cell_of_row w' b _ cur _ _ k2, ← hu], hr⟩
        refine .sl es b p.o p.cap p.sz (fun i j => (w'.cell? ⟨b, p.o + i * p.sz + j, none⟩).getD undef) q3 ?_ ?_ q4
        · intro i j hi hj
          obtain ⟨u, hu, _⟩ := hat i j _ _ (List.getElem?_eq_getElem hi) (List.getElem?_eq_getElem (by rw [q3 _ (List.getElem_mem hi)]; exact hj))
          rw [hu]
          exact frz_own hp.ag 0 p b _ u rfl rfl k1 hu
        · intro i j el y hi hj
          obtain ⟨u, hu, hr⟩ := hat i j el y hi hj
          rw [hu]
          exact RG.mono (fun b o v => frz_ext b o v) hr
      · intro i a hi
        have := hp.outs i a hi
        cases a with
        | g v => trivial
        | mv e fz es => trivial
        | box e cs cs' => exact (hk' i _ hi rfl).elim
        | sl e es es' => exact (hk' i _ hi rfl).elim
end Go.Pu
/- The pure layer, part 15: what a program's table of types says, by computation. Any program. -/
namespace Go.Pu
open Go

def GV.lit : GV → Value
  | .int k n => .int k n
  | .bool b => .bool b
  | .str l => .string ⟨⟨l⟩⟩
  | .nil => .slice none 0 0
  | _ => undef
def GV.isLit : GV → Bool
  | .int _ _ => true
  | .bool _ => true
  | .str _ => true
  | .nil => true
  | _ => false
theorem RG_lit {F : FMap} {g : GV} (h : g.isLit = true) : RG F g g.lit ∧ g.lit.oneCell' = true := by
  cases g with
  | int k n => exact ⟨.int k n, rfl⟩
  | bool b => exact ⟨.bool b, rfl⟩
  | str l => exact ⟨.str l, rfl⟩
  | nil => exact ⟨.nil, rfl⟩
  | _ => cases h

section
variable {P : Program} {t : TypeId}
theorem tsz_of {n : Nat} (h : (P.info? t).map (·.size) = some n) : TSz P t n := by
  cases hx : P.info? t with
  | none => rw [hx] at h; cases h
  | some i => rw [hx] at h; exact ⟨i, hx, by simpa using h⟩
def isRow : TypeDesc → Bool
  | .struct _ => true
  | .array _ _ => true
  | _ => false
theorem tagg_of (h : (P.underlying t).map isRow = some true) : TAgg P t := by
  cases hx : P.underlying t with
  | none => rw [hx] at h; cases h
  | some d => refine ⟨d, hx, ?_⟩; rw [hx] at h; cases d <;> first | trivial | simp [isRow] at h
theorem tone_of (h : (P.underlying t).map isRow = some false) : TOne P t := by
  cases hx : P.underlying t with
  | none => rw [hx] at h; cases h
  | some d => refine ⟨d, hx, ?_⟩; rw [hx] at h; cases d <;> first | trivial | simp [isRow] at h
def fieldOf : TypeDesc → Nat → Option (Nat × TypeId)
  | .struct fs, f => (fs[f]?).map fun fd => (fd.offset, fd.type)
  | _, _ => none
theorem tfield_of {f off : Nat} {ft : TypeId} (h : (P.underlying t).bind (fieldOf · f) = some (off, ft)) : TField P t f off ft := by
  cases hx : P.underlying t with
  | none => rw [hx] at h; cases h
  | some d =>
    rw [hx] at h
    cases d with
    | struct fs =>
      simp only [Option.bind_some, fieldOf, Option.map_eq_some_iff, Prod.mk.injEq] at h
      obtain ⟨fd, h1, h2, h3⟩ := h
      exact ⟨fs, fd, hx, h1, h2, h3⟩
    | _ => simp [fieldOf] at h
def placesOf (P : Program) : TypeDesc → Option (List (Nat × Nat))
  | .struct fs => fs.toList.mapM fun f => (P.info? f.type).map fun i => (f.offset, i.size)
  | _ => none
theorem tstruct_of {pls : List (Nat × Nat)} (h : (P.underlying t).bind (placesOf P) = some pls) : TStruct P t pls := by
  cases hx : P.underlying t with
  | none => rw [hx] at h; cases h
  | some d =>
    rw [hx] at h
    cases d with
    | struct fs =>
      simp only [Option.bind_some, placesOf] at h
      refine ⟨fs, hx, fun w => ?_⟩
      rw [Array.mapM_eq_mapM_toList]
      have key : ∀ (l : List Field) (pls : List (Nat × Nat)), (l.mapM fun f => (P.info? f.type).map fun i => (f.offset, i.size)) = some pls → (l.mapM fun f => do pure (f.offset, ← sizeOf f.type) : Sem (List (Nat × Nat))).run P w = .ok pls w := by
        intro l
        induction l with
        | nil => intro pls h; simp at h; subst h; simp
        | cons f l ih =>
          intro pls h
          rw [List.mapM_cons] at h
          cases hi : P.info? f.type with
          | none => rw [hi] at h; cases h
          | some i =>
            rw [hi] at h
            cases hr : (l.mapM fun f => (P.info? f.type).map fun i => (f.offset, i.size)) with
            | none => rw [hr] at h; cases h
            | some ps =>
              rw [hr] at h
              cases h
              rw [List.mapM_cons]
              have := ih ps hr
              simp [sizeOf, typeInfo, hi] at this ⊢
              simp [this]
      have := key _ _ h
      simp at this ⊢
      simp [this]
    | _ => simp [placesOf] at h
theorem tzero_of {i : TypeInfo} {zs : List GV} (h1 : P.info? t = some i) (h2 : (i.zero.map fun z => z.cells) = some (zs.map GV.lit).toArray) (h3 : zs.all GV.isLit = true) (h4 : i.size = zs.length) : TZero P t zs := by
  cases hz : i.zero with
  | none => rw [hz] at h2; cases h2
  | some z =>
    rw [hz] at h2
    simp only [Option.map_some, Option.some.injEq] at h2
    refine ⟨i, z, zs.map GV.lit, h1, hz, h2, by simp, h4, fun F j x hx => ?_⟩
    have := RG_lit (F := F) (List.all_eq_true.1 h3 x (List.mem_of_getElem? hx))
    exact ⟨x.lit, by simp [hx], this.2, this.1⟩
theorem tapp_of {i : TypeInfo} {sz : Nat} (h1 : P.info? t = some i) (h2 : (i.zero.map fun z => z.cells.size) = some sz) (h3 : i.size = sz) (h4 : Nat.blt 0 sz = true) (h5 : Nat.ble i.bytes 65536 = true) : TApp P t sz := by
  cases hz : i.zero with
  | none => rw [hz] at h2; cases h2
  | some z =>
    rw [hz] at h2
    simp only [Option.map_some, Option.some.injEq] at h2
    exact ⟨i, z, z.cells.toList, h1, hz, rfl, by simpa using h2, h3, Nat.blt_lt h4, by simpa [Nat.ble_eq] using h5⟩
theorem tfun_of {f : FuncId} {fn : Func} (h1 : P.funcs[f]? = some fn) (h2 : (fn.name == "runtime.NumGoroutine") = false) (h3 : fn.body.isSome = true) : TFun P f := ⟨fn, h1, h2, h3⟩
end
end Go.Pu
/- The pure layer, part 16: rules for loops, joins, nil and freezing. Any program. -/
namespace Go.Pu
open Go

def Has (r : List REv) : List (Nat × PV) → Prop
  | [] => True
  | (t, v) :: l => look r t = some v ∧ Has r l
def HasO (o : List OEv) : List (Nat × Obj) → Prop
  | [] => True
  | (i, x) :: l => lookO o i = some x ∧ HasO o l
def mkR (l : List (Nat × PV)) : List REv := l.map fun p => .set p.1 p.2
def mkO (l : List (Nat × Obj)) : List OEv := l.map fun p => .set p.1 p.2

theorem has_weak {r : List REv} : ∀ {l : List (Nat × PV)}, Has r l → ∀ t v, look (mkR l) t = some v → look r t = some v := by
  intro l
  induction l with
  | nil => intro _ t v h; cases h
  | cons p l ih =>
    intro h t v ht
    simp only [mkR, List.map_cons, look] at ht
    cases hb : Nat.beq p.1 t with
    | true => rw [hb] at ht; cases ht; rw [← beq_of hb]; exact h.1
    | false => rw [hb] at ht; exact ih h.2 t v ht
theorem hasO_weak {o : List OEv} : ∀ {l : List (Nat × Obj)}, HasO o l → ∀ t v, lookO (mkO l) t = some v → lookO o t = some v := by
  intro l
  induction l with
  | nil => intro _ t v h; cases h
  | cons p l ih =>
    intro h t v ht
    simp only [mkO, List.map_cons, lookO] at ht
    cases hb : Nat.beq p.1 t with
    | true => rw [hb] at ht; cases ht; rw [← beq_of hb]; exact h.1
    | false => rw [hb] at ht; exact ih h.2 t v ht
theorem mkO_free : ∀ {l : List (Nat × Obj)} {i : Nat}, freeO (mkO l) i = false := by
  intro l
  induction l with
  | nil => intro i; rfl
  | cons p l ih => intro i; simp only [mkO, List.map_cons, freeO]; cases Nat.beq p.1 i <;> first | rfl | exact ih
theorem weak_of {s : St} {lr : List (Nat × PV)} {lo : List (Nat × Obj)} (hr : Has s.regs lr) (ho : HasO s.objs lo) : Weak s ⟨mkR lr, mkO lo⟩ :=
  ⟨has_weak hr, hasO_weak ho, fun id h => by rw [mkO_free] at h; cases h⟩

section
variable {P : Program} {c : Ctx} {Q : Exit → St → Prop} {s : St}

/-- Keep this much of the state. -/
theorem PW_to {code : Code} (lr : List (Nat × PV)) (lo : List (Nat × Obj)) (hr : Has s.regs lr) (ho : HasO s.objs lo) (h : PW P c code Q ⟨mkR lr, mkO lo⟩) : PW P c code Q s := PW_weak (weak_of hr ho) h

/-- A sequence, by what holds in between. -/
theorem PW_join {x y : Code} {ι : Type} (lr : ι → List (Nat × PV)) (lo : ι → List (Nat × Obj)) (ok : ι → Prop)
    (h1 : PW P c x (thenQ (fun s' => ∃ i, ok i ∧ Has s'.regs (lr i) ∧ HasO s'.objs (lo i)) Q) s) (h2 : ∀ i, ok i → PW P c y Q ⟨mkR (lr i), mkO (lo i)⟩) : PW P c (.seq x y) Q s := by
  refine PW_seq (PW.mono h1 ?_)
  intro e s' h
  cases e with
  | normal => obtain ⟨i, h1, hr, ho⟩ := h; exact PW_weak (weak_of hr ho) (h2 i h1)
  | _ => exact h

/-- A loop, by its invariant over ghost values. -/
theorem PW_iter {x : Code} {ι : Type} (lr : ι → List (Nat × PV)) (lo : ι → List (Nat × Obj)) (ok : ι → Prop) (m : ι → Nat) (i₀ : ι) (h₀ : ok i₀) (hr : Has s.regs (lr i₀)) (ho : HasO s.objs (lo i₀))
    (round : ∀ i, ok i → PW P c x (thenQ (fun s' => ∃ i', m i' < m i ∧ ok i' ∧ Has s'.regs (lr i') ∧ HasO s'.objs (lo i')) Q) ⟨mkR (lr i), mkO (lo i)⟩) : PW P c (.loop x) Q s := by
  refine PW_loop (fun n s => ∃ i, ok i ∧ m i = n ∧ Has s.regs (lr i) ∧ HasO s.objs (lo i)) (m i₀) ⟨i₀, h₀, rfl, hr, ho⟩ ?_
  rintro n s ⟨i, hi, rfl, hr, ho⟩
  refine PW_weak (weak_of hr ho) (PW.mono (round i hi) ?_)
  intro e s' h
  cases e with
  | normal => obtain ⟨i', h1, h2, h3, h4⟩ := h; exact ⟨m i', h1, i', h2, rfl, h3, h4⟩
  | _ => exact h

theorem PW_condT {x : Operand} {thn els : Code} {b : Bool} (hx : ev s.regs x = some (.c (.g (.bool b)))) (hb : b = true) (h : PW P c thn Q s) : PW P c (.cond x thn els) Q s :=
  PW_cond hx (fun _ => h) (fun e => by rw [hb] at e; cases e)
theorem PW_condF {x : Operand} {thn els : Code} {b : Bool} (hx : ev s.regs x = some (.c (.g (.bool b)))) (hb : b = false) (h : PW P c els Q s) : PW P c (.cond x thn els) Q s :=
  PW_cond hx (fun e => by rw [hb] at e; cases e) (fun _ => h)
theorem Psplit {nd : Bool} {ops : Array Oper} {l : List Oper} {acc : List Foot} {R : List Foot → St → Prop} (t : Nat) {b : Bool} (_ : look s.regs t = some (.c (.g (.bool b)))) (h1 : b = true → PD P c nd ops l acc R s) (h2 : b = false → PD P c nd ops l acc R s) : PD P c nd ops l acc R s := by
  cases b with
  | true => exact h1 rfl
  | false => exact h2 rfl

/-- A nil slice is the call's own from now on. -/
theorem PW_nil {code : Code} (t id : Nat) (e : TypeId) {sz : Nat} [hz : TSz P e sz] (ht : look s.regs t = some (.c (.g .nil))) (hid : Nat.blt id c.n = true)
    (h : PW P c code Q ⟨.set t (.c (.osl id 0 0)) :: .kill id :: s.regs, .set id ⟨e, 0, .gnd []⟩ :: .free id :: s.objs⟩) : PW P c code Q s := by
  rintro a w ⟨F, L, hs⟩
  have hnil := (hs.free id (Nat.blt_lt hid)).adopt (id := id) (Nat.blt_lt hid) (by simp [freeO]) ⟨e, 0, .gnd []⟩ ⟨none, 0, 0, sz, 0⟩ (Nat.le_refl _) hz.h (by simp [Cont.cells]) (by simp [Cont.cells]) (by simp) (.inl ⟨rfl, rfl⟩)
  have hv : RP F (updL (updL L id none) id (some ⟨none, 0, 0, sz, 0⟩)) (.c (.osl id 0 0)) (a.tmps.getD t undef) := by
    have := hs.rg t _ ht
    simp only [RP, RL] at this
    generalize a.tmps.getD t undef = u at this
    cases this
    exact ⟨_, updL_same _ _ _, by simp, .inl ⟨rfl, rfl, rfl, rfl⟩⟩
  refine h a w ⟨F, _, { hnil with rg := ?_ }⟩
  intro t' v' ht'
  simp only [look] at ht'
  cases hb : Nat.beq t t' with
  | true => rw [hb] at ht'; cases ht'; rw [← beq_of hb]; exact hv
  | false => rw [hb] at ht'; exact hnil.rg t' v' (by simpa [look] using ht')

end
end Go.Pu
/- The pure layer, part 17: whole slices. Any program. -/
namespace Go.Pu
open Go
section
variable {P : Program} {c : Ctx} {ops : Array Oper}

/-- 'append' to an own slice, all of it. -/
theorem S_appW {r : List REv} {o : List OEv} {d : Nat} {x y : Operand} {t e ty : TypeId} {pos : String} {af : Array Edge} {id len fz sz : Nat} {es ys : List (List GV)} {v : PV} {ro : List (Nat × Obj)} [ht : TSlice P t e] [hz : TApp P e sz]
    (hx : ev r x = some (.c (.osl id 0 len))) (hid : Nat.blt id c.n = true) (ho : lookO o id = some ⟨e, fz, .gnd es⟩) (hy : ev r y = some v) (hs : SrcOf o e sz v ys ro) (hys : ∀ l ∈ ys, l.length = sz) (hle : es.length = len) (hfz : fz ≤ len) (hsmall : len + ys.length ≤ 2147483648) (hd : Nat.blt d c.n = true) :
    Op1 P c ops (some d) (.call { callee := .builtin .append, args := #[x, y], argTypes := #[t, t] }) ty pos af ⟨r, o⟩ ⟨[(x, .c (.osl id 0 len)), (y, v)].flatMap rdx, (id, ⟨e, fz, .gnd es⟩) :: ro, [.set d (.c (.osl id 0 (len + ys.length))), .kill id], [.set id ⟨e, fz, .gnd (es ++ ys)⟩, .free id]⟩ := by
  have := S_app (P := P) (c := c) (ops := ops) (t := t) (d := d) (ty := ty) (pos := pos) (af := af) hx hid ho hy hs hys (by omega) (by omega) (.inl rfl) hsmall hd
  simpa [← hle] using this
end
theorem RetOk.own_eq {P : Program} {n : Nat} {rs : Array ResultVar} {args : List XA} {s : St} {e : TypeId} {fz : Nat} {es es' : List (List GV)} (h : RetOk P n rs args (.own e fz es) s) (he : es = es') : RetOk P n rs args (.own e fz es') s := he ▸ h
theorem RetOk.g_eq {P : Program} {n : Nat} {rs : Array ResultVar} {args : List XA} {s : St} {g g' : GV} (h : RetOk P n rs args (.g g) s) (he : g = g') : RetOk P n rs args (.g g') s := he ▸ h
theorem Ctr.own_eq {P : Program} {f : FuncId} {args : List XA} {e : TypeId} {fz : Nat} {es es' : List (List GV)} (h : Ctr P f args (.own e fz es)) (he : es = es') : Ctr P f args (.own e fz es') := he ▸ h
theorem Ctr.g_eq {P : Program} {f : FuncId} {args : List XA} {g g' : GV} (h : Ctr P f args (.g g)) (he : g = g') : Ctr P f args (.g g') := he ▸ h
end Go.Pu
/- The pure layer, part 18: structs of integers compared. Any program. -/
namespace Go.Pu
open Go

def isI64 : Option TypeDesc → Bool
  | some (.int .i64) => true
  | _ => false
def chkI (P : Program) : Nat → List Field → Bool
  | _, [] => true
  | i, f :: l => (f.name != "_") && Nat.beq f.offset i && isI64 (P.underlying f.type) && chkI P (i + 1) l
def isStruct : Option TypeDesc → Bool
  | some (.struct _) => true
  | _ => false
class TEqF (P : Program) (t : TypeId) (n : outParam Nat) : Prop where
  h : isStruct (P.underlying t) = true ∧ P.stoodInHeld t = false ∧ P.eqGuardType P.depth t = false ∧ (P.fieldsOf t).toList.length = n ∧ chkI P 0 (P.fieldsOf t).toList = true

section
variable {P : Program} {c : Ctx} {ops : Array Oper}
theorem run_partI {t : TypeId} (h : P.underlying t = some (.int .i64)) {cs : Array Value} {o : Nat} {v : Value} (hv : cs[o]? = some v) (w : World) : (part t cs o).run P w = .ok v w := by
  simp [part, isAgg, run_underlying h, hv]
theorem run_eqF (w : World) (d : Nat) (xs ys : List Int) : ∀ (l : List Field) (i : Nat) (us vs : List Int), chkI P i l = true → us.length = l.length → vs.length = l.length → (∀ j x, us[j]? = some x → xs[i + j]? = some x) → (∀ j x, vs[j]? = some x → ys[i + j]? = some x) →
    (Op.eqFields (d + 1) (xs.map (Value.int .i64)).toArray (ys.map (Value.int .i64)).toArray l).run P w = .ok (decide (us = vs)) w := by
  intro l
  induction l with
  | nil =>
    intro i us vs _ hu hv _ _
    rw [List.eq_nil_of_length_eq_zero hu, List.eq_nil_of_length_eq_zero hv]
    simp [Op.eqFields]
  | cons f l ih =>
    intro i us vs hc hu hv hx hy
    match us, vs, hu, hv with
    | u :: us, v :: vs, hu, hv =>
      simp only [chkI, Bool.and_eq_true, bne_iff_ne, ne_eq] at hc
      obtain ⟨⟨⟨h1, h2⟩, h3⟩, h4⟩ := hc
      have h2 := Nat.eq_of_beq_eq_true h2
      have h3' : P.underlying f.type = some (.int .i64) := by
        unfold isI64 at h3
        split at h3
        · assumption
        · cases h3
      have e1 := hx 0 u rfl
      have e2 := hy 0 v rfl
      rw [Nat.add_zero] at e1 e2
      have p1 := run_partI (P := P) h3' (cs := (xs.map (Value.int .i64)).toArray) (o := f.offset) (v := .int .i64 u) (by rw [h2]; simp [e1]) w
      have p2 := run_partI (P := P) h3' (cs := (ys.map (Value.int .i64)).toArray) (o := f.offset) (v := .int .i64 v) (by rw [h2]; simp [e2]) w
      have p3 := run_equalIn_int (P := P) w d f.type .i64 .i64 u v h3'
      have hrec := ih (i + 1) us vs h4 (by simpa using hu) (by simpa using hv) (fun j x hj => by rw [show i + 1 + j = i + (j + 1) by omega]; exact hx (j + 1) x (by simpa using hj)) (fun j x hj => by rw [show i + 1 + j = i + (j + 1) by omega]; exact hy (j + 1) x (by simpa using hj))
      simp only [Op.eqFields, ne_eq, h1, not_false_eq_true, if_true, Sem.run_bind, p1, p2, p3, Result.andThen_ok]
      by_cases huv : u = v
      · subst huv
        simp [hrec]
      · simp [huv]
theorem run_eqFs {t : TypeId} {n : Nat} [h : TEqF P t n] (w : World) (xs ys : List Int) (hx : xs.length = n) (hy : ys.length = n) : (Op.equalIn 10000 t (.agg (xs.map (Value.int .i64)).toArray) (.agg (ys.map (Value.int .i64)).toArray)).run P w = .ok (decide (xs = ys)) w := by
  obtain ⟨h1, h2, h3, h4, h5⟩ := h.h
  have hs : P.underlying t = some (.struct (P.fieldsOf t)) := by
    unfold isStruct at h1
    unfold Program.fieldsOf
    split at h1
    · rename_i fs e; rw [e]
    · cases h1
  rw [run_equalIn_struct w 9999 t _ _ hs h2]
  exact run_eqF w 9998 xs ys _ 0 xs ys h5 (by omega) (by omega) (fun j x hj => by simpa using hj) (fun j x hj => by simpa using hj)
theorem agg_ints {F : FMap} {xs : List Int} {v : Value} (h : RG F (.agg (xs.map (GV.int .i64))) v) : v = .agg (xs.map (Value.int .i64)).toArray := by
  cases h with
  | agg _ vs hl hr =>
    congr 1
    have : vs = xs.map (Value.int .i64) := by
      apply List.ext_getElem?
      intro i
      rw [List.getElem?_map]
      cases hx : xs[i]? with
      | none =>
        rw [List.getElem?_eq_none (by have := List.getElem?_eq_none_iff.1 hx; simp at hl; omega)]; rfl
      | some x =>
        have hlt := (List.getElem?_eq_some_iff.1 hx).1
        have hv := List.getElem?_eq_getElem (l := vs) (i := i) (by simp at hl; omega)
        have := hr i (.int .i64 x) _ (by simp [hx]) hv
        rw [hv]
        generalize vs[i]'(by simp at hl; omega) = u at this
        cases this
        rfl
    rw [this]
theorem S_eqF {r : List REv} {o : List OEv} {d : Nat} {x y : Operand} {ty t1 t2 : TypeId} {pos : String} {af : Array Edge} {xs ys : List Int} {us vs : List GV} {n : Nat} [h1 : TEqF P t1 n]
    (hx : ev r x = some (.c (.g (.agg us)))) (hy : ev r y = some (.c (.g (.agg vs)))) (hu : us = xs.map (.int .i64)) (hv : vs = ys.map (.int .i64)) (hn : xs.length = n) (hm : ys.length = n) (hd : Nat.blt d c.n = true) :
    Op1 P c ops (some d) (.binOp .eql t1 x y t2) ty pos af ⟨r, o⟩ ⟨[(x, .c (.g (.agg us))), (y, .c (.g (.agg vs)))].flatMap rdx, [], [.set d (.c (.g (.bool (decide (xs = ys)))))], []⟩ :=
  S_bin hx hy hd (fun F a b w ha hb => by
    subst hu; subst hv
    rw [agg_ints ha, agg_ints hb]
    exact ⟨.bool (decide (xs = ys)), run_eqGuard_agg w _ _ _ _ _ _ h1.h.2.2.1, by rw [run_eql_struct, run_eqFs w xs ys hn hm]; rfl, RG.bool _⟩)
theorem S_neF {r : List REv} {o : List OEv} {d : Nat} {x y : Operand} {ty t1 t2 : TypeId} {pos : String} {af : Array Edge} {xs ys : List Int} {us vs : List GV} {n : Nat} [h1 : TEqF P t1 n]
    (hx : ev r x = some (.c (.g (.agg us)))) (hy : ev r y = some (.c (.g (.agg vs)))) (hu : us = xs.map (.int .i64)) (hv : vs = ys.map (.int .i64)) (hn : xs.length = n) (hm : ys.length = n) (hd : Nat.blt d c.n = true) :
    Op1 P c ops (some d) (.binOp .neq t1 x y t2) ty pos af ⟨r, o⟩ ⟨[(x, .c (.g (.agg us))), (y, .c (.g (.agg vs)))].flatMap rdx, [], [.set d (.c (.g (.bool (!decide (xs = ys)))))], []⟩ :=
  S_bin hx hy hd (fun F a b w ha hb => by
    subst hu; subst hv
    rw [agg_ints ha, agg_ints hb]
    exact ⟨.bool (!decide (xs = ys)), run_eqGuard_agg w _ _ _ _ _ _ h1.h.2.2.1, by rw [run_neq_struct, run_eqFs w xs ys hn hm]; rfl, RG.bool _⟩)
end
end Go.Pu
/- The pure layer, part 19: what stands still from now on; function values. Any program. -/
namespace Go.Pu
open Go

theorem rg_bor {P : Program} {c : Ctx} {s : St} {a : Act} {w : World} {F : FMap} {L : LMap} (hs : SimFL P c s a w F L) {Z : Nat → Prop} {id off k fz : Nat} {e : TypeId} {es : List (List GV)} (hZ : Z id) (hlo : lookO s.objs id = some ⟨e, fz, .gnd es⟩) (hbd : off + k ≤ es.length) {v : Value}
    (hev : RL F L (.osl id off k) v) : RG (frz Z F L w) (.sl ((es.drop off).take k)) v := by
  obtain ⟨p2, hp2, hcap, hc⟩ := hev
  obtain ⟨p3, hp3, q1, q2, q3, q4, q5, q6⟩ := objAt_of (hs.ob _ _ hlo)
  rw [hp2] at hp3
  cases hp3
  have hk0 : k = 0 → RG (frz Z F L w) (.sl ((es.drop off).take k)) v := by
    intro hk
    subst hk
    rw [List.take_zero]
    rcases hc with ⟨_, e1, _⟩ | ⟨b2, o2, _, e1, _⟩
    · rw [e1]; exact .sl0 _ _
    · rw [e1]; exact .sl0 _ _
  rcases Nat.eq_zero_or_pos k with hk | hk
  · exact hk0 hk
  rcases hc with ⟨_, _, _, e4⟩ | ⟨b2, o2, e1, e2, e3⟩
  · exact hk0 e4
  rcases q6 with ⟨q6, _⟩ | ⟨b3, cur, q6, q7, q8, q9⟩
  · rw [e1] at q6; cases q6
  rw [e1] at q6
  cases q6
  have eo := e3 (.inr (by omega))
  rw [e2]
  have hl : ((es.drop off).take k).length = k := by simp; omega
  have hat : ∀ (i j : Nat) (el : List GV) (y : GV), ((es.drop off).take k)[i]? = some el → el[j]? = some y → ∃ u, w.cell? ⟨b2, o2 + i * p2.sz + j, none⟩ = some u ∧ RG F y u := by
    intro i j el y hi hj
    rw [List.getElem?_take] at hi
    split at hi
    · rw [List.getElem?_drop] at hi
      obtain ⟨u, hu, _, hr⟩ := q9 (off + i) j el y hi hj
      refine ⟨u, ?_, hr⟩
      rw [cell_of_row w b2 _ cur _ _ q7, ← hu, eo]
      congr 1
      rw [Nat.add_mul]; omega
    · cases hi
  rw [show (Value.slice (some ⟨b2, o2, none⟩) k (p2.cap - off)) = .slice (some ⟨b2, o2, none⟩) ((es.drop off).take k).length (p2.cap - off) by rw [hl]]
  refine .sl _ b2 o2 (p2.cap - off) p2.sz (fun i j => (w.cell? ⟨b2, o2 + i * p2.sz + j, none⟩).getD undef) ?_ ?_ ?_ (by omega)
  · intro el hel
    exact q3 el (List.mem_of_mem_drop (List.mem_of_mem_take hel))
  · intro i j hi hj
    have hel := List.getElem?_eq_getElem hi
    have hsz := q3 _ (List.mem_of_mem_drop (List.mem_of_mem_take (List.getElem_mem hi)))
    obtain ⟨u, hu, _⟩ := hat i j _ _ hel (List.getElem?_eq_getElem (by omega))
    rw [hu]
    exact frz_own hs.ag id p2 b2 _ u hZ hp2 e1 hu
  · intro i j el y hi hj
    obtain ⟨u, hu, hr⟩ := hat i j el y hi hj
    rw [hu]
    exact RG.mono (fun b o v => frz_ext b o v) hr

theorem rg_ref {P : Program} {c : Ctx} {s : St} {a : Act} {w : World} {F : FMap} {L : LMap} (hs : SimFL P c s a w F L) {Z : Nat → Prop} {id fz : Nat} {e : TypeId} {cs : List GV} (hZ : Z id) (hlo : lookO s.objs id = some ⟨e, fz, .gnd [cs]⟩) {v : Value}
    (hev : RL F L (.optr id 0 0) v) : RG (frz Z F L w) (.ref cs) v := by
  obtain ⟨p2, b2, hp2, e1, e2⟩ := hev
  obtain ⟨p3, hp3, q1, q2, q3, q4, q5, q6⟩ := objAt_of (hs.ob _ _ hlo)
  rw [hp2] at hp3
  cases hp3
  rcases q6 with ⟨q6, _⟩ | ⟨b3, cur, q6, q7, q8, q9⟩
  · rw [e1] at q6; cases q6
  rw [e1] at q6
  cases q6
  rw [e2]
  have hat : ∀ (j : Nat) (y : GV), cs[j]? = some y → ∃ u, w.cell? ⟨b2, p2.o + 0 * p2.sz + 0 + j, none⟩ = some u ∧ RG F y u := by
    intro j y hj
    obtain ⟨u, hu, _, hr⟩ := q9 0 j cs y rfl hj
    refine ⟨u, ?_, hr⟩
    rw [cell_of_row w b2 _ cur _ _ q7, ← hu]; rfl
  refine .ref cs b2 _ (fun j => (w.cell? ⟨b2, p2.o + 0 * p2.sz + 0 + j, none⟩).getD undef) ?_ ?_
  · intro j hj
    obtain ⟨u, hu, _⟩ := hat j _ (List.getElem?_eq_getElem hj)
    rw [hu]
    exact frz_own hs.ag id p2 b2 _ u hZ hp2 e1 hu
  · intro j y hj
    obtain ⟨u, hu, hr⟩ := hat j y hj
    rw [hu]
    exact RG.mono (fun b o v => frz_ext b o v) hr

theorem SimFL.still {P : Program} {c : Ctx} {s : St} {a : Act} {w : World} {F : FMap} {L : LMap} (hs : SimFL P c s a w F L) {id : Nat} (hid : id < c.n) : SimFL P c ⟨.kill id :: s.regs, .free id :: s.objs⟩ a w (frz (· = id) F L w) (updL L id none) := by
  have hL : ∀ i p, updL L id none i = some p → i ≠ id ∧ L i = some p := by
    intro i p h
    unfold updL at h
    split at h
    · cases h
    · rename_i hne; exact ⟨hne, h⟩
  exact (hs.free id hid).world (Mb := fun b => ∃ p, L id = some p ∧ p.blk = some b) none (frz_ag hs.ag) (Fr.refl w _) (fun b ⟨p, hp, hb⟩ => (hs.lk.own id p b hp hb).1) (fun i p b hp hb ⟨q, hq, hqb⟩ => by
    obtain ⟨hne, hp'⟩ := hL i p hp
    exact absurd (hs.lk.inj i id p q b hp' hq hb hqb) hne) (fun b o u hu => frz_ext b o u hu) (fun b o _ hm => frz_other (by rintro i p rfl hp hb; exact hm ⟨p, hp, hb⟩)) (fun _ _ _ _ h => by cases h)

section
variable {P : Program} {c : Ctx} {Q : Exit → St → Prop} {s : St}
theorem still_set {a : Act} {w : World} {F : FMap} {L : LMap} {r : List REv} {o : List OEv} (hs : SimFL P c ⟨r, o⟩ a w F L) {t : Nat} {g : GV} (hg : RG F g (a.tmps.getD t undef)) : SimFL P c ⟨.set t (.c (.g g)) :: r, o⟩ a w F L :=
  { hs with
    rg := by
      intro t' v' ht'
      simp only [look] at ht'
      cases hb : Nat.beq t t' with
      | true => rw [hb] at ht'; cases ht'; rw [← beq_of hb]; exact hg
      | false => rw [hb] at ht'; exact hs.rg t' v' ht' }
/-- An own slice stands still from now on. -/
theorem PW_frzS {code : Code} (t : Nat) {id off k fz : Nat} {e : TypeId} {es : List (List GV)} (ht : look s.regs t = some (.c (.osl id off k))) (hlo : lookO s.objs id = some ⟨e, fz, .gnd es⟩) (hb : off + k ≤ es.length) (hid : Nat.blt id c.n = true)
    (h : PW P c code Q ⟨.set t (.c (.g (.sl ((es.drop off).take k)))) :: .kill id :: s.regs, .free id :: s.objs⟩) : PW P c code Q s := by
  rintro a w ⟨F, L, hs⟩
  exact h a w ⟨_, _, still_set (hs.still (Nat.blt_lt hid)) (rg_bor hs (Z := (· = id)) rfl hlo hb (hs.rg t _ ht))⟩
theorem PW_frzW {code : Code} (t : Nat) {id k fz : Nat} {e : TypeId} {es : List (List GV)} (ht : look s.regs t = some (.c (.osl id 0 k))) (hlo : lookO s.objs id = some ⟨e, fz, .gnd es⟩) (hb : es.length = k) (hid : Nat.blt id c.n = true)
    (h : PW P c code Q ⟨.set t (.c (.g (.sl es))) :: .kill id :: s.regs, .free id :: s.objs⟩) : PW P c code Q s := by
  refine PW_frzS t ht hlo (by omega) hid ?_
  rwa [List.drop_zero, ← hb, List.take_length]
/-- An own variable stands still from now on. -/
theorem PW_frzB {code : Code} (t : Nat) {id fz : Nat} {e : TypeId} {cs : List GV} (ht : look s.regs t = some (.c (.optr id 0 0))) (hlo : lookO s.objs id = some ⟨e, fz, .gnd [cs]⟩) (hid : Nat.blt id c.n = true)
    (h : PW P c code Q ⟨.set t (.c (.g (.ref cs))) :: .kill id :: s.regs, .free id :: s.objs⟩) : PW P c code Q s := by
  rintro a w ⟨F, L, hs⟩
  exact h a w ⟨_, _, still_set (hs.still (Nat.blt_lt hid)) (rg_ref hs (Z := (· = id)) rfl hlo (hs.rg t _ ht))⟩
end

section
variable {P : Program} {c : Ctx} {ops : Array Oper}
theorem S_clo1 {r : List REv} {o : List OEv} {d : Nat} {x : Operand} {f : FuncId} {ty : TypeId} {pos : String} {af : Array Edge} {y : GV} (hx : ev r x = some (.c (.g y))) (hd : Nat.blt d c.n = true) :
    Op1 P c ops (some d) (.makeFunc (.func f) #[] #[x]) ty pos af ⟨r, o⟩ ⟨[(x, .c (.g y))].flatMap rdx, [], [.set d (.c (.g (.clo f [y])))], []⟩ :=
  S_quiet1 _ hx hd (fun ρ w F L h1 _ => ⟨.func (.func f) #[] #[ρ x], by simp [execOp, Instr.makeFunc], RG.clo f [y] [ρ x] rfl (by
    intro i g u hg hu
    cases i with
    | zero => simp at hg hu; subst hg; subst hu; exact h1
    | succ i => simp at hg)⟩)
end
theorem RetOk.ot_eq {P : Program} {n : Nat} {rs : Array ResultVar} {args : List XA} {s : St} {e : TypeId} {fz : Nat} {es es' : List (List GV)} {l l' : List GV} (h : RetOk P n rs args (.otup e fz es l) s) (he : es = es') (hl : l = l') : RetOk P n rs args (.otup e fz es' l') s := he ▸ hl ▸ h
end Go.Pu
/- The pure layer, part 20: values that nobody looks at; append in place. Any program. -/
namespace Go.Pu
open Go
section
variable {P : Program} {c : Ctx} {ops : Array Oper}
/-- A value that nobody looks at. -/
theorem S_assignJ {r : List REv} {o : List OEv} {d : Nat} {v : Value} {ty : TypeId} {pos : String} {af : Array Edge} (hd : Nat.blt d c.n = true) :
    Op1 P c ops (some d) (.assign (.const v)) ty pos af ⟨r, o⟩ ⟨[], [], [.set d (.c .junk)], []⟩ :=
  S_quiet0 (.c .junk) hd (fun ρ _ _ _ _ => ⟨ρ (.const v), by simp [execOp], trivial⟩)
/-- Slicing an own slice as far as its content goes. -/
theorem S_sliceX {r : List REv} {o : List OEv} {d : Nat} {x : Operand} {lx hx' : Option Operand} {t e ty : TypeId} {pos : String} {af : Array Edge} {id off len fz : Nat} {et : TypeId} {es : Cont} {lo hi sz : Nat} {xl xh : List (Operand × PV)} [ht : TSlice P t e] [hz : TSz P e sz]
    (hx : ev r x = some (.c (.osl id off len))) (ho : lookO o id = some ⟨et, fz, es⟩) (het : Nat.beq et e = true) (hl : Bd r lx 0 lo xl) (hh : Bd r hx' len hi xh) (h1 : lo ≤ hi) (h2 : off + hi ≤ es.cells.length) (hd : Nat.blt d c.n = true) :
    Op1 P c ops (some d) (.slice t x lx hx' none) ty pos af ⟨r, o⟩ ⟨((x, .c (.osl id off len)) :: (xl ++ xh)).flatMap rdx, [(id, ⟨et, fz, es⟩)], [.set d (.c (.osl id (off + lo) (hi - lo)))], []⟩ :=
  S_quiet ((x, .c (.osl id off len)) :: (xl ++ xh)) [(id, ⟨et, fz, es⟩)] _ hd (List.forall_mem_cons.2 ⟨hx, fun p hp => by rcases List.mem_append.1 hp with h | h; exact hl.reads p h; exact hh.reads p h⟩) (by simpa using ho) (fun ρ w F L hr hob _ => by
    have e1 := hr (x, .c (.osl id off len)) (by simp)
    have e2 := hl.val (ρ := ρ) (fun p hp => hr p (by simp [hp]))
    have e3 := hh.val (ρ := ρ) (fun p hp => hr p (by simp [hp]))
    have hob' := hob (id, ⟨et, fz, es⟩) (by simp)
    simp only [RP, RL] at e1
    obtain ⟨p, hp, hcap, hcase⟩ := e1
    have hszz : p.sz = sz := by
      obtain ⟨p', hp', _, ⟨i1, hi1, hi2⟩, _⟩ := hob'
      rw [hp] at hp'
      cases hp'
      obtain ⟨i2, hi3, hi4⟩ := hz.h
      rw [← beq_of het] at hi3
      simp only at hi1
      rw [hi1] at hi3
      cases hi3
      omega
    have hroom : off + hi ≤ p.cap ∧ (p.blk = none → es.cells.length = 0) := by
      obtain ⟨p', hp', _, _, _, hlen, _, hc⟩ := hob'
      rw [hp] at hp'
      cases hp'
      refine ⟨Nat.le_trans h2 hlen, fun hn => ?_⟩
      rcases hc with ⟨_, h⟩ | ⟨b, cur, h, _⟩
      · simp only at h; simp [h]
      · rw [hn] at h; cases h
    have el : (lx.map ρ = none ∧ lo = 0) ∨ ∃ kd, lx.map ρ = some (.int kd (lo : Int)) := by
      rcases e2 with ⟨rfl, rfl⟩ | ⟨y, kd, rfl, hy⟩
      · exact .inl ⟨rfl, rfl⟩
      · exact .inr ⟨kd, by simp [hy]⟩
    have eh : (hx'.map ρ = none ∧ hi = len) ∨ ∃ kd, hx'.map ρ = some (.int kd (hi : Int)) := by
      rcases e3 with ⟨rfl, rfl⟩ | ⟨y, kd, rfl, hy⟩
      · exact .inl ⟨rfl, rfl⟩
      · exact .inr ⟨kd, by simp [hy]⟩
    rcases hcase with ⟨hb, hv, rfl, rfl⟩ | ⟨b, o', hb, hv, ho'⟩
    · have hzero := hroom.2 hb
      have hlo : lo = 0 := by omega
      have hhi : hi = 0 := by omega
      subst hlo
      subst hhi
      refine ⟨.slice (if 0 = 0 then none else (none : Option Addr).map (·.add (0 * sz))) (0 - 0) (0 - 0), ?_, ⟨p, hp, by omega, .inl ⟨hb, rfl, rfl, rfl⟩⟩⟩
      simp only [execOp, hv, Sem.run_bind, run_slice_gen (P := P) (t := t) (w := w) (len := 0) (cap := 0) el eh h1 (Nat.zero_le _), Option.map_none]; rfl
    · refine ⟨.slice (if p.cap - off = lo then some ⟨b, o', none⟩ else (some (⟨b, o', none⟩ : Addr)).map (·.add (lo * sz))) (hi - lo) (p.cap - off - lo), ?_, ⟨p, hp, by omega, .inr ⟨b, if p.cap - off = lo then o' else o' + lo * p.sz, hb, ?_, ?_⟩⟩⟩
      · simp only [execOp, hv, Sem.run_bind, run_slice_gen (P := P) (t := t) (w := w) (len := len) (cap := p.cap - off) el eh h1 (by omega), Option.map_none]; rfl
      · by_cases hc : p.cap - off = lo
        · rw [if_pos hc, if_pos hc, Nat.sub_sub]
        · rw [if_neg hc, if_neg hc, Nat.sub_sub]
          simp [add_off, hszz]
      · intro hor
        by_cases hc : p.cap - off = lo
        · rw [if_pos hc]
          have : off = 0 ∧ lo = 0 := by omega
          obtain ⟨rfl, rfl⟩ := this
          simpa using ho' (.inl rfl)
        · rw [if_neg hc, ho' (by omega), Nat.add_mul]
          omega)
/-- Some elements of an own object are written. -/
theorem SimFL.rows {s : St} {a : Act} {w : World} {F : FMap} {L : LMap} (h : SimFL P c s a w F L) {id el fz : Nat} {e : TypeId} {es ys : List (List GV)} (ho : lookO s.objs id = some ⟨e, fz, .gnd es⟩) {p : Plc} {b : Nat} (hpL : L id = some p) (hpb : p.blk = some b)
    {cur : Array Value} (q8 : w.heap[b]? = some (.cells cur e (0, 0))) {news : List Value} (hl : news.length = ys.length * p.sz) (hfit : el + ys.length ≤ es.length) (hfz : fz ≤ el) (hys : ∀ l ∈ ys, l.length = p.sz)
    (hnew : ∀ (i j : Nat) (l : List GV) (x : GV), ys[i]? = some l → l[j]? = some x → ∃ u, news[i * p.sz + j]? = some u ∧ u.oneCell' = true ∧ RG F x u) :
    SimFL P c ⟨s.regs, .set id ⟨e, fz, .gnd (patch es el ys)⟩ :: s.objs⟩ a (w.setRow b (patch cur.toList (p.o + el * p.sz) news).toArray) F L := by
  obtain ⟨p', r1, q2, q3, q4, q5, q6, q7⟩ := objAt_of (h.ob id _ ho)
  rw [hpL] at r1
  cases r1
  rcases q7 with ⟨q7, _⟩ | ⟨b', cur', q7, q8', q9, q10⟩
  · rw [hpb] at q7; cases q7
  rw [hpb] at q7
  cases q7
  rw [q8] at q8'
  cases q8'
  have hmul : (el + ys.length) * p.sz ≤ p.cap * p.sz := Nat.mul_le_mul_right _ (by omega)
  rw [Nat.add_mul] at hmul
  generalize hcur' : (patch cur.toList (p.o + el * p.sz) news).toArray = cur'
  have hat : ∀ k, cur'[k]? = if p.o + el * p.sz ≤ k ∧ k < p.o + el * p.sz + news.length then news[k - (p.o + el * p.sz)]? else cur[k]? := by
    intro k
    rw [← hcur', List.getElem?_toArray, patch_at (by simp; omega)]
    simp
  have hsize : cur'.size = cur.size := by rw [← hcur', List.size_toArray, patch_len (by simp; omega)]; simp
  have hFok : ∀ o v, F b o = some v → cur'[o]? = cur[o]? := by
    intro o v hv'
    rw [hat, if_neg]
    rintro ⟨g1, g2⟩
    have := h.lk.free id p b o hpL hpb (by
      have : p.fz * p.sz ≤ el * p.sz := Nat.mul_le_mul_right _ (by omega)
      omega)
    rw [this] at hv'
    cases hv'
  have hne : ∀ i q b2, i ≠ id → L i = some q → q.blk = some b2 → b2 ≠ b := by
    intro i q b2 hi hq hb2 e
    subst e
    exact hi (h.lk.inj i id q p b2 hq hpL hb2 hpb)
  have hobj : ObjAt P F (w.setRow b cur') p e fz (patch es el ys) := by
    refine ⟨q2, q3, ?_, by rw [patch_len hfit]; exact q5, q6, .inr ⟨b, cur', hpb, heap_setRow_same q8, by omega, ?_⟩⟩
    · intro l hlm
      simp only [patch, List.mem_append] at hlm
      rcases hlm with (hlm | hlm) | hlm
      · exact q4 l (List.mem_of_mem_take hlm)
      · exact hys l hlm
      · exact q4 l (List.mem_of_mem_drop hlm)
    · intro i j l x hi hx
      have hjl := (List.getElem?_eq_some_iff.1 hx).1
      rw [patch_at hfit] at hi
      split at hi
      · rename_i hr
        have hll := hys l (List.mem_of_getElem? hi)
        obtain ⟨u, hu, hu1, hu2⟩ := hnew _ j l x hi hx
        refine ⟨u, ?_, hu1, hu2⟩
        obtain ⟨m, rfl⟩ : ∃ m, i = el + m := ⟨i - el, by omega⟩
        rw [show el + m - el = m by omega] at hu
        have h1 : (m + 1) * p.sz ≤ ys.length * p.sz := Nat.mul_le_mul_right _ (by omega)
        rw [Nat.add_mul, Nat.one_mul] at h1
        rw [hat, Nat.add_mul, if_pos (by omega), ← hu]
        congr 1
        omega
      · rename_i hr
        have hll := q4 l (List.mem_of_getElem? hi)
        obtain ⟨u, hu, hu1, hu2⟩ := q10 i j l x hi hx
        refine ⟨u, ?_, hu1, hu2⟩
        rw [hat, if_neg, hu]
        rintro ⟨g1, g2⟩
        rcases Nat.lt_or_ge i el with hlt | hge
        · have : (i + 1) * p.sz ≤ el * p.sz := Nat.mul_le_mul_right _ (by omega)
          rw [Nat.add_mul, Nat.one_mul] at this
          omega
        · have : (el + ys.length) * p.sz ≤ i * p.sz := Nat.mul_le_mul_right _ (by omega)
          rw [Nat.add_mul] at this
          omega
  exact {
    df := h.df
    sz := h.sz
    ag := by
      intro b2 o v hv'
      have hc := h.ag b2 o v hv'
      rw [cell_setRow q8]
      split
      · rename_i e; subst e; rw [hFok o v hv', ← cell_of_row w b2 o cur _ _ q8]; exact hc
      · exact hc
    fr := ⟨h.fr.os, h.fr.tape, h.fr.output, by simpa using h.fr.size, fun k hk hm => by
      rw [heap_setRow_ne]
      · exact h.fr.block k hk hm
      · rintro rfl
        rcases (h.lk.own id p k hpL hpb).1 with h | h
        · omega
        · exact hm h⟩
    fx := h.fx
    rg := h.rg
    ob := by
      intro i o hoo
      simp only [lookO] at hoo
      cases hbq : Nat.beq id i with
      | true =>
        rw [hbq] at hoo
        simp only [cond_true, Option.some.injEq] at hoo
        subst hoo
        rw [← beq_of hbq]
        exact objOk_of hpL hobj
      | false =>
        rw [hbq] at hoo
        have hi : i ≠ id := fun e => ne_of_beq hbq e.symm
        exact (h.ob i o hoo).re rfl rfl (Nat.le_refl _) (fun x => x) (map_map_id _) (fun _ _ h => h) (fun q b2 hq hb2 => heap_setRow_ne _ _ _ (hne i q b2 hi hq hb2))
    lk := ⟨fun i q b2 hq hb2 => ⟨(h.lk.own i q b2 hq hb2).1, by simpa using (h.lk.own i q b2 hq hb2).2⟩, h.lk.free, h.lk.inj⟩
    fe := by
      intro i hi
      simp only [freeO] at hi
      cases hbq : Nat.beq id i with
      | true => rw [hbq] at hi; cases hi
      | false => rw [hbq] at hi; exact h.fe i hi
    pn := h.pn
    f0 := h.f0 }
/-- 'append' to the front of an own slice whose content has room for it: in place. -/
theorem S_appIn {r : List REv} {o : List OEv} {d : Nat} {x y : Operand} {t e ty : TypeId} {pos : String} {af : Array Edge} {id len fz sz : Nat} {es ys : List (List GV)} {v : PV} {ro : List (Nat × Obj)} [ht : TSlice P t e] [hz : TApp P e sz]
    (hx : ev r x = some (.c (.osl id 0 len))) (ho : lookO o id = some ⟨e, fz, .gnd es⟩) (hy : ev r y = some v) (hs : SrcOf o e sz v ys ro) (hys : ∀ l ∈ ys, l.length = sz) (hfit : len + ys.length ≤ es.length) (hpos : 0 < es.length) (hfz : fz ≤ len) (hd : Nat.blt d c.n = true) :
    Op1 P c ops (some d) (.call { callee := .builtin .append, args := #[x, y], argTypes := #[t, t] }) ty pos af ⟨r, o⟩ ⟨[(x, .c (.osl id 0 len)), (y, v)].flatMap rdx, (id, ⟨e, fz, .gnd es⟩) :: ro, [.set d (.c (.osl id 0 (len + ys.length)))], [.set id ⟨e, fz, .gnd (patch es len ys)⟩]⟩ := by
  have hxs : ∀ p ∈ [(x, PV.c (.osl id 0 len)), (y, v)], ev r p.1 = some p.2 := by simpa using ⟨hx, hy⟩
  refine ⟨?_, holds_of hxs (List.forall_mem_cons.2 ⟨ho, hs.reads⟩)⟩
  rintro ⟨r', o'⟩ a w hh ⟨F, L, hsim⟩
  rw [if_pos (by simp [Region.wanted])]
  have hx' := ev_of_holds hxs hh
  have e1 := ev_ok hsim.rg (hx' (x, .c (.osl id 0 len)) (by simp))
  have e2 := ev_ok hsim.rg (hx' (y, v) (by simp))
  obtain ⟨i, z, zs, i1, i2, i3, i4, i5, i6, i7⟩ := hz.h
  have hsrc := hs.src (o' := o') ⟨i, i1, i5⟩ hsim.ag (fun id ob h => hsim.ob id ob h) (fun p hp => hh.2 p (by simp [hp])) e2
  have hlo := hh.2 (id, ⟨e, fz, .gnd es⟩) (by simp)
  obtain ⟨news, n1, ⟨xa, xc, n2⟩, n3, n4, n5⟩ := src_first (P := P) hsrc
  obtain ⟨p, hp, hat⟩ := objAt_of (hsim.ob _ _ hlo)
  have hsl := slAt_of (F := F) hp e1
  obtain ⟨q2, ⟨i', q3a, q3b⟩, q4, q5, q6, q7⟩ := hat
  have hpsz : p.sz = sz := by
    rw [i1] at q3a
    cases q3a
    omega
  rcases q7 with ⟨_, q7⟩ | ⟨b, cur, q7, q8, q9, q10⟩
  · rw [q7] at hpos; simp at hpos
  rcases hsl.2 with ⟨hn, _⟩ | ⟨b', hb', hv⟩
  · rw [q7] at hn; cases hn
  rw [q7] at hb'
  cases hb'
  have hmul : (len + ys.length) * sz ≤ p.cap * sz := Nat.mul_le_mul_right _ (by omega)
  rw [Nat.add_mul] at hmul
  rw [hpsz] at q9
  have hr := run_app_in (P := P) (w := w) (ty := ty) ht.h i1 (b := b) (o := p.o) (len := len) (cp := p.cap) n2 (news := news) (by rw [i5]; exact n3 w rfl) q8 (by omega) (by rw [i5, n1]; omega) n4
  have hrows := hsim.rows hlo (el := len) (ys := ys) hp q7 q8 (news := news) (by rw [n1, hpsz]) hfit hfz (by rw [hpsz]; exact hys) (by
    intro i j l x hi hj
    rw [hpsz]
    obtain ⟨u, hu, hru⟩ := n5 i j l x hi hj
    exact ⟨u, hu, n4 u (List.mem_of_getElem? hu), hru⟩)
  unfold Oper.wp
  simp only at hr
  simp only [execOp, resolve, invoke, builtin, Sem.run_bind, Sem.run_pure, Result.andThen_ok, List.map_toArray, List.map_cons, List.map_nil, hv, hr]
  rw [hpsz, ← i5] at hrows
  exact ⟨F, L, hrows.set (Nat.blt_lt hd) (nv := .c (.osl id 0 (len + ys.length))) (slAt_to (F := F) hp ⟨by omega, .inr ⟨b, q7, rfl⟩⟩)⟩
/-- 'clear' of a part of an own slice's content. -/
theorem S_clear {r : List REv} {o : List OEv} {x : Operand} {t e ty : TypeId} {pos : String} {af : Array Edge} {id off k fz : Nat} {es : List (List GV)} {zs : List GV} [ht : TSlice P t e] [hz : TZero P e zs]
    (hx : ev r x = some (.c (.osl id off k))) (ho : lookO o id = some ⟨e, fz, .gnd es⟩) (hfit : off + k ≤ es.length) (hfz : fz ≤ off) :
    Op1 P c ops none (.call { callee := .builtin .clear, args := #[x], argTypes := #[t] }) ty pos af ⟨r, o⟩ ⟨[(x, .c (.osl id off k))].flatMap rdx, [(id, ⟨e, fz, .gnd es⟩)], [], [.set id ⟨e, fz, .gnd (patch es off (List.replicate k zs))⟩]⟩ := by
  have hxs : ∀ p ∈ [(x, PV.c (.osl id off k))], ev r p.1 = some p.2 := by simpa using hx
  refine ⟨?_, holds_of hxs (by simpa using ho)⟩
  rintro ⟨r', o'⟩ a w hh ⟨F, L, hsim⟩
  rw [if_pos (by simp [Region.wanted])]
  have hx' := ev_of_holds hxs hh
  have e1 := ev_ok hsim.rg (hx' (x, .c (.osl id off k)) (by simp))
  have hlo := hh.2 (id, ⟨e, fz, .gnd es⟩) (by simp)
  obtain ⟨i, z, vs, i1, i2, i3, i4, i5, i6⟩ := hz.h
  obtain ⟨p, hp, hat⟩ := objAt_of (hsim.ob _ _ hlo)
  obtain ⟨q2, ⟨i', q3a, q3b⟩, q4, q5, q6, q7⟩ := hat
  have hpsz : p.sz = zs.length := by
    rw [i1] at q3a
    cases q3a
    omega
  obtain ⟨p', hp', hcap, hcase⟩ := e1
  rw [hp] at hp'
  cases hp'
  have hstay : SimFL P c ⟨r', .set id ⟨e, fz, .gnd (patch es off (List.replicate 0 zs))⟩ :: o'⟩ a w F L := by
    refine hsim.weak ⟨fun _ _ h => h, ?_, ?_⟩
    · intro j ob hj
      simp only [lookO, List.replicate_zero, patch, List.append_nil, List.length_nil, Nat.add_zero, List.take_append_drop] at hj
      cases hb : Nat.beq id j with
      | true => rw [hb] at hj; cases hj; rw [← beq_of hb]; exact hlo
      | false => rw [hb] at hj; exact hj
    · intro j hj
      simp only [freeO] at hj
      cases hb : Nat.beq id j with
      | true => rw [hb] at hj; cases hj
      | false => rw [hb] at hj; exact hj
  unfold Oper.wp
  rcases Nat.eq_zero_or_pos k with rfl | hk
  · have hr : ∃ aa cp, a.eval x = .slice aa 0 cp := by
      rcases hcase with ⟨_, hv, _⟩ | ⟨b, o2, _, hv, _⟩
      · exact ⟨_, _, hv⟩
      · exact ⟨_, _, hv⟩
    obtain ⟨aa, cp, hv⟩ := hr
    have hrun : (Builtin.clear_ #[t] ty #[.slice aa 0 cp]).run P w = .ok (.tuple #[]) w := by
      cases aa <;> simp [Builtin.clear_, run_underlying ht.h]
    simp only [execOp, resolve, invoke, builtin, Sem.run_bind, Sem.run_pure, Result.andThen_ok, List.map_toArray, List.map_cons, List.map_nil, hv, hrun]
    exact ⟨F, L, hstay⟩
  · rcases hcase with ⟨_, _, _, hk0⟩ | ⟨b, o2, hb, hv, ho2⟩
    · omega
    rcases q7 with ⟨q7, _⟩ | ⟨b', cur, q7, q8, q9, q10⟩
    · rw [hb] at q7; cases q7
    rw [hb] at q7
    cases q7
    have hoo := ho2 (.inr (by omega))
    have hmul : (off + k) * p.sz ≤ p.cap * p.sz := Nat.mul_le_mul_right _ (by omega)
    rw [Nat.add_mul] at hmul
    have hzsz : z.cells.size = p.sz := by rw [i3, hpsz, ← i4]; simp
    generalize hnews : (Builtin.zeroCells z.cells k).toList = news
    have hlen : news.length = k * p.sz := by rw [← hnews]; simp [Builtin.zeroCells, hzsz]
    have hget : ∀ m j : Nat, m < k → j < p.sz → news[m * p.sz + j]? = vs[j]? := by
      intro m j hm hj
      have h1 : (m + 1) * p.sz ≤ k * p.sz := Nat.mul_le_mul_right _ hm
      rw [Nat.add_mul, Nat.one_mul] at h1
      have hvs : vs[j]? = some (vs[j]'(by omega)) := List.getElem?_eq_getElem _
      rw [← hnews, hvs]
      simp only [Builtin.zeroCells, hzsz, Array.toList_map, Array.toList_range, List.getElem?_map]
      rw [List.getElem?_range (by omega)]
      simp only [Option.map_some, i3]
      rw [show (m * p.sz + j) % p.sz = j by rw [Nat.mul_comm, Nat.mul_add_mod, Nat.mod_eq_of_lt hj]]
      simp [show j < vs.length by omega]
    have hone : ∀ u ∈ news, u.oneCell' = true := by
      intro u hu
      obtain ⟨q, hq⟩ := List.mem_iff_getElem?.1 hu
      have hql := (List.getElem?_eq_some_iff.1 hq).1
      obtain ⟨t1, t2, t3⟩ := two_at (sz := p.sz) (n := k) (k := q) (by omega)
      rw [← t3, hget _ _ t1 t2] at hq
      obtain ⟨u', hu', h1, _⟩ := i6 F (q % p.sz) (zs[q % p.sz]'(by omega)) (List.getElem?_eq_getElem _)
      rw [hq] at hu'
      cases hu'
      exact h1
    have hst := run_storeCells_at P b o2 e news 0 cur w q8 (by rw [hoo, hlen]; omega) hone
    simp only [Nat.add_zero] at hst
    have hrun : (Builtin.clear_ #[t] ty #[.slice (some ⟨b, o2, none⟩) k (p.cap - off)]).run P w = .ok (.tuple #[]) (w.setRow b (patch cur.toList o2 news).toArray) := by
      obtain ⟨k', rfl⟩ : ∃ m, k = m + 1 := ⟨k - 1, by omega⟩
      simp [Builtin.clear_, run_underlying ht.h, zeroValue, typeInfo, i1, i2, hnews, hst, patch]
    have hrows := hsim.rows hlo (el := off) (ys := List.replicate k zs) hp hb q8 (news := news) (by rw [hlen]; simp) (by simpa using hfit) hfz (by intro l hl; rw [List.eq_of_mem_replicate hl, hpsz]) (by
      intro m j l y hm hy
      rw [List.getElem?_replicate] at hm
      split at hm
      · cases hm
        have hjl := (List.getElem?_eq_some_iff.1 hy).1
        obtain ⟨u, hu, h1, h2⟩ := i6 F j y hy
        exact ⟨u, by rw [hget _ _ (by assumption) (by omega)]; exact hu, h1, h2⟩
      · cases hm)
    simp only [execOp, resolve, invoke, builtin, Sem.run_bind, Sem.run_pure, Result.andThen_ok, List.map_toArray, List.map_cons, List.map_nil, hv, hrun]
    rw [← hoo] at hrows
    exact ⟨F, L, hrows⟩
/-- A slice expression with three bounds that only checks them. -/
theorem S_slice3J {r : List REv} {o : List OEv} {d : Nat} {x lx hx' mx : Operand} {t e ty : TypeId} {pos : String} {af : Array Edge} {id off len lo hi m sz : Nat} {k1 k2 k3 : IntKind} [ht : TSlice P t e] [hz : TSz P e sz]
    (hx : ev r x = some (.c (.osl id off len))) (hl : ev r lx = some (.c (.g (.int k1 (lo : Int))))) (hh : ev r hx' = some (.c (.g (.int k2 (hi : Int))))) (hm : ev r mx = some (.c (.g (.int k3 (m : Int))))) (h1 : lo ≤ hi) (h2 : hi ≤ m) (h3 : m ≤ len) (hd : Nat.blt d c.n = true) :
    Op1 P c ops (some d) (.slice t x (some lx) (some hx') (some mx)) ty pos af ⟨r, o⟩ ⟨[(x, .c (.osl id off len)), (lx, .c (.g (.int k1 (lo : Int)))), (hx', .c (.g (.int k2 (hi : Int)))), (mx, .c (.g (.int k3 (m : Int))))].flatMap rdx, [], [.set d (.c .junk)], []⟩ :=
  S_quiet [(x, .c (.osl id off len)), (lx, .c (.g (.int k1 (lo : Int)))), (hx', .c (.g (.int k2 (hi : Int)))), (mx, .c (.g (.int k3 (m : Int))))] [] (.c .junk) hd (by simpa using ⟨hx, hl, hh, hm⟩) (by simp) (fun ρ w F L hr _ _ => by
    have e1 := hr (x, .c (.osl id off len)) (by simp)
    have e2 := gint (hr (lx, .c (.g (.int k1 (lo : Int)))) (by simp))
    have e3 := gint (hr (hx', .c (.g (.int k2 (hi : Int)))) (by simp))
    have e4 := gint (hr (mx, .c (.g (.int k3 (m : Int)))) (by simp))
    obtain ⟨p, hp, hcap, hcase⟩ := e1
    have hs := run_sizeOf (P := P) (t := e) (n := sz) w
    have key : ∃ aa cp, ρ x = .slice aa len cp ∧ len ≤ cp := by
      rcases hcase with ⟨_, hv, _, hk⟩ | ⟨b, o2, _, hv, _⟩
      · exact ⟨none, 0, by rw [hv, hk], by omega⟩
      · exact ⟨_, _, hv, by omega⟩
    obtain ⟨aa, cp, hv, hcp⟩ := key
    have h4 : m ≤ cp := by omega
    exact ⟨_, by simp [execOp, hv, e2, e3, e4, Instr.sliceAt, Instr.slice, Instr.sliceBounds, run_underlying ht.h, run_bd, h1, h2, h4, hs]; rfl, trivial⟩)
theorem objAt_take {F : FMap} {w : World} {p : Plc} {e : TypeId} {fz k : Nat} {es : List (List GV)} (h : ObjAt P F w p e fz es) : ObjAt P F w p e fz (es.take k) := by
  obtain ⟨q1, q2, q3, q4, q5, q6⟩ := h
  refine ⟨q1, q2, fun el hel => q3 el (List.mem_of_mem_take hel), by simp; omega, q5, ?_⟩
  rcases q6 with ⟨q6, q7⟩ | ⟨b, cur, k1, k2, k3, k4⟩
  · exact .inl ⟨q6, by simp [q7]⟩
  · refine .inr ⟨b, cur, k1, k2, k3, fun i j el x hi hj => ?_⟩
    rw [List.getElem?_take] at hi
    split at hi
    · exact k4 i j el x hi hj
    · cases hi
/-- The end of a function that hands the front of an own slice over. -/
theorem ret_oT {n : Nat} {rs : Array ResultVar} {args : List XA} {s : St} {t id fz : Nat} {e : TypeId} {es : List (List GV)} {k : Nat} (hrs : rs = #[.tmp t]) (hx : look s.regs t = some (.c (.osl id 0 k))) (hid : Nat.blt id n = true)
    (hl : lookO s.objs id = some ⟨e, fz, .gnd es⟩) (hk : k ≤ es.length) (ho : OutsOk n s 0 args) : RetOk P n rs args (.own e fz (es.take k)) s := by
  rintro c a w pl rfl hM hpin ⟨F, L, hs⟩
  subst hrs
  obtain ⟨p, hp, hat⟩ := objAt_of (hs.ob _ _ hl)
  have hid' : id < c.n := Nat.blt_lt hid
  have hlen : (es.take k).length = k := by simp; omega
  refine ⟨#[a.tmps.getD t undef], by simp [rvRun], F, some p, {
    ag := hs.ag
    fr := by rw [← hM]; exact hs.fr
    ext := hs.f0
    fx := fun b o hb hm => hs.fx b o hb (by rw [hM]; exact hm)
    res := ⟨p, rfl, by rw [hlen]; exact slAt_of (F := F) hp (hs.rg _ _ hx), objAt_take hat⟩
    outs := outs_of hs (fun b o v h => h) hpin ho
    rblk := fun q b hq hb => by cases hq; have := hs.lk.own id p b hp hb; rw [hM] at this; exact this
    rfree := fun q b o hq hb hle => by cases hq; exact hs.lk.free id p b o hp hb hle
    rne := fun q b hq hb => by cases hq; exact pin_ne hs hpin hid' hp hb
    ofree := pin_free hs hpin }⟩
end
end Go.Pu
/- The pure layer, part 21: contracts of functions that are handed memory of the caller's, any number of pieces, one in another. Any program. -/
namespace Go.Pu
open Go

/-! ### other numbers for the same pieces -/
def rn : List (Nat × Nat) → Nat → Nat
  | [], i => i
  | (a, b) :: m, i => bif Nat.beq a i then b else rn m i
def LC.ren (τ : Nat → Nat) : LC → LC
  | .osl i o l => .osl (τ i) o l
  | .optr i e o => .optr (τ i) e o
  | .g v => .g v
  | .junk => .junk
def PV.ren (τ : Nat → Nat) : PV → PV
  | .c x => .c (x.ren τ)
  | .agg cs => .agg (cs.map (LC.ren τ))
  | .tup ps => .tup (ps.map fun p => (p.1, p.2.map (LC.ren τ)))
def Obj.ren (τ : Nat → Nat) : Obj → Obj
  | ⟨e, fz, .gnd es⟩ => ⟨e, fz, .gnd es⟩
  | ⟨e, fz, .loc es⟩ => ⟨e, fz, .loc (es.map (·.map (LC.ren τ)))⟩
def memN (i : Nat) : List Nat → Bool
  | [] => false
  | a :: l => Nat.beq a i || memN i l
theorem memN_iff {i : Nat} : ∀ {l : List Nat}, memN i l = true ↔ i ∈ l := by
  intro l
  induction l with
  | nil => simp [memN]
  | cons a l ih =>
    simp only [memN, Bool.or_eq_true, ih, List.mem_cons]
    constructor
    · rintro (h | h)
      · exact .inl (beq_of h).symm
      · exact .inr h
    · rintro (h | h)
      · subst h; exact .inl (Nat.beq_refl _)
      · exact .inr h
def LC.inIds (l : List Nat) : LC → Bool
  | .osl i _ _ => memN i l
  | .optr i _ _ => memN i l
  | _ => true
def Obj.inIds (l : List Nat) (o : Obj) : Bool := match o.es with | .gnd _ => true | .loc es => es.all fun r => r.all (LC.inIds l)
def nodupB : List Nat → Bool
  | [] => true
  | a :: l => !memN a l && nodupB l
theorem nodupB_iff : ∀ {l : List Nat}, nodupB l = true ↔ l.Nodup := by
  intro l
  induction l with
  | nil => simp [nodupB]
  | cons a l ih =>
    simp only [nodupB, Bool.and_eq_true, ih, List.nodup_cons, Bool.not_eq_true']
    rw [← Bool.not_eq_true, memN_iff]

theorem Obj.ren_e (τ : Nat → Nat) (o : Obj) : (o.ren τ).e = o.e ∧ (o.ren τ).fz = o.fz ∧ (o.ren τ).es.cells = o.es.cells.map (·.map (LC.ren τ)) := by
  rcases o with ⟨e, fz, es⟩
  cases es with
  | gnd es =>
    refine ⟨rfl, rfl, ?_⟩
    simp only [Obj.ren, Cont.cells, List.map_map]
    congr 1
    funext l
    simp only [Function.comp, List.map_map]
    congr 1
  | loc es => exact ⟨rfl, rfl, rfl⟩

theorem RL_ren {F : FMap} {L L' : LMap} {τ : Nat → Nat} (h : ∀ id p, L id = some p → L' (τ id) = some p) {x : LC} {v : Value} (hx : RL F L x v) : RL F L' (x.ren τ) v := by
  cases x with
  | g v => exact hx
  | junk => trivial
  | osl i o l => obtain ⟨p, hp, hr⟩ := hx; exact ⟨p, h _ _ hp, hr⟩
  | optr i e o => obtain ⟨p, b, hp, hr⟩ := hx; exact ⟨p, b, h _ _ hp, hr⟩
theorem RL_unren {F : FMap} {L L' : LMap} {τ : Nat → Nat} {ids : List Nat} (h : ∀ id, id ∈ ids → L id = L' (τ id)) {x : LC} (hi : x.inIds ids = true) {v : Value} (hx : RL F L' (x.ren τ) v) : RL F L x v := by
  cases x with
  | g v => exact hx
  | junk => trivial
  | osl i o l => obtain ⟨p, hp, hr⟩ := hx; exact ⟨p, by rw [h _ (memN_iff.1 hi)]; exact hp, hr⟩
  | optr i e o => obtain ⟨p, b, hp, hr⟩ := hx; exact ⟨p, b, by rw [h _ (memN_iff.1 hi)]; exact hp, hr⟩
theorem RP_ren {F : FMap} {L L' : LMap} {τ : Nat → Nat} (h : ∀ id p, L id = some p → L' (τ id) = some p) {x : PV} {v : Value} (hx : RP F L x v) : RP F L' (x.ren τ) v := by
  cases x with
  | c x => exact RL_ren h hx
  | agg cs =>
    obtain ⟨vs, e1, e2, e3⟩ := hx
    refine ⟨vs, e1, by simp [e2], fun i c u hc hu => ?_⟩
    rw [List.getElem?_map, Option.map_eq_some_iff] at hc
    obtain ⟨y, hy, rfl⟩ := hc
    exact RL_ren h (e3 i y u hy hu)
  | tup ps =>
    obtain ⟨vs, e1, e2, e3⟩ := hx
    refine ⟨vs, e1, by simp [e2], fun i p u hp hu => ?_⟩
    rw [List.getElem?_map, Option.map_eq_some_iff] at hp
    obtain ⟨q, hq, rfl⟩ := hp
    have := e3 i q u hq hu
    simp only at this ⊢
    split at this
    · rename_i hb
      rw [if_pos hb]
      obtain ⟨us, k1, k2, k3⟩ := this
      refine ⟨us, k1, by simp [k2], fun i c u hc hu => ?_⟩
      rw [List.getElem?_map, Option.map_eq_some_iff] at hc
      obtain ⟨y, hy, rfl⟩ := hc
      exact RL_ren h (k3 i y u hy hu)
    · rename_i hb
      rw [if_neg hb]
      obtain ⟨c, k1, k2⟩ := this
      exact ⟨c.ren τ, by simp [k1], RL_ren h k2⟩

/-! ### the contract -/
def MBL (pl : LMap) (b : Nat) : Prop := ∃ id p, pl id = some p ∧ p.blk = some b
structure PreG (P : Program) (F : FMap) (w : World) (args : List PV) (ins : List (Nat × Obj)) (vs : Array Value) (pl : LMap) : Prop where
  len : vs.size = args.length
  arg : ∀ i a, args[i]? = some a → RP F pl a (vs.getD i undef)
  inn : ∀ x ∈ ins, ObjOk P F pl w x.1 x.2
  non : ∀ id, (∀ x ∈ ins, x.1 ≠ id) → pl id = none
  blk : ∀ id p b, pl id = some p → p.blk = some b → b < w.heap.size
  free : ∀ id p b o, pl id = some p → p.blk = some b → p.o + p.fz * p.sz ≤ o → F b o = none
  inj : ∀ id id' p q b, pl id = some p → pl id' = some q → p.blk = some b → q.blk = some b → id = id'
structure PostG (P : Program) (n : Nat) (F : FMap) (w : World) (M : Nat → Prop) (pin : LMap) (res : PV) (outs : List (Nat × Obj)) (v : Value) (w' : World) (F' : FMap) (pl' : LMap) : Prop where
  ag : Ag F' w'
  fr : Fr w w' M
  ext : ∀ b o u, F b o = some u → F' b o = some u
  fx : ∀ b o, b < w.heap.size → ¬ M b → F' b o = F b o
  rs : RP F' pl' res v
  out : ∀ x ∈ outs, ObjOk P F' pl' w' x.1 x.2
  non : ∀ id, (∀ x ∈ outs, x.1 ≠ id) → pl' id = none
  pin : ∀ id, n ≤ id → pl' id = pin id
  own : ∀ id p b, pl' id = some p → p.blk = some b → (w.heap.size ≤ b ∨ M b) ∧ b < w'.heap.size
  free : ∀ id p b o, pl' id = some p → p.blk = some b → p.o + p.fz * p.sz ≤ o → F' b o = none
  inj : ∀ id id' p q b, pl' id = some p → pl' id' = some q → p.blk = some b → q.blk = some b → id = id'
/-- The contract of a function that is handed the pieces 'ins' and leaves the pieces 'outs'; those with numbers of at least n stay where they are. -/
def CtrG (P : Program) (f : FuncId) (n : Nat) (args : List PV) (ins : List (Nat × Obj)) (res : PV) (outs : List (Nat × Obj)) : Prop :=
  ∀ F w vs pl, Ag F w → PreG P F w args ins vs pl → Calls P f vs w fun | .returned v, w' => ∃ F' pl', PostG P n F w (MBL pl) pl res outs v w' F' pl' | _, _ => False

/-! ### entering -/
def initG : Nat → List PV → List REv
  | _, [] => []
  | i, a :: l => .set i a :: initG (i + 1) l
theorem initG_look : ∀ {l : List PV} {k t : Nat} {v : PV}, look (initG k l) t = some v → k ≤ t ∧ l[t - k]? = some v := by
  intro l
  induction l with
  | nil => intro k t v h; cases h
  | cons a l ih =>
    intro k t v h
    simp only [initG, look] at h
    cases hb : Nat.beq k t with
    | true =>
      rw [hb] at h
      simp only [cond_true, Option.some.injEq] at h
      have := beq_of hb
      subst this
      exact ⟨Nat.le_refl _, by simpa using h⟩
    | false =>
      rw [hb] at h
      obtain ⟨h1, h2⟩ := ih h
      refine ⟨by omega, ?_⟩
      rw [show t - k = (t - (k + 1)) + 1 by omega, List.getElem?_cons_succ]
      exact h2
theorem mkO_look : ∀ {l : List (Nat × Obj)} {t : Nat} {o : Obj}, lookO (mkO l) t = some o → (t, o) ∈ l := by
  intro l
  induction l with
  | nil => intro t o h; cases h
  | cons a l ih =>
    intro t o h
    simp only [mkO, List.map_cons, lookO] at h
    cases hb : Nat.beq a.1 t with
    | true =>
      rw [hb] at h
      simp only [cond_true, Option.some.injEq] at h
      have := beq_of hb
      subst this; subst h
      simp
    | false => rw [hb] at h; exact List.mem_cons_of_mem _ (ih h)

def RetOkG (P : Program) (n : Nat) (rs : Array ResultVar) (ins : List (Nat × Obj)) (res : PV) (outs : List (Nat × Obj)) (s : St) : Prop :=
  ∀ (c : Ctx) (a : Act) (w : World), c.n = n → (∀ id, (∀ x ∈ ins, x.1 ≠ id) → c.pin id = none) → Sim P c s a w →
    ∃ v, (rs.mapM (rvRun a.tmps)).run P w = .ok v w ∧ ∃ F' pl', PostG P n c.F0 c.w0 c.M c.pin res outs (if h : v.size = 1 then v[0] else .tuple v) w F' pl'

theorem ctr_ofG {P : Program} {f : FuncId} {fn : Func} {code : Code} {n : Nat} {args : List PV} {ins outs : List (Nat × Obj)} {res : PV} (hf : P.funcs[f]? = some fn) (hb : fn.body = some code) (hnt : fn.ntmps = n) (hn : Nat.ble args.length n = true)
    (h : ∀ c : Ctx, c.n = n → PW P c code (fun e s => (e = .normal ∨ e = .ret) ∧ RetOkG P n fn.results ins res outs s) ⟨initG 0 args, mkO ins⟩) : CtrG P f n args ins res outs := by
  intro F w vs pl hag ha
  subst hnt
  refine calls_of_wp hf hb ?_
  have hn' : args.length ≤ fn.ntmps := by simpa [Nat.ble_eq] using hn
  let c : Ctx := ⟨fn.ntmps, w, F, MBL pl, pl⟩
  have hlen := ha.len
  have hsim : Sim P c ⟨initG 0 args, mkO ins⟩ { tmps := vs ++ Array.replicate (fn.ntmps - vs.size) undef, defers := [] } w := by
    refine ⟨F, pl, {
      df := rfl
      sz := by simp [c]; omega
      ag := hag
      fr := Fr.refl w _
      fx := fun _ _ _ _ => rfl
      rg := ?_
      ob := fun id o ho => ha.inn _ (mkO_look ho)
      lk := ⟨fun id p b hp hb => ⟨.inr ⟨id, p, hp, hb⟩, ha.blk id p b hp hb⟩, ha.free, ha.inj⟩
      fe := fun id hid => by rw [mkO_free] at hid; cases hid
      pn := fun _ _ => rfl
      f0 := fun _ _ _ h => h }⟩
    intro t v ht
    obtain ⟨_, hx⟩ := initG_look ht
    rw [Nat.sub_zero] at hx
    have hlt := (List.getElem?_eq_some_iff.1 hx).1
    have := ha.arg t v hx
    simp only [Array.getD_eq_getD_getElem?] at this ⊢
    rw [Array.getElem?_append_left (by omega)]
    exact this
  refine wp_mono (h c rfl _ w hsim) ?_
  rintro e a' w' ⟨s', ⟨he, hr⟩, hs'⟩
  have hend : a'.defers = [] ∧ ∃ v, (results fn a'.tmps).run P w' = .ok v w' ∧ ∃ F' pl', PostG P fn.ntmps F w (MBL pl) pl res outs v w' F' pl' := by
    obtain ⟨v, h1, F', pl', h2⟩ := hr c a' w' rfl ha.non hs'
    obtain ⟨F2, L2, hs2⟩ := hs'
    refine ⟨hs2.df, _, ?_, F', pl', h2⟩
    rw [results_eq]
    simp only [Sem.run_bind, h1, Result.andThen_ok, Sem.run_pure]
  rcases he with rfl | rfl
  · exact hend
  · exact hend

/-! ### leaving -/
/-- Whatever reads as g reads as g', too. -/
def GUp (g g' : GV) : Prop := ∀ (F : FMap) (v : Value), RG F g v → RG F g' v
theorem GUp.refl (g : GV) : GUp g g := fun _ _ h => h
theorem GUp.nil : GUp .nil (.sl []) := fun _ _ h => by cases h; exact .sl0 _ _
inductive GUps : List GV → List GV → Prop where
  | nil : GUps [] []
  | cons {g g' : GV} {gs gs' : List GV} (h : GUp g g') (k : GUps gs gs') : GUps (g :: gs) (g' :: gs')
theorem GUps.at {gs gs' : List GV} (h : GUps gs gs') : gs.length = gs'.length ∧ ∀ (i : Nat) (y : GV), gs'[i]? = some y → ∃ x, gs[i]? = some x ∧ GUp x y := by
  induction h with
  | nil => exact ⟨rfl, fun i y h => by simp at h⟩
  | cons h k ih =>
    refine ⟨by simp [ih.1], fun i y hy => ?_⟩
    cases i with
    | zero => simp at hy; subst hy; exact ⟨_, rfl, h⟩
    | succ i => simpa using ih.2 i y (by simpa using hy)
theorem GUp.agg {gs gs' : List GV} (h : GUps gs gs') : GUp (.agg gs) (.agg gs') := by
  intro F v hv
  cases hv with
  | agg _ vs hl hr =>
    refine .agg _ _ (by rw [← h.at.1]; exact hl) fun i c u hc hu => ?_
    obtain ⟨x, hx, hxc⟩ := h.at.2 i c hc
    exact hxc _ _ (hr i x u hx hu)
inductive ExZ (Z : Nat → Bool) (s : St) : LC → GV → Prop where
  | g (v : GV) : ExZ Z s (.g v) v
  | nil : ExZ Z s (.g .nil) (.sl [])
  | up {g g' : GV} (h : GUp g g') : ExZ Z s (.g g) g'
  | sl {id off k : Nat} {ob : Obj} {es : List (List GV)} (hid : Z id = true) (ho : lookO s.objs id = some ob) (hl : es.length = k) (hb : off + k ≤ ob.es.cells.length)
      (hw : ∀ (i : Nat) (el : List GV) (cs : List LC), es[i]? = some el → ob.es.cells[off + i]? = some cs → el.length = cs.length)
      (h : ∀ (i j : Nat) (el : List GV) (cs : List LC) (x : LC) (y : GV), es[i]? = some el → ob.es.cells[off + i]? = some cs → cs[j]? = some x → el[j]? = some y → ExZ Z s x y) : ExZ Z s (.osl id off k) (.sl es)
  | ref {id : Nat} {ob : Obj} {cs : List LC} {gs : List GV} (hid : Z id = true) (ho : lookO s.objs id = some ob) (hc : ob.es.cells[0]? = some cs) (hl : gs.length = cs.length)
      (h : ∀ (j : Nat) (x : LC) (y : GV), cs[j]? = some x → gs[j]? = some y → ExZ Z s x y) : ExZ Z s (.optr id 0 0) (.ref gs)
theorem ExZ.own {Z : Nat → Bool} {s : St} {id off k fz : Nat} {e : TypeId} {es : List (List GV)} (hid : Z id = true) (ho : lookO s.objs id = some ⟨e, fz, .gnd es⟩) (hb : off + k ≤ es.length) : ExZ Z s (.osl id off k) (.sl ((es.drop off).take k)) := by
  refine .sl hid ho (by simp; omega) (by simpa [Cont.cells] using hb) ?_ ?_
  · intro i el cs hi hc
    obtain ⟨l, hl, rfl⟩ := gnd_get hc
    rw [List.getElem?_take] at hi
    split at hi
    · rw [List.getElem?_drop, hl] at hi
      cases hi; simp
    · cases hi
  · intro i j el cs x y hi hc hx hy
    obtain ⟨l, hl, rfl⟩ := gnd_get hc
    obtain ⟨g, hg, rfl⟩ := map_get hx
    rw [List.getElem?_take] at hi
    split at hi
    · rw [List.getElem?_drop, hl] at hi
      cases hi
      rw [hg] at hy
      cases hy
      exact .g _
    · cases hi
theorem ExZ.whole {Z : Nat → Bool} {s : St} {id k fz : Nat} {e : TypeId} {es : List (List GV)} (hid : Z id = true) (ho : lookO s.objs id = some ⟨e, fz, .gnd es⟩) (hb : es.length = k) : ExZ Z s (.osl id 0 k) (.sl es) := by
  have := ExZ.own (off := 0) (k := k) hid ho (by omega)
  rwa [List.drop_zero, ← hb, List.take_length, hb] at this

theorem ExZ.out {P : Program} {c : Ctx} {Z : Nat → Bool} {s : St} {a : Act} {w : World} {F : FMap} {L : LMap} (h : SimFL P c s a w F L) {F' : FMap} (hF : ∀ b o v, F b o = some v → F' b o = some v)
    (hz : ∀ id p b o v, Z id = true → L id = some p → p.blk = some b → w.cell? ⟨b, o, none⟩ = some v → F' b o = some v) : ∀ {x : LC} {y : GV}, ExZ Z s x y → ∀ v, RL F L x v → RG F' y v := by
  intro x y hx
  induction hx with
  | g v => intro u hu; exact RG.mono hF hu
  | nil => intro u hu; cases hu; exact .sl0 _ _
  | up h => intro u hu; exact h _ _ (RG.mono hF hu)
  | @sl id off k ob es hid ho hl hb hw _ ih =>
    rintro v ⟨p, hp, hcap, hcase⟩
    obtain ⟨p', q1, q2, q3, q4, q5, q6, q7⟩ := h.ob id ob ho
    rw [hp] at q1
    cases q1
    have hk0 : k = 0 → RG F' (.sl es) v := by
      intro hk
      have : es = [] := List.eq_nil_of_length_eq_zero (by omega)
      subst this
      rcases hcase with ⟨_, rfl, _⟩ | ⟨b, o', _, rfl, _⟩
      · exact .sl0 _ _
      · rw [hk]; exact .sl0 _ _
    rcases Nat.eq_zero_or_pos k with hk | hk
    · exact hk0 hk
    rcases hcase with ⟨_, _, _, hk'⟩ | ⟨b, o', hb', rfl, ho'⟩
    · exact hk0 hk'
    rcases q7 with ⟨q7, _⟩ | ⟨b2, cur, q7, q8, q9, q10⟩
    · rw [hb'] at q7; cases q7
    rw [hb'] at q7
    cases q7
    have e0 := ho' (.inr (by omega))
    have rows : ∀ (i : Nat) (el : List GV), es[i]? = some el → ∃ cs, ob.es.cells[off + i]? = some cs ∧ cs.length = el.length ∧ el.length = p.sz := by
      intro i el hi
      have hlt := (List.getElem?_eq_some_iff.1 hi).1
      have hc : ob.es.cells[off + i]? = some (ob.es.cells[off + i]'(by omega)) := List.getElem?_eq_getElem _
      refine ⟨_, hc, (hw i el _ hi hc).symm, ?_⟩
      rw [hw i el _ hi hc]
      exact q4 _ (List.getElem_mem _)
    have cellat : ∀ (i j : Nat) (el : List GV) (y : GV), es[i]? = some el → el[j]? = some y → ∃ u, w.cell? ⟨b, o' + i * p.sz + j, none⟩ = some u ∧ RG F' y u := by
      intro i j el y hi hj
      obtain ⟨cs, hc, hlen, hsz⟩ := rows i el hi
      have hjl := (List.getElem?_eq_some_iff.1 hj).1
      have hx : cs[j]? = some (cs[j]'(by omega)) := List.getElem?_eq_getElem _
      obtain ⟨u, hu, _, hr⟩ := q10 (off + i) j cs _ hc hx
      refine ⟨u, ?_, ih i j el cs _ y hi hc hx hj u hr⟩
      rw [cell_of_row w b _ cur _ _ q8, ← hu, e0]
      congr 1
      rw [Nat.add_mul]; omega
    rw [← hl]
    refine .sl es b o' (p.cap - off) p.sz (fun i j => (w.cell? ⟨b, o' + i * p.sz + j, none⟩).getD undef) ?_ ?_ ?_ (by omega)
    · intro el hel
      obtain ⟨i, hi⟩ := List.mem_iff_getElem?.1 hel
      exact (rows i el hi).choose_spec.2.2
    · intro i j hi hj
      obtain ⟨cs, hc, hlen, hsz⟩ := rows i _ (List.getElem?_eq_getElem hi)
      obtain ⟨u, hu, _⟩ := cellat i j _ _ (List.getElem?_eq_getElem hi) (List.getElem?_eq_getElem (by omega))
      rw [hu]
      exact hz id p b _ u hid hp hb' hu
    · intro i j el y hi hj
      obtain ⟨u, hu, hr⟩ := cellat i j el y hi hj
      rw [hu]; exact hr
  | @ref id ob cs gs hid ho hc hl _ ih =>
    rintro v ⟨p, b, hp, hb', rfl⟩
    obtain ⟨p', q1, q2, q3, q4, q5, q6, q7⟩ := h.ob id ob ho
    rw [hp] at q1
    cases q1
    rcases q7 with ⟨q7, _⟩ | ⟨b2, cur, q7, q8, q9, q10⟩
    · rw [hb'] at q7; cases q7
    rw [hb'] at q7
    cases q7
    have cellat : ∀ (j : Nat) (y : GV), gs[j]? = some y → ∃ u, w.cell? ⟨b, p.o + 0 * p.sz + 0 + j, none⟩ = some u ∧ RG F' y u := by
      intro j y hj
      have hjl := (List.getElem?_eq_some_iff.1 hj).1
      have hx : cs[j]? = some (cs[j]'(by omega)) := List.getElem?_eq_getElem _
      obtain ⟨u, hu, _, hr⟩ := q10 0 j cs _ hc hx
      refine ⟨u, ?_, ih j _ y hx hj u hr⟩
      rw [cell_of_row w b _ cur _ _ q8, ← hu]
      rfl
    refine .ref gs b _ (fun j => (w.cell? ⟨b, p.o + 0 * p.sz + 0 + j, none⟩).getD undef) ?_ ?_
    · intro j hj
      obtain ⟨u, hu, _⟩ := cellat j _ (List.getElem?_eq_getElem hj)
      rw [hu]
      exact hz id p b _ u hid hp hb' hu
    · intro j y hj
      obtain ⟨u, hu, hr⟩ := cellat j y hj
      rw [hu]; exact hr

/-- Which pieces stand still at the end: the call's own but those that it leaves. -/
def frB (n : Nat) (keep : List Nat) (id : Nat) : Bool := Nat.blt id n && !memN id keep
/-- What a result is: as it is, or as a ground value. -/
inductive RvG (P : Program) (n : Nat) (s : St) (keep : List Nat) : ResultVar → PV → Prop where
  | raw {r : ResultVar} {x : LC} (h : RV P s r (.c x)) (hk : x.inIds keep = true) : RvG P n s keep r (.c x)
  | frz {r : ResultVar} {x : LC} {g : GV} (h : RV P s r (.c x)) (hx : ExZ (frB n keep) s x g) : RvG P n s keep r (.c (.g g))
  | agg {r : ResultVar} {cs : List LC} {gs : List GV} (h : RV P s r (.agg cs)) (hl : cs.length = gs.length) (hx : ∀ (i : Nat) (x : LC) (g : GV), cs[i]? = some x → gs[i]? = some g → ExZ (frB n keep) s x g) : RvG P n s keep r (.c (.g (.agg gs)))
  | aggR {r : ResultVar} {cs : List LC} (h : RV P s r (.agg cs)) (hk : cs.all (LC.inIds keep) = true) : RvG P n s keep r (.agg cs)
inductive ExZs (Z : Nat → Bool) (s : St) : List LC → List GV → Prop where
  | nil : ExZs Z s [] []
  | cons {x : LC} {g : GV} {cs : List LC} {gs : List GV} (h : ExZ Z s x g) (k : ExZs Z s cs gs) : ExZs Z s (x :: cs) (g :: gs)
theorem ExZs.at {Z : Nat → Bool} {s : St} {cs : List LC} {gs : List GV} (h : ExZs Z s cs gs) : cs.length = gs.length ∧ ∀ (i : Nat) (x : LC) (g : GV), cs[i]? = some x → gs[i]? = some g → ExZ Z s x g := by
  induction h with
  | nil => exact ⟨rfl, fun i x g h => by simp at h⟩
  | cons h k ih =>
    refine ⟨by simp [ih.1], fun i x g hx hg => ?_⟩
    cases i with
    | zero => simp at hx hg; subst hx; subst hg; exact h
    | succ i => exact ih.2 i x g (by simpa using hx) (by simpa using hg)
theorem RvG.aggL {P : Program} {n : Nat} {s : St} {keep : List Nat} {r : ResultVar} {cs : List LC} {gs : List GV} (h : RV P s r (.agg cs)) (hx : ExZs (frB n keep) s cs gs) : RvG P n s keep r (.c (.g (.agg gs))) := .agg h hx.at.1 hx.at.2
inductive RvGs (P : Program) (n : Nat) (s : St) (keep : List Nat) : List ResultVar → List PV → Prop where
  | nil : RvGs P n s keep [] []
  | cons {r : ResultVar} {v : PV} {rs : List ResultVar} {vs : List PV} (h : RvG P n s keep r v) (k : RvGs P n s keep rs vs) : RvGs P n s keep (r :: rs) (v :: vs)
def partOf : PV → Bool × List LC
  | .c x => (false, [x])
  | .agg cs => (true, cs)
  | .tup _ => (false, [])
def tupOf : List PV → PV
  | [v] => v
  | vs => .tup (vs.map partOf)
def restL (keep : List Nat) (L : LMap) : LMap := fun id => bif memN id keep then L id else none
theorem restL_some {keep : List Nat} {L : LMap} {id : Nat} {p : Plc} (h : restL keep L id = some p) : id ∈ keep ∧ L id = some p := by
  unfold restL at h
  cases hb : memN id keep with
  | true => rw [hb] at h; exact ⟨memN_iff.1 hb, h⟩
  | false => rw [hb] at h; cases h
theorem RL_rest {F : FMap} {L : LMap} {keep : List Nat} {x : LC} (hk : x.inIds keep = true) {v : Value} (h : RL F L x v) : RL F (restL keep L) x v := by
  cases x with
  | g v => exact h
  | junk => trivial
  | osl i o l => obtain ⟨p, hp, hr⟩ := h; exact ⟨p, by unfold restL; rw [show memN i keep = true from hk]; exact hp, hr⟩
  | optr i e o => obtain ⟨p, b, hp, hr⟩ := h; exact ⟨p, b, by unfold restL; rw [show memN i keep = true from hk]; exact hp, hr⟩

theorem rvg_run {P : Program} {c : Ctx} {s : St} {a : Act} {w : World} {F : FMap} {L : LMap} (h : SimFL P c s a w F L) {keep : List Nat} {r : ResultVar} {v : PV} (hr : RvG P c.n s keep r v) :
    (∀ ps, v ≠ .tup ps) ∧ ∃ u, (rvRun a.tmps r).run P w = .ok u w ∧ RP (frz (fun i => frB c.n keep i = true) F L w) (restL keep L) v u := by
  have hF : ∀ b o v, F b o = some v → frz (fun i => frB c.n keep i = true) F L w b o = some v := fun b o v => frz_ext b o v
  cases hr with
  | raw h1 hk =>
    obtain ⟨u, u1, u2⟩ := h1.run h
    exact ⟨(fun _ e => by cases e), u, u1, RL_rest hk (RL_mono hF u2)⟩
  | frz h1 hx =>
    obtain ⟨u, u1, u2⟩ := h1.run h
    exact ⟨(fun _ e => by cases e), u, u1, hx.out h hF (fun id p b o v hz => frz_own (Z := fun i => frB c.n keep i = true) h.ag id p b o v hz) u u2⟩
  | agg h1 hl hx =>
    obtain ⟨u, u1, vs, rfl, e2, e3⟩ := h1.run h
    refine ⟨(fun _ e => by cases e), _, u1, .agg _ _ (by omega) fun i g u hg hu => ?_⟩
    have hlt := (List.getElem?_eq_some_iff.1 hu).1
    have hc := List.getElem?_eq_getElem (l := ‹List LC›) (i := i) (by omega)
    exact (hx i _ g hc hg).out h hF (fun id p b o v hz => frz_own (Z := fun i => frB c.n keep i = true) h.ag id p b o v hz) u (e3 i _ u hc hu)
  | aggR h1 hk =>
    obtain ⟨u, u1, vs, rfl, e2, e3⟩ := h1.run h
    refine ⟨(fun _ e => by cases e), _, u1, vs, rfl, e2, fun i x u hx hu => ?_⟩
    exact RL_rest (List.all_eq_true.1 hk x (List.mem_of_getElem? hx)) (RL_mono hF (e3 i x u hx hu))
theorem rvgs_run {P : Program} {c : Ctx} {s : St} {a : Act} {w : World} {F : FMap} {L : LMap} (h : SimFL P c s a w F L) {keep : List Nat} {rs : List ResultVar} {vs : List PV} (hr : RvGs P c.n s keep rs vs) :
    ∃ us : List Value, us.length = rs.length ∧ vs.length = rs.length ∧ (∀ (i : Nat) (x : ResultVar) (u : Value), rs[i]? = some x → us[i]? = some u → (rvRun a.tmps x).run P w = .ok u w) ∧
      ∀ (i : Nat) (v : PV) (u : Value), vs[i]? = some v → us[i]? = some u → (∀ ps, v ≠ .tup ps) ∧ RP (frz (fun i => frB c.n keep i = true) F L w) (restL keep L) v u := by
  induction hr with
  | nil => exact ⟨[], rfl, rfl, by simp, by simp⟩
  | cons h1 _ ih =>
    obtain ⟨us, e1, e2, e3, e4⟩ := ih
    obtain ⟨hnt, u, u1, u2⟩ := rvg_run h h1
    refine ⟨u :: us, by simp [e1], by simp [e2], ?_, ?_⟩
    · intro i x y hx hy
      cases i with
      | zero => simp at hx hy; subst hx; subst hy; exact u1
      | succ i => exact e3 i x y (by simpa using hx) (by simpa using hy)
    · intro i g y hx hy
      cases i with
      | zero => simp at hx hy; subst hx; subst hy; exact ⟨hnt, u2⟩
      | succ i => exact e4 i g y (by simpa using hx) (by simpa using hy)
theorem tupOf_ok {F : FMap} {L : LMap} {vs : List PV} {us : List Value} (hl : vs.length = us.length) (h : ∀ (i : Nat) (v : PV) (u : Value), vs[i]? = some v → us[i]? = some u → (∀ ps, v ≠ .tup ps) ∧ RP F L v u) :
    RP F L (tupOf vs) (if h : us.toArray.size = 1 then us.toArray[0] else .tuple us.toArray) := by
  have many : us.toArray.size ≠ 1 → RP F L (.tup (vs.map partOf)) (.tuple us.toArray) := by
    intro _
    refine ⟨us, rfl, by simp [hl], fun i p u hp hu => ?_⟩
    rw [List.getElem?_map, Option.map_eq_some_iff] at hp
    obtain ⟨v, hv, rfl⟩ := hp
    obtain ⟨h1, h2⟩ := h i v u hv hu
    cases v with
    | c x => simp only [partOf, Bool.false_eq_true, if_false]; exact ⟨x, rfl, h2⟩
    | agg cs => simp only [partOf, if_true]; exact h2
    | tup ps => exact absurd rfl (h1 ps)
  match vs, us, hl with
  | [], [], _ => exact many (by simp)
  | [v], [u], _ => simp only [tupOf, List.size_toArray, List.length_cons, List.length_nil, Nat.zero_add, dite_true]; exact (h 0 v u rfl rfl).2
  | v :: v' :: vs, u :: u' :: us, _ => rw [dif_neg (by simp)]; exact many (by simp)

theorem ret_G {P : Program} {n : Nat} {rs : Array ResultVar} {ins outs : List (Nat × Obj)} {s : St} {vs : List PV} {res : PV} (hr : RvGs P n s (outs.map (·.1)) rs.toList vs) (hres : tupOf vs = res)
    (ho : HasO s.objs outs) (hc : outs.all (fun x => x.2.inIds (outs.map (·.1))) = true) (hp : ins.all (fun x => Nat.blt x.1 n || memN x.1 (outs.map (·.1))) = true) : RetOkG P n rs ins res outs s := by
  rintro c a w rfl hpin ⟨F, L, hs⟩
  obtain ⟨us, e1, e2, e3, e4⟩ := rvgs_run hs hr
  have hoat : ∀ x ∈ outs, lookO s.objs x.1 = some x.2 := by
    clear hr hc hp e4
    induction outs with
    | nil => simp
    | cons y l ih => exact List.forall_mem_cons.2 ⟨ho.1, ih ho.2⟩
  subst hres
  refine ⟨_, run_rvs e1 e3, frz (fun i => frB c.n (outs.map (·.1)) i = true) F L w, restL (outs.map (·.1)) L, {
    ag := frz_ag hs.ag
    fr := hs.fr
    ext := fun b o u hu => frz_ext b o u (hs.f0 b o u hu)
    fx := ?_
    rs := tupOf_ok (by omega) e4
    out := ?_
    non := ?_
    pin := ?_
    own := fun id p b hp hb => hs.lk.own id p b (restL_some hp).2 hb
    free := ?_
    inj := fun id id' p q b hp hq hb hb' => hs.lk.inj id id' p q b (restL_some hp).2 (restL_some hq).2 hb hb' }⟩
  · intro b o hb hm
    rw [frz_other, hs.fx b o hb hm]
    intro id p hid hp hpb
    rcases (hs.lk.own id p b hp hpb).1 with h | h
    · omega
    · exact hm h
  · intro x hx
    obtain ⟨p, q1, q2, q3, q4, q5, q6, q7⟩ := hs.ob _ _ (hoat x hx)
    have hmem : memN x.1 (outs.map (·.1)) = true := memN_iff.2 (List.mem_map_of_mem hx)
    refine ⟨p, by unfold restL; rw [hmem]; exact q1, q2, q3, q4, q5, q6, ?_⟩
    rcases q7 with q7 | ⟨b, cur, k1, k2, k3, k4⟩
    · exact .inl q7
    · refine .inr ⟨b, cur, k1, k2, k3, fun i j el y hi hj => ?_⟩
      obtain ⟨v, v1, v2, v3⟩ := k4 i j el y hi hj
      refine ⟨v, v1, v2, RL_rest ?_ (RL_mono (fun b o v => frz_ext b o v) v3)⟩
      have hx2 := List.all_eq_true.1 hc x hx
      rcases hxo : x.2 with ⟨e, fz, es⟩
      rw [hxo] at hx2 hi
      cases es with
      | gnd es =>
        obtain ⟨l, hl, rfl⟩ := gnd_get hi
        obtain ⟨g, hg, rfl⟩ := map_get hj
        rfl
      | loc es =>
        simp only [Obj.inIds] at hx2
        exact List.all_eq_true.1 (List.all_eq_true.1 hx2 el (List.mem_of_getElem? hi)) y (List.mem_of_getElem? hj)
  · intro id hid
    unfold restL
    cases hb : memN id (outs.map (·.1)) with
    | false => rfl
    | true =>
      obtain ⟨x, hx, rfl⟩ := List.mem_map.1 (memN_iff.1 hb)
      exact absurd rfl (hid x hx)
  · intro id hid
    unfold restL
    cases hb : memN id (outs.map (·.1)) with
    | true => exact hs.pn id hid
    | false =>
      symm
      refine hpin id ?_
      intro x hx he
      have := List.all_eq_true.1 hp x hx
      rw [he, hb, Bool.or_false] at this
      have := Nat.blt_lt this
      omega
  · intro id p b o hp hb hle
    obtain ⟨hk, hL⟩ := restL_some hp
    rw [frz_other, hs.lk.free id p b o hL hb hle]
    intro id2 p2 hz hp2 hb2
    have := hs.lk.inj id id2 p p2 b hL hp2 hb hb2
    subst this
    simp only [frB, Bool.and_eq_true, Bool.not_eq_true'] at hz
    rw [memN_iff.2 hk] at hz
    cases hz.2

/-! ### calling -/
inductive LcA (ids : List Nat) (τ : Nat → Nat) : LC → LC → List (Nat × Obj) → Prop where
  | g (v : GV) : LcA ids τ (.g v) (.g v) []
  | nil : LcA ids τ (.g .nil) (.g (.sl [])) []
  | osl {i off k : Nat} (h : memN i ids = true) : LcA ids τ (.osl (τ i) off k) (.osl i off k) []
  | optr {i el off : Nat} (h : memN i ids = true) : LcA ids τ (.optr (τ i) el off) (.optr i el off) []
  | junk (x : LC) : LcA ids τ x .junk []
  | up {g g' : GV} (h : GUp g g') : LcA ids τ (.g g) (.g g') []
  | bor {id off k fz : Nat} {e : TypeId} {es : List (List GV)} (hb : off + k ≤ es.length) : LcA ids τ (.osl id off k) (.g (.sl ((es.drop off).take k))) [(id, ⟨e, fz, .gnd es⟩)]
  | ref {id fz : Nat} {e : TypeId} {cs : List GV} : LcA ids τ (.optr id 0 0) (.g (.ref cs)) [(id, ⟨e, fz, .gnd [cs]⟩)]
theorem LcA.borw {ids : List Nat} {τ : Nat → Nat} {id k fz : Nat} {e : TypeId} {es : List (List GV)} (hk : es.length = k) : LcA ids τ (.osl id 0 k) (.g (.sl es)) [(id, ⟨e, fz, .gnd es⟩)] := by
  have := LcA.bor (ids := ids) (τ := τ) (id := id) (off := 0) (k := k) (fz := fz) (e := e) (es := es) (by omega)
  rwa [List.drop_zero, ← hk, List.take_length, hk] at this
inductive LcsA (ids : List Nat) (τ : Nat → Nat) : List LC → List LC → List (Nat × Obj) → Prop where
  | nil : LcsA ids τ [] [] []
  | cons {x y : LC} {b : List (Nat × Obj)} {xs ys : List LC} {bs : List (Nat × Obj)} (h : LcA ids τ x y b) (k : LcsA ids τ xs ys bs) : LcsA ids τ (x :: xs) (y :: ys) (b ++ bs)
inductive PvA (ids : List Nat) (τ : Nat → Nat) : PV → PV → List (Nat × Obj) → Prop where
  | c {x y : LC} {b : List (Nat × Obj)} (h : LcA ids τ x y b) : PvA ids τ (.c x) (.c y) b
  | agg {xs ys : List LC} {b : List (Nat × Obj)} (h : LcsA ids τ xs ys b) : PvA ids τ (.agg xs) (.agg ys) b
  | aggG {xs : List LC} {gs : List GV} {b : List (Nat × Obj)} (h : LcsA ids τ xs (gs.map .g) b) : PvA ids τ (.agg xs) (.c (.g (.agg gs))) b
inductive EvG (ids : List Nat) (τ : Nat → Nat) (r : List REv) (o : List OEv) : List Operand → List (Operand × PV) → List PV → List (Nat × Obj) → Prop where
  | nil : EvG ids τ r o [] [] [] []
  | cons {x : Operand} {v a : PV} {b bs : List (Nat × Obj)} {xs : List Operand} {ps : List (Operand × PV)} {az : List PV} (hx : ev r x = some v) (hv : PvA ids τ v a b) (ho : HasO o b)
      (k : EvG ids τ r o xs ps az bs) : EvG ids τ r o (x :: xs) ((x, v) :: ps) (a :: az) (b ++ bs)
theorem hasO_at {o : List OEv} : ∀ {l : List (Nat × Obj)}, HasO o l → ∀ x ∈ l, lookO o x.1 = some x.2 := by
  intro l
  induction l with
  | nil => intro _ x h; cases h
  | cons a l ih => intro h; exact List.forall_mem_cons.2 ⟨h.1, ih h.2⟩
theorem hasO_app {o : List OEv} : ∀ {l m : List (Nat × Obj)}, HasO o (l ++ m) ↔ HasO o l ∧ HasO o m := by
  intro l
  induction l with
  | nil => intro m; simp [HasO]
  | cons a l ih => intro m; simp only [List.cons_append, HasO, ih, and_assoc]
section
variable {ids : List Nat} {τ : Nat → Nat} {r : List REv} {o : List OEv} {xs : List Operand} {ps : List (Operand × PV)} {az : List PV} {bs : List (Nat × Obj)}
theorem EvG.g {x : Operand} {y : GV} (hx : ev r x = some (.c (.g y))) (k : EvG ids τ r o xs ps az bs) : EvG ids τ r o (x :: xs) ((x, .c (.g y)) :: ps) (.c (.g y) :: az) bs := .cons (b := []) hx (.c (.g _)) trivial k
theorem EvG.up {x : Operand} {y y' : GV} (hx : ev r x = some (.c (.g y))) (h : GUp y y') (k : EvG ids τ r o xs ps az bs) : EvG ids τ r o (x :: xs) ((x, .c (.g y)) :: ps) (.c (.g y') :: az) bs := .cons (b := []) hx (.c (.up h)) trivial k
theorem EvG.non {x : Operand} (hx : ev r x = some (.c (.g .nil))) (k : EvG ids τ r o xs ps az bs) : EvG ids τ r o (x :: xs) ((x, .c (.g .nil)) :: ps) (.c (.g (.sl [])) :: az) bs := .cons (b := []) hx (.c .nil) trivial k
theorem EvG.ptr {x : Operand} {i j el off : Nat} (hx : ev r x = some (.c (.optr j el off))) (hj : τ i = j) (h : memN i ids = true) (k : EvG ids τ r o xs ps az bs) : EvG ids τ r o (x :: xs) ((x, .c (.optr j el off)) :: ps) (.c (.optr i el off) :: az) bs := by
  subst hj; exact .cons (b := []) hx (.c (.optr h)) trivial k
theorem EvG.own {x : Operand} {i j off len : Nat} (hx : ev r x = some (.c (.osl j off len))) (hj : τ i = j) (h : memN i ids = true) (k : EvG ids τ r o xs ps az bs) : EvG ids τ r o (x :: xs) ((x, .c (.osl j off len)) :: ps) (.c (.osl i off len) :: az) bs := by
  subst hj; exact .cons (b := []) hx (.c (.osl h)) trivial k
theorem EvG.borw {x : Operand} {id k fz : Nat} {e : TypeId} {es : List (List GV)} (hx : ev r x = some (.c (.osl id 0 k))) (ho : lookO o id = some ⟨e, fz, .gnd es⟩) (hk : es.length = k) (h : EvG ids τ r o xs ps az bs) :
    EvG ids τ r o (x :: xs) ((x, .c (.osl id 0 k)) :: ps) (.c (.g (.sl es)) :: az) ((id, ⟨e, fz, .gnd es⟩) :: bs) := .cons (b := [_]) hx (.c (.borw hk)) ⟨ho, trivial⟩ h
theorem EvG.bor {x : Operand} {id off k fz : Nat} {e : TypeId} {es : List (List GV)} (hx : ev r x = some (.c (.osl id off k))) (ho : lookO o id = some ⟨e, fz, .gnd es⟩) (hk : off + k ≤ es.length) (h : EvG ids τ r o xs ps az bs) :
    EvG ids τ r o (x :: xs) ((x, .c (.osl id off k)) :: ps) (.c (.g (.sl ((es.drop off).take k))) :: az) ((id, ⟨e, fz, .gnd es⟩) :: bs) := .cons (b := [_]) hx (.c (.bor hk)) ⟨ho, trivial⟩ h
theorem EvG.ref {x : Operand} {id fz : Nat} {e : TypeId} {cs : List GV} (hx : ev r x = some (.c (.optr id 0 0))) (ho : lookO o id = some ⟨e, fz, .gnd [cs]⟩) (h : EvG ids τ r o xs ps az bs) :
    EvG ids τ r o (x :: xs) ((x, .c (.optr id 0 0)) :: ps) (.c (.g (.ref cs)) :: az) ((id, ⟨e, fz, .gnd [cs]⟩) :: bs) := .cons (b := [_]) hx (.c .ref) ⟨ho, trivial⟩ h

theorem EvG.reads (h : EvG ids τ r o xs ps az bs) : (∀ p ∈ ps, ev r p.1 = some p.2) ∧ HasO o bs ∧ xs = ps.map (·.1) ∧ az.length = xs.length := by
  induction h with
  | nil => simp [HasO]
  | cons hx hv ho k ih =>
    obtain ⟨i1, i2, i3, i4⟩ := ih
    exact ⟨List.forall_mem_cons.2 ⟨hx, i1⟩, hasO_app.2 ⟨ho, i2⟩, by simp [i3], by simp [i4]⟩
theorem EvG.at (h : EvG ids τ r o xs ps az bs) : ∀ (i : Nat) (a : PV), az[i]? = some a → ∃ p b, ps[i]? = some p ∧ PvA ids τ p.2 a b ∧ ∀ q ∈ b, q ∈ bs := by
  induction h with
  | nil => intro i y h; simp at h
  | cons hx hv ho k ih =>
    intro i y hi
    cases i with
    | zero => simp at hi; subst hi; exact ⟨_, _, rfl, hv, fun q hq => List.mem_append_left _ hq⟩
    | succ i =>
      obtain ⟨p, b, h1, h2, h3⟩ := ih i y (by simpa using hi)
      exact ⟨p, b, by simpa using h1, h2, fun q hq => List.mem_append_right _ (h3 q hq)⟩
end

theorem LcA.out {P : Program} {c : Ctx} {s : St} {a : Act} {w : World} {F : FMap} {L : LMap} (hs : SimFL P c s a w F L) {ids : List Nat} {τ : Nat → Nat} {Z : Nat → Prop} {x y : LC} {b : List (Nat × Obj)} (h : LcA ids τ x y b)
    (hb : ∀ q ∈ b, lookO s.objs q.1 = some q.2 ∧ Z q.1) {pl : LMap} (hpl : ∀ i, i ∈ ids → pl i = L (τ i)) {v : Value} (hv : RL F L x v) : RL (frz Z F L w) pl y v := by
  cases h with
  | g g => exact RG.mono (fun b o v => frz_ext b o v) hv
  | nil => simp only [RL] at hv; cases hv; exact .sl0 _ _
  | junk => trivial
  | up h => exact h _ _ (RG.mono (fun b o v => frz_ext b o v) hv)
  | osl hm => obtain ⟨p, hp, hr⟩ := hv; exact ⟨p, by rw [hpl _ (memN_iff.1 hm)]; exact hp, hr⟩
  | optr hm => obtain ⟨p, b, hp, hr⟩ := hv; exact ⟨p, b, by rw [hpl _ (memN_iff.1 hm)]; exact hp, hr⟩
  | bor hbd => obtain ⟨h1, h2⟩ := hb _ (List.mem_singleton.2 rfl); exact rg_bor hs h2 h1 hbd hv
  | ref => obtain ⟨h1, h2⟩ := hb _ (List.mem_singleton.2 rfl); exact rg_ref hs h2 h1 hv
theorem LcsA.out {P : Program} {c : Ctx} {s : St} {a : Act} {w : World} {F : FMap} {L : LMap} (hs : SimFL P c s a w F L) {ids : List Nat} {τ : Nat → Nat} {Z : Nat → Prop} {xs ys : List LC} {b : List (Nat × Obj)} (h : LcsA ids τ xs ys b)
    (hb : ∀ q ∈ b, lookO s.objs q.1 = some q.2 ∧ Z q.1) {pl : LMap} (hpl : ∀ i, i ∈ ids → pl i = L (τ i)) : xs.length = ys.length ∧ ∀ (i : Nat) (y : LC) (v : Value), ys[i]? = some y → (∀ x, xs[i]? = some x → RL F L x v) → RL (frz Z F L w) pl y v := by
  induction h with
  | nil => exact ⟨rfl, fun i y v h => by simp at h⟩
  | cons h1 k ih =>
    obtain ⟨i1, i2⟩ := ih (fun q hq => hb q (List.mem_append_right _ hq))
    refine ⟨by simp [i1], fun i y v hy hx => ?_⟩
    cases i with
    | zero => simp at hy; subst hy; exact h1.out hs (fun q hq => hb q (List.mem_append_left _ hq)) hpl (hx _ rfl)
    | succ i => exact i2 i y v (by simpa using hy) (fun x h => hx x (by simpa using h))
theorem PvA.out {P : Program} {c : Ctx} {s : St} {a : Act} {w : World} {F : FMap} {L : LMap} (hs : SimFL P c s a w F L) {ids : List Nat} {τ : Nat → Nat} {Z : Nat → Prop} {x y : PV} {b : List (Nat × Obj)} (h : PvA ids τ x y b)
    (hb : ∀ q ∈ b, lookO s.objs q.1 = some q.2 ∧ Z q.1) {pl : LMap} (hpl : ∀ i, i ∈ ids → pl i = L (τ i)) {v : Value} (hv : RP F L x v) : RP (frz Z F L w) pl y v := by
  cases h with
  | c h => exact h.out hs hb hpl hv
  | agg h =>
    obtain ⟨vs, rfl, e2, e3⟩ := hv
    obtain ⟨h1, h2⟩ := h.out hs hb hpl
    exact ⟨vs, rfl, by omega, fun i y u hy hu => h2 i y u hy (fun x hx => e3 i x u hx hu)⟩
  | aggG h =>
    obtain ⟨vs, rfl, e2, e3⟩ := hv
    obtain ⟨h1, h2⟩ := h.out hs hb hpl
    simp only [List.length_map] at h1
    exact .agg _ _ (by omega) fun i g u hg hu => h2 i (.g g) u (by simp [hg]) (fun x hx => e3 i x u hx hu)

def LC.Flat : LC → Prop
  | .g v => v.Flat
  | _ => True
def PV.Flat : PV → Prop
  | .c x => x.Flat
  | .agg cs => ∀ x ∈ cs, x.Flat
  | .tup ps => ∀ p ∈ ps, ∀ x ∈ p.2, LC.Flat x
def Obj.Flat (o : Obj) : Prop := ∀ el ∈ o.es.cells, ∀ x ∈ el, LC.Flat x
theorem RL_flat {F F' : FMap} {L : LMap} {x : LC} (h : x.Flat) {v : Value} (hv : RL F L x v) : RL F' L x v := by
  cases x with
  | g g => exact h _ _ _ hv
  | _ => exact hv

/-- Which numbers of the caller's are let go at a call. -/
def killsG (n : Nat) (m m' : List (Nat × Nat)) (ins outs bs : List (Nat × Obj)) (kp : Bool) : List Nat :=
  ((ins.filter fun x => Nat.blt x.1 n).map fun x => rn m x.1) ++ (bif kp then [] else bs.map (·.1)) ++ ((outs.filter fun x => Nat.blt x.1 n).map fun x => rn m' x.1)
def chkG (cn n : Nat) (m m' : List (Nat × Nat)) (ins outs bs : List (Nat × Obj)) (kp : Bool) : Bool :=
  nodupB (ins.map fun x => rn m x.1) && nodupB (outs.map fun x => rn m' x.1) && (outs.all fun x => Nat.blt x.1 n || Nat.beq (rn m' x.1) (rn m x.1)) &&
    (killsG n m m' ins outs bs kp).all (fun k => Nat.blt k cn) && bs.all (fun b => !memN b.1 (ins.map fun x => rn m x.1)) && ins.all (fun x => x.2.inIds (ins.map (·.1)))
def wrG (d n : Nat) (m m' : List (Nat × Nat)) (ins outs bs : List (Nat × Obj)) (kp : Bool) (res : PV) : List REv := .set d (res.ren (rn m')) :: (killsG n m m' ins outs bs kp).map .kill
def woG (n : Nat) (m m' : List (Nat × Nat)) (ins outs bs : List (Nat × Obj)) (kp : Bool) : List OEv := (outs.map fun x => .set (rn m' x.1) (x.2.ren (rn m'))) ++ (killsG n m m' ins outs bs kp).map .free
def roG (m : List (Nat × Nat)) (ins bs : List (Nat × Obj)) : List (Nat × Obj) := (ins.map fun x => (rn m x.1, x.2.ren (rn m))) ++ bs

theorem look_kills {l : List Nat} {r : List REv} {t : Nat} {v : PV} : look (l.map .kill ++ r) t = some v → look r t = some v ∧ ∀ k ∈ l, v.noRef k = true := by
  induction l with
  | nil => intro h; exact ⟨h, by simp⟩
  | cons k l ih =>
    intro h
    simp only [List.map_cons, List.cons_append, look] at h
    obtain ⟨h1, h2⟩ := ih (killO_some h)
    exact ⟨h1, List.forall_mem_cons.2 ⟨noRef_killO h, h2⟩⟩

theorem freeO_kills {l : List Nat} {o : List OEv} {t : Nat} : freeO (l.map .free ++ o) t = true → t ∈ l ∨ freeO o t = true := by
  induction l with
  | nil => intro h; exact .inr h
  | cons k l ih =>
    intro h
    simp only [List.map_cons, List.cons_append, freeO] at h
    cases hb : Nat.beq k t with
    | true => exact .inl (by rw [beq_of hb]; simp)
    | false =>
      rw [hb] at h
      rcases ih h with h | h
      · exact .inl (List.mem_cons_of_mem _ h)
      · exact .inr h
def killL (l : List Nat) (x : LC) : LC := l.foldr (fun k x => x.kill k) x
theorem lookO_kills {l : List Nat} {o : List OEv} {t : Nat} : ∀ {ob : Obj}, lookO (l.map .free ++ o) t = some ob → t ∉ l ∧ ∃ ob0, lookO o t = some ob0 ∧ ob.e = ob0.e ∧ ob.fz = ob0.fz ∧ ob.es.cells = ob0.es.cells.map (·.map (killL l)) := by
  induction l with
  | nil => intro ob h; exact ⟨by simp, ob, h, rfl, rfl, by
      have : (fun x : List LC => x.map (killL [])) = id := by funext x; exact List.map_id' x
      rw [this, List.map_id]⟩
  | cons k l ih =>
    intro ob h
    simp only [List.map_cons, List.cons_append, lookO] at h
    cases hb : Nat.beq k t with
    | true => rw [hb] at h; cases h
    | false =>
      rw [hb] at h
      simp only [cond_false] at h
      cases hx : lookO (l.map .free ++ o) t with
      | none => rw [hx] at h; cases h
      | some ob1 =>
        rw [hx] at h
        obtain ⟨h1, ob0, h2, h3, h4, h5⟩ := ih hx
        obtain ⟨e1, e2, e3⟩ := killObj_cells h
        refine ⟨?_, ob0, h2, e1.trans h3, e2.trans h4, ?_⟩
        · simp only [List.mem_cons, not_or]
          exact ⟨fun e => ne_of_beq hb e.symm, h1⟩
        · rw [e3, h5, List.map_map]
          congr 1
          funext el
          simp only [Function.comp, List.map_map]
          congr 1
theorem killL_eq {l : List Nat} {x : LC} : killL l x = .junk ∨ (killL l x = x ∧ ∀ i, x.id? = some i → i ∉ l) := by
  induction l with
  | nil => exact .inr ⟨rfl, by simp⟩
  | cons k l ih =>
    simp only [killL, List.foldr_cons] at ih ⊢
    rcases ih with h | ⟨h, h2⟩
    · rw [h]; exact .inl rfl
    · rw [h]
      cases x with
      | g v => exact .inr ⟨rfl, by simp [LC.id?]⟩
      | junk => exact .inl rfl
      | osl i o l =>
        simp only [LC.kill]
        cases hb : Nat.beq i k with
        | true => exact .inl rfl
        | false => exact .inr ⟨rfl, fun j hj => by cases hj; simp only [List.mem_cons, not_or]; exact ⟨ne_of_beq hb, h2 _ rfl⟩⟩
      | optr i e o =>
        simp only [LC.kill]
        cases hb : Nat.beq i k with
        | true => exact .inl rfl
        | false => exact .inr ⟨rfl, fun j hj => by cases hj; simp only [List.mem_cons, not_or]; exact ⟨ne_of_beq hb, h2 _ rfl⟩⟩
theorem RL_keep {F F' : FMap} {L L' : LMap} {x : LC} (hF : ∀ b o v, F b o = some v → F' b o = some v) (h : ∀ i, x.id? = some i → L' i = L i) {v : Value} (hx : RL F L x v) : RL F' L' x v := by
  cases x with
  | g g => exact RG.mono hF hx
  | junk => trivial
  | osl i o l => obtain ⟨p, hp, hr⟩ := hx; exact ⟨p, by rw [h i rfl]; exact hp, hr⟩
  | optr i e o => obtain ⟨p, b, hp, hr⟩ := hx; exact ⟨p, b, by rw [h i rfl]; exact hp, hr⟩
theorem noRef_id {k i : Nat} {x : LC} (h : x.noRef k = true) (hi : x.id? = some i) : i ≠ k := by
  cases x with
  | g v => cases hi
  | junk => cases hi
  | osl i o l => cases hi; exact ne_of_beq (by simpa [LC.noRef] using h)
  | optr i e o => cases hi; exact ne_of_beq (by simpa [LC.noRef] using h)
theorem RP_keep {F F' : FMap} {L L' : LMap} {ks : List Nat} {x : PV} (hF : ∀ b o v, F b o = some v → F' b o = some v) (h : ∀ i, i ∉ ks → L' i = L i) (hk : ∀ k ∈ ks, x.noRef k = true) {v : Value} (hx : RP F L x v) : RP F' L' x v := by
  refine RP_of (fun y => ∀ k ∈ ks, y.noRef k = true) ?_ ?_ hx
  · intro y u hy hu
    exact RL_keep hF (fun i hi => h i (fun hm => noRef_id (hy i hm) hi rfl)) hu
  · cases x with
    | c y => exact hk
    | agg cs => intro y hy k hm; have := hk k hm; simp only [PV.noRef, List.all_eq_true] at this; exact this y hy
    | tup ps => intro p hp y hy k hm; have := hk k hm; simp only [PV.noRef, List.all_eq_true] at this; exact this p hp y hy
theorem lookO_sets {f : Nat × Obj → Nat × Obj} {l : List (Nat × Obj)} {o : List OEv} {t : Nat} {ob : Obj} : lookO ((l.map fun x => .set (f x).1 (f x).2) ++ o) t = some ob → (∃ x ∈ l, (f x).1 = t ∧ (f x).2 = ob) ∨ ((∀ x ∈ l, (f x).1 ≠ t) ∧ lookO o t = some ob) := by
  induction l with
  | nil => intro h; exact .inr ⟨by simp, h⟩
  | cons a l ih =>
    intro h
    simp only [List.map_cons, List.cons_append, lookO] at h
    cases hb : Nat.beq (f a).1 t with
    | true => rw [hb] at h; exact .inl ⟨a, by simp, beq_of hb, by simpa using h⟩
    | false =>
      rw [hb] at h
      rcases ih h with ⟨x, h1, h2⟩ | ⟨h1, h2⟩
      · exact .inl ⟨x, List.mem_cons_of_mem _ h1, h2⟩
      · exact .inr ⟨List.forall_mem_cons.2 ⟨ne_of_beq hb, h1⟩, h2⟩
theorem freeO_sets {f : Nat × Obj → Nat × Obj} {l : List (Nat × Obj)} {o : List OEv} {t : Nat} : freeO ((l.map fun x => .set (f x).1 (f x).2) ++ o) t = true → (∀ x ∈ l, (f x).1 ≠ t) ∧ freeO o t = true := by
  induction l with
  | nil => intro h; exact ⟨by simp, h⟩
  | cons a l ih =>
    intro h
    simp only [List.map_cons, List.cons_append, freeO] at h
    cases hb : Nat.beq (f a).1 t with
    | true => rw [hb] at h; cases h
    | false =>
      rw [hb] at h
      obtain ⟨h1, h2⟩ := ih h
      exact ⟨List.forall_mem_cons.2 ⟨ne_of_beq hb, h1⟩, h2⟩
theorem inj_of_nodup {α β : Type} {f : α → β} : ∀ {l : List α}, (l.map f).Nodup → ∀ x ∈ l, ∀ y ∈ l, f x = f y → x = y := by
  intro l
  induction l with
  | nil => intro _ x h; cases h
  | cons a l ih =>
    intro hn x hx y hy he
    rw [List.map_cons, List.nodup_cons] at hn
    rcases List.mem_cons.1 hx with rfl | hx'
    · rcases List.mem_cons.1 hy with rfl | hy'
      · rfl
      · exact absurd (List.mem_map.2 ⟨y, hy', he.symm⟩) hn.1
    · rcases List.mem_cons.1 hy with rfl | hy'
      · exact absurd (List.mem_map.2 ⟨x, hx', he⟩) hn.1
      · exact ih hn.2 x hx' y hy' he

theorem callG_state {P : Program} {c : Ctx} {s : St} {a : Act} {w : World} {F : FMap} {L : LMap} (hs : SimFL P c s a w F L) {n : Nat} {m m' : List (Nat × Nat)} {ins outs bs : List (Nat × Obj)} {kp : Bool} (hck : chkG c.n n m m' ins outs bs kp = true) {res : PV}
    (hfl : kp = false ∨ (res.Flat ∧ ∀ x ∈ outs, x.2.Flat)) {pl : LMap} (hpl : ∀ id, pl id = if memN id (ins.map (·.1)) = true then L (rn m id) else none) {v : Value} {w' : World} {F' : FMap} {pl' : LMap}
    (hp : PostG P n (frz (· ∈ bs.map (·.1)) F L w) w (MBL pl) pl res outs v w' F' pl') {d : Nat} (hd : d < c.n) :
    Sim P c ⟨wrG d n m m' ins outs bs kp res ++ s.regs, woG n m m' ins outs bs kp ++ s.objs⟩ (a.put (some d) v) w' := by
  classical
  simp only [chkG, Bool.and_eq_true, List.all_eq_true] at hck
  obtain ⟨⟨⟨⟨⟨k1, k2⟩, k3⟩, k4⟩, k5⟩, k6⟩ := hck
  have n1 := inj_of_nodup (nodupB_iff.1 k1)
  have n2 := inj_of_nodup (nodupB_iff.1 k2)
  generalize hK : killsG n m m' ins outs bs kp = K at k4
  have hpls : ∀ {id p}, pl id = some p → (∃ x ∈ ins, x.1 = id) ∧ L (rn m id) = some p := by
    intro id p h
    rw [hpl] at h
    split at h
    · rename_i hm
      obtain ⟨x, hx, he⟩ := List.mem_map.1 (memN_iff.1 hm)
      exact ⟨⟨x, hx, he⟩, h⟩
    · cases h
  have hMB : ∀ b, MBL pl b → c.w0.heap.size ≤ b ∨ c.M b := by
    rintro b ⟨id, p, h1, h2⟩
    exact (hs.lk.own _ p b (hpls h1).2 h2).1
  let L' : LMap := fun i => if h : ∃ x, x ∈ outs ∧ rn m' x.1 = i then pl' h.choose.1 else if i ∈ K ∨ (∃ x ∈ ins, rn m x.1 = i) then none else L i
  have hA : ∀ x ∈ outs, L' (rn m' x.1) = pl' x.1 := by
    intro x hx
    have h : ∃ y, y ∈ outs ∧ rn m' y.1 = rn m' x.1 := ⟨x, hx, rfl⟩
    show (if h : ∃ y, y ∈ outs ∧ rn m' y.1 = rn m' x.1 then pl' h.choose.1 else _) = _
    rw [dif_pos h]
    rw [n2 _ h.choose_spec.1 _ hx h.choose_spec.2]
  have hout : ∀ x ∈ outs, ∃ p, pl' x.1 = some p := fun x hx => by obtain ⟨p, hp, _⟩ := hp.out x hx; exact ⟨p, hp⟩
  have hKin : ∀ x ∈ ins, x.1 < n → rn m x.1 ∈ K := by
    intro x hx hlt
    rw [← hK]
    simp only [killsG, List.mem_append, List.mem_map, List.mem_filter]
    exact .inl (.inl ⟨x, ⟨hx, by simpa [Nat.blt_eq] using hlt⟩, rfl⟩)
  have hKout : ∀ x ∈ outs, x.1 < n → rn m' x.1 ∈ K := by
    intro x hx hlt
    rw [← hK]
    simp only [killsG, List.mem_append, List.mem_map, List.mem_filter]
    exact .inr ⟨x, ⟨hx, by simpa [Nat.blt_eq] using hlt⟩, rfl⟩
  have hpinout : ∀ x ∈ outs, n ≤ x.1 → rn m' x.1 = rn m x.1 ∧ pl' x.1 = L (rn m x.1) := by
    intro x hx hge
    have h1 := k3 x hx
    simp only [Bool.or_eq_true] at h1
    rcases h1 with h1 | h1
    · have := Nat.blt_lt h1; omega
    · refine ⟨beq_of h1, ?_⟩
      obtain ⟨p, hp'⟩ := hout x hx
      have h2 := hp.pin x.1 hge
      rw [hp'] at h2
      rw [hp', (hpls h2.symm).2]
  have hB : ∀ i, i ∉ K → L' i = L i := by
    intro i hi
    by_cases h : ∃ x, x ∈ outs ∧ rn m' x.1 = i
    · obtain ⟨x, hx, rfl⟩ := h
      rw [hA x hx]
      rcases Nat.lt_or_ge x.1 n with hlt | hge
      · exact absurd (hKout x hx hlt) hi
      · obtain ⟨e1, e2⟩ := hpinout x hx hge
        rw [e2, e1]
    · show (if h : ∃ x, x ∈ outs ∧ rn m' x.1 = i then pl' h.choose.1 else if i ∈ K ∨ (∃ x ∈ ins, rn m x.1 = i) then none else L i) = _
      rw [dif_neg h]
      split
      · rename_i h2
        rcases h2 with h2 | ⟨x, hx, rfl⟩
        · exact absurd h2 hi
        · rcases Nat.lt_or_ge x.1 n with hlt | hge
          · exact absurd (hKin x hx hlt) hi
          · have h3 := hp.pin x.1 hge
            have h4 : pl x.1 = L (rn m x.1) := by rw [hpl, if_pos (memN_iff.2 (List.mem_map_of_mem hx))]
            have h5 : pl' x.1 = none := by
              refine hp.non x.1 fun y hy he => h ⟨y, hy, ?_⟩
              rw [← he]
              exact (hpinout y hy (by omega)).1
            rw [h5, h4] at h3
            exact h3
      · rfl
  have hC : ∀ {i p}, L' i = some p → (∃ x ∈ outs, rn m' x.1 = i ∧ pl' x.1 = some p) ∨ ((∀ x ∈ outs, rn m' x.1 ≠ i) ∧ i ∉ K ∧ (∀ x ∈ ins, rn m x.1 ≠ i) ∧ L i = some p) := by
    intro i p h
    by_cases hx : ∃ x, x ∈ outs ∧ rn m' x.1 = i
    · obtain ⟨x, hx, rfl⟩ := hx
      rw [hA x hx] at h
      exact .inl ⟨x, hx, rfl, h⟩
    · have h' : (if h : ∃ x, x ∈ outs ∧ rn m' x.1 = i then pl' h.choose.1 else if i ∈ K ∨ (∃ x ∈ ins, rn m x.1 = i) then none else L i) = some p := h
      rw [dif_neg hx] at h'
      split at h'
      · cases h'
      · rename_i h2
        exact .inr ⟨fun x h3 h4 => hx ⟨x, h3, h4⟩, fun h3 => h2 (.inl h3), fun x h3 h4 => h2 (.inr ⟨x, h3, h4⟩), h'⟩
  have hnoMB : ∀ {i p b}, (∀ x ∈ ins, rn m x.1 ≠ i) → L i = some p → p.blk = some b → ¬ MBL pl b := by
    rintro i p b h1 h2 h3 ⟨id, q, h4, h5⟩
    obtain ⟨⟨x, hx, rfl⟩, h6⟩ := hpls h4
    exact h1 x hx (hs.lk.inj _ _ q p b h6 h2 h5 h3)
  have hF1 : ∀ b o u, F b o = some u → F' b o = some u := fun b o u hu => hp.ext b o u (frz_ext b o u hu)
  obtain ⟨Fn, g1, g2, g3, g4, g5, g6⟩ : ∃ Fn : FMap, Ag Fn w' ∧ (∀ b o u, F b o = some u → Fn b o = some u) ∧ (∀ b o, b < w.heap.size → ¬ MBL pl b → (∀ id p, id ∈ bs.map (·.1) → L id = some p → p.blk = some b → kp = true) → Fn b o = F b o) ∧
      RP Fn pl' res v ∧ (∀ x ∈ outs, ObjOk P Fn pl' w' x.1 x.2) ∧ (∀ b o, F' b o = none → Fn b o = none) := by
    rcases hfl with rfl | ⟨f1, f2⟩
    · refine ⟨F', hp.ag, hF1, ?_, hp.rs, hp.out, fun _ _ h => h⟩
      intro b o hb hm hno
      rw [hp.fx b o hb hm, frz_other]
      intro id p h1 h2 h3
      have := hno id p h1 h2 h3
      cases this
    · refine ⟨F, fun b o u hu => hp.ag b o u (hF1 b o u hu), fun _ _ _ h => h, fun _ _ _ _ _ => rfl, ?_, ?_, ?_⟩
      · refine RP_of (fun y => LC.Flat y) (fun y u hy hu => RL_flat hy hu) ?_ hp.rs
        cases res with
        | c y => exact f1
        | agg cs => exact f1
        | tup ps => exact f1
      · intro x hx
        obtain ⟨p, q1, q2, q3, q4, q5, q6, q7⟩ := hp.out x hx
        refine ⟨p, q1, q2, q3, q4, q5, q6, ?_⟩
        rcases q7 with q7 | ⟨b, cur, j1, j2, j3, j4⟩
        · exact .inl q7
        · refine .inr ⟨b, cur, j1, j2, j3, fun i j el y hi hj => ?_⟩
          obtain ⟨u, u1, u2, u3⟩ := j4 i j el y hi hj
          exact ⟨u, u1, u2, RL_flat (f2 x hx el (List.mem_of_getElem? hi) y (List.mem_of_getElem? hj)) u3⟩
      · intro b o h
        cases hx : F b o with
        | none => rfl
        | some u => rw [hF1 b o u hx] at h; cases h
  have hbsK : ∀ id, id ∈ bs.map (·.1) → kp = false → id ∈ K := by
    intro id hid hk
    rw [← hK]
    simp only [killsG, List.mem_append]
    exact .inl (.inr (by rw [hk]; exact hid))
  have hsim : SimFL P c ⟨K.map .kill ++ s.regs, woG n m m' ins outs bs kp ++ s.objs⟩ a w' Fn L' := {
    df := hs.df
    sz := hs.sz
    ag := g1
    fr := ⟨hp.fr.os.trans hs.fr.os, hp.fr.tape.trans hs.fr.tape, hp.fr.output.trans hs.fr.output, Nat.le_trans hs.fr.size hp.fr.size, fun k hk hm => by
      rw [hp.fr.block k (Nat.lt_of_lt_of_le hk hs.fr.size)]
      · exact hs.fr.block k hk hm
      · intro hb
        rcases hMB k hb with h1 | h1
        · omega
        · exact hm h1⟩
    fx := fun b o hb hm => by
      have hno : ∀ id p, L id = some p → p.blk = some b → False := fun id p h1 h2 => by
        rcases (hs.lk.own id p b h1 h2).1 with h | h
        · omega
        · exact hm h
      rw [g3 b o (Nat.lt_of_lt_of_le hb hs.fr.size)]
      · exact hs.fx b o hb hm
      · rintro ⟨id, p, h1, h2⟩; exact hno _ p (hpls h1).2 h2
      · intro id p _ h1 h2; exact (hno id p h1 h2).elim
    rg := fun t u ht => by
      obtain ⟨h1, h2⟩ := look_kills ht
      exact RP_keep g2 hB h2 (hs.rg t u h1)
    ob := fun id ob ho => by
      simp only [woG, List.append_assoc] at ho
      rw [hK] at ho
      rcases lookO_sets (f := fun x => (rn m' x.1, x.2.ren (rn m'))) ho with ⟨x, hx, rfl, rfl⟩ | ⟨hne, ho⟩
      · obtain ⟨p, q1, q2, q3, q4, q5, q6, q7⟩ := g5 x hx
        obtain ⟨e1, e2, e3⟩ := Obj.ren_e (rn m') x.2
        refine ⟨p, by rw [hA x hx]; exact q1, by rw [e2]; exact q2, by rw [e1]; exact q3, ?_, by rw [e3, List.length_map]; exact q5, q6, ?_⟩
        · intro el hel
          rw [e3] at hel
          obtain ⟨l, hl, rfl⟩ := List.mem_map.1 hel
          rw [List.length_map]
          exact q4 l hl
        · rcases q7 with ⟨q7, q8⟩ | ⟨b, cur, j1, j2, j3, j4⟩
          · exact .inl ⟨q7, by rw [e3, q8]; rfl⟩
          · refine .inr ⟨b, cur, j1, by rw [e1]; exact j2, j3, fun i j el y hi hj => ?_⟩
            rw [e3, List.getElem?_map, Option.map_eq_some_iff] at hi
            obtain ⟨l, hl, rfl⟩ := hi
            rw [List.getElem?_map, Option.map_eq_some_iff] at hj
            obtain ⟨z, hz, rfl⟩ := hj
            obtain ⟨u, u1, u2, u3⟩ := j4 i j l z hl hz
            refine ⟨u, u1, u2, RL_ren ?_ u3⟩
            intro id p hid
            by_cases h : ∃ y, y ∈ outs ∧ y.1 = id
            · obtain ⟨y, hy, rfl⟩ := h
              rw [hA y hy]; exact hid
            · rw [hp.non id (fun y hy he => h ⟨y, hy, he⟩)] at hid; cases hid
      · obtain ⟨h1, ob0, h2, h3, h4, h5⟩ := lookO_kills ho
        have hid : L' id = L id := hB id h1
        have hins : ∀ x ∈ ins, rn m x.1 = id → False := by
          intro x hx he
          rcases Nat.lt_or_ge x.1 n with hlt | hge
          · exact h1 (he ▸ hKin x hx hlt)
          · obtain ⟨p0, q0, _⟩ := hs.ob id ob0 h2
            have h6 := hp.pin x.1 hge
            have h7 : pl x.1 = L (rn m x.1) := by rw [hpl, if_pos (memN_iff.2 (List.mem_map_of_mem hx))]
            have h8 : pl' x.1 = none := by
              refine hp.non x.1 fun y hy he2 => hne y hy ?_
              show rn m' y.1 = id
              rw [(hpinout y hy (by omega)).1, he2, he]
            rw [h8, h7, he, q0] at h6
            cases h6
        refine (hs.ob id ob0 h2).re hid h3 (by rw [h4]; exact Nat.le_refl _) (killL K) h5 ?_ ?_
        · intro x u hx
          rcases killL_eq (l := K) (x := x) with e | ⟨e, e2⟩
          · rw [e]; trivial
          · rw [e]; exact RL_keep g2 (fun i hi => hB i (e2 i hi)) hx
        · intro p b h6 h7
          exact hp.fr.block b (hs.lk.own id p b h6 h7).2 (hnoMB (fun x hx he => hins x hx he) h6 h7)
    lk := by
      refine ⟨?_, ?_, ?_⟩
      · intro id p b h1 h2
        rcases hC h1 with ⟨x, hx, _, h3⟩ | ⟨_, _, _, h3⟩
        · obtain ⟨h4, h5⟩ := hp.own x.1 p b h3 h2
          refine ⟨?_, h5⟩
          rcases h4 with h4 | h4
          · exact .inl (Nat.le_trans hs.fr.size h4)
          · exact hMB b h4
        · exact ⟨(hs.lk.own id p b h3 h2).1, Nat.lt_of_lt_of_le (hs.lk.own id p b h3 h2).2 hp.fr.size⟩
      · intro id p b o h1 h2 hle
        rcases hC h1 with ⟨x, hx, _, h3⟩ | ⟨_, h4, h5, h3⟩
        · exact g6 b o (hp.free x.1 p b o h3 h2 hle)
        · rw [g3 b o (hs.lk.own id p b h3 h2).2 (hnoMB h5 h3 h2)]
          · exact hs.lk.free id p b o h3 h2 hle
          · intro id2 p2 h6 h7 h8
            cases hkp : kp with
            | true => rfl
            | false =>
              have := hs.lk.inj id id2 p p2 b h3 h7 h2 h8
              subst this
              exact absurd (hbsK id h6 hkp) h4
      · intro id id' p q b h1 h2 h3 h4
        rcases hC h1 with ⟨x, hx, rfl, h5⟩ | ⟨_, h6, h7, h5⟩ <;> rcases hC h2 with ⟨y, hy, rfl, h8⟩ | ⟨_, h9, h10, h8⟩
        · rw [hp.inj _ _ p q b h5 h8 h3 h4]
        · rcases (hp.own x.1 p b h5 h3).1 with h | h
          · have := (hs.lk.own id' q b h8 h4).2; omega
          · exact absurd h (hnoMB h10 h8 h4)
        · rcases (hp.own y.1 q b h8 h4).1 with h | h
          · have := (hs.lk.own id p b h5 h3).2; omega
          · exact absurd h (hnoMB h7 h5 h3)
        · exact hs.lk.inj id id' p q b h5 h8 h3 h4
    fe := fun id hid => by
      simp only [woG, List.append_assoc] at hid
      rw [hK] at hid
      obtain ⟨h1, h2⟩ := freeO_sets (f := fun x => (rn m' x.1, x.2.ren (rn m'))) hid
      have hno : ¬ ∃ x, x ∈ outs ∧ rn m' x.1 = id := fun ⟨x, h3, h4⟩ => h1 x h3 h4
      show (if h : ∃ x, x ∈ outs ∧ rn m' x.1 = id then pl' h.choose.1 else if id ∈ K ∨ (∃ x ∈ ins, rn m x.1 = id) then none else L id) = none
      rw [dif_neg hno]
      split
      · rfl
      · rename_i h3
        rcases freeO_kills h2 with h4 | h4
        · exact absurd (.inl h4) h3
        · exact hs.fe id h4
    pn := fun id hid => by
      rw [hB id (fun hk => by have := Nat.blt_lt (k4 id hk); omega)]
      exact hs.pn id hid
    f0 := fun b o u hu => g2 b o u (hs.f0 b o u hu) }
  have hres : RP Fn L' (res.ren (rn m')) v := by
    refine RP_ren ?_ g4
    intro id p hid
    by_cases h : ∃ y, y ∈ outs ∧ y.1 = id
    · obtain ⟨y, hy, rfl⟩ := h
      rw [hA y hy]; exact hid
    · rw [hp.non id (fun y hy he => h ⟨y, hy, he⟩)] at hid; cases hid
  refine ⟨Fn, L', ?_⟩
  have := hsim.set hd (nv := res.ren (rn m')) hres
  rw [← hK] at this
  exact this

/-- A call of a named function by its general contract. -/
theorem S_callG {P : Program} {c : Ctx} {ops : Array Oper} {r : List REv} {o : List OEv} {d n : Nat} {f : FuncId} {ts : Array TypeId} {ty : TypeId} {pos : String} {af : Array Edge} {xs : List Operand} {ps : List (Operand × PV)} {args : List PV} {ins outs bs : List (Nat × Obj)} {res : PV} [hf : TFun P f]
    (m m' : List (Nat × Nat)) (kp : Bool) (hc : CtrG P f n args ins res outs) (ha : EvG (ins.map (·.1)) (rn m) r o xs ps args bs) (hin : HasO o (ins.map fun x => (rn m x.1, x.2.ren (rn m)))) (hck : chkG c.n n m m' ins outs bs kp = true)
    (hfl : kp = false ∨ (res.Flat ∧ ∀ x ∈ outs, x.2.Flat)) (hd : Nat.blt d c.n = true) :
    Op1 P c ops (some d) (.call { callee := .value (.func f), args := xs.toArray, argTypes := ts }) ty pos af ⟨r, o⟩ ⟨ps.flatMap rdx, roG m ins bs, wrG d n m m' ins outs bs kp res, woG n m m' ins outs bs kp⟩ := by
  obtain ⟨h1, h2, h3, h4⟩ := ha.reads
  have hro : ∀ p ∈ roG m ins bs, lookO o p.1 = some p.2 := by
    intro p hp
    rcases List.mem_append.1 hp with hp | hp
    · exact hasO_at hin p hp
    · exact hasO_at h2 p hp
  refine ⟨?_, holds_of h1 hro⟩
  rintro ⟨r', o'⟩ a w hh ⟨F, L, hs⟩
  rw [if_pos (by simp [Region.wanted])]
  have hps' := ev_of_holds h1 hh
  have hins' : ∀ x ∈ ins, lookO o' (rn m x.1) = some (x.2.ren (rn m)) := fun x hx => hh.2 (rn m x.1, x.2.ren (rn m)) (List.mem_append_left _ (List.mem_map.2 ⟨x, hx, rfl⟩))
  have hbs' : ∀ p ∈ bs, lookO o' p.1 = some p.2 := fun p hp => hh.2 p (List.mem_append_right _ hp)
  have hck' := hck
  simp only [chkG, Bool.and_eq_true, List.all_eq_true] at hck
  obtain ⟨⟨⟨⟨⟨k1, k2⟩, k3⟩, k4⟩, k5⟩, k6⟩ := hck
  have n1 := inj_of_nodup (nodupB_iff.1 k1)
  let pl : LMap := fun id => if memN id (ins.map (·.1)) = true then L (rn m id) else none
  have hpl : ∀ i, i ∈ ins.map (·.1) → pl i = L (rn m i) := fun i hi => if_pos (memN_iff.2 hi)
  have hpls : ∀ {id p}, pl id = some p → (∃ x ∈ ins, x.1 = id) ∧ L (rn m id) = some p := by
    intro id p h
    have h' : (if memN id (ins.map (·.1)) = true then L (rn m id) else none) = some p := h
    split at h'
    · rename_i hm
      obtain ⟨x, hx, he⟩ := List.mem_map.1 (memN_iff.1 hm)
      exact ⟨⟨x, hx, he⟩, h'⟩
    · cases h'
  have hlen : (ps.map fun p => a.eval p.1).length = args.length := by rw [h4, h3]; simp
  have hpre : PreG P (frz (· ∈ bs.map (·.1)) F L w) w args ins (ps.map fun p => a.eval p.1).toArray pl := {
    len := by simpa using hlen
    arg := by
      intro i y hi
      obtain ⟨p, b, hp, hv, hb⟩ := ha.at i y hi
      have : ((ps.map fun p => a.eval p.1).toArray).getD i undef = a.eval p.1 := by
        rw [Array.getD_eq_getD_getElem?, List.getElem?_toArray, List.getElem?_map, hp]; rfl
      rw [this]
      exact hv.out hs (Z := (· ∈ bs.map (·.1))) (fun q hq => ⟨hbs' q (hb q hq), List.mem_map_of_mem (hb q hq)⟩) hpl (ev_ok hs.rg (hps' p (List.mem_of_getElem? hp)))
    inn := by
      intro x hx
      obtain ⟨p, q1, q2, q3, q4, q5, q6, q7⟩ := hs.ob _ _ (hins' x hx)
      obtain ⟨e1, e2, e3⟩ := Obj.ren_e (rn m) x.2
      rw [e2] at q2
      rw [e1] at q3
      rw [e3, List.length_map] at q5
      refine ⟨p, by rw [hpl _ (List.mem_map_of_mem hx)]; exact q1, q2, q3, ?_, q5, q6, ?_⟩
      · intro el hel
        have := q4 (el.map (LC.ren (rn m))) (by rw [e3]; exact List.mem_map_of_mem hel)
        rwa [List.length_map] at this
      · rcases q7 with ⟨q7, q8⟩ | ⟨b, cur, j1, j2, j3, j4⟩
        · rw [e3, List.map_eq_nil_iff] at q8
          exact .inl ⟨q7, q8⟩
        · rw [e1] at j2
          refine .inr ⟨b, cur, j1, j2, j3, fun i j el y hi hj => ?_⟩
          obtain ⟨u, u1, u2, u3⟩ := j4 i j (el.map (LC.ren (rn m))) (y.ren (rn m)) (by rw [e3, List.getElem?_map, hi]; rfl) (by rw [List.getElem?_map, hj]; rfl)
          refine ⟨u, u1, u2, RL_mono (fun b o v => frz_ext b o v) (RL_unren hpl ?_ u3)⟩
          have hx2 := k6 x hx
          rcases hxo : x.2 with ⟨e, fz, es⟩
          rw [hxo] at hx2 hi
          cases es with
          | gnd es =>
            obtain ⟨l, hl, rfl⟩ := gnd_get hi
            obtain ⟨g, hg, rfl⟩ := map_get hj
            rfl
          | loc es =>
            simp only [Obj.inIds] at hx2
            exact List.all_eq_true.1 (List.all_eq_true.1 hx2 el (List.mem_of_getElem? hi)) y (List.mem_of_getElem? hj)
    non := by
      intro id hid
      show (if memN id (ins.map (·.1)) = true then L (rn m id) else none) = none
      rw [if_neg]
      intro hm
      obtain ⟨x, hx, rfl⟩ := List.mem_map.1 (memN_iff.1 hm)
      exact hid x hx rfl
    blk := fun id p b h5 h6 => (hs.lk.own _ p b (hpls h5).2 h6).2
    free := by
      intro id p b o h5 h6 hle
      obtain ⟨⟨x, hx, rfl⟩, hL⟩ := hpls h5
      rw [frz_other, hs.lk.free _ p b o hL h6 hle]
      intro id2 p2 hid2 hp2 hb2
      have := hs.lk.inj _ _ p p2 b hL hp2 h6 hb2
      obtain ⟨q, hq, rfl⟩ := List.mem_map.1 hid2
      have h7 := k5 q hq
      rw [← this, memN_iff.2 (List.mem_map.2 ⟨x, hx, rfl⟩ : rn m x.1 ∈ ins.map fun x => rn m x.1)] at h7
      cases h7
    inj := by
      intro id id' p q b h5 h6 h7 h8
      obtain ⟨⟨x, hx, rfl⟩, hL⟩ := hpls h5
      obtain ⟨⟨y, hy, rfl⟩, hL'⟩ := hpls h6
      rw [n1 x hx y hy (hs.lk.inj _ _ p q b hL hL' h7 h8)] }
  have hcall := hc _ w _ pl (frz_ag hs.ag) hpre
  unfold Oper.wp
  have hrun : (execOp a.eval ⟨some d, .call { callee := .value (.func f), args := xs.toArray, argTypes := ts }, ty, pos, af, none⟩).run P w = .ok (.enter f (ps.map fun p => a.eval p.1).toArray) w := by
    have e1 : (xs.toArray.map a.eval) = (ps.map fun p => a.eval p.1).toArray := by rw [h3]; simp
    have hev : a.eval (.func f) = .func (.func f) #[] #[] := rfl
    simp only [execOp, resolve, hev, Deferred.ofValue, Sem.run_bind, Sem.run_pure, Result.andThen_ok, invoke]
    rw [run_callFunc, e1]
    simp
  rw [hrun]
  refine Calls.mono hcall ?_
  rintro e w' he
  cases e with
  | returned v =>
    obtain ⟨F', pl', hpost⟩ := he
    exact callG_state hs hck' hfl (fun id => rfl) hpost (Nat.blt_lt hd)
  | panicked ch => exact he.elim
  | outgrown => exact he.elim
end Go.Pu
/- The pure layer, part 22: bits; plain contracts as general ones; nil inside of a variable. Any program. -/
namespace Go.Pu
open Go
section
variable {P : Program} {c : Ctx} {ops : Array Oper}
theorem wrap_nat {n : Nat} (h : n < 9223372036854775808) : IntKind.i64.wrap (n : Int) = n := wrap_in ⟨by omega, by omega⟩
theorem bv_nat {m : Int} (h : 0 ≤ m ∧ m ≤ 9223372036854775807) : (BitVec.ofInt 64 m).toNat = m.toNat := by
  rw [BitVec.toNat_ofInt]
  have : (m % ((2 ^ 64 : Nat) : Int)) = m := Int.emod_eq_of_lt h.1 (by omega)
  rw [this]
theorem xor_lt {m n : Nat} (hm : m < 9223372036854775808) (hn : n < 9223372036854775808) : m ^^^ n < 9223372036854775808 := Nat.xor_lt_two_pow (n := 63) hm hn
theorem S_xor {r : List REv} {o : List OEv} {d : Nat} {x y : Operand} {ty t1 t2 : TypeId} {pos : String} {af : Array Edge} {m n : Int}
    (hx : ev r x = some (.c (.g (.int .i64 m)))) (hy : ev r y = some (.c (.g (.int .i64 n)))) (hd : Nat.blt d c.n = true) (hm : 0 ≤ m ∧ m ≤ 9223372036854775807) (hn : 0 ≤ n ∧ n ≤ 9223372036854775807) :
    Op1 P c ops (some d) (.binOp .xor t1 x y t2) ty pos af ⟨r, o⟩ ⟨[(x, .c (.g (.int .i64 m))), (y, .c (.g (.int .i64 n)))].flatMap rdx, [], [.set d (.c (.g (.int .i64 ((m.toNat ^^^ n.toNat : Nat) : Int))))], []⟩ :=
  S_int hx hy hd (fun _ _ => ⟨.int .i64 ((m.toNat ^^^ n.toNat : Nat) : Int), by
    have e : (BitVec.ofInt 64 m ^^^ BitVec.ofInt 64 n).toNat = (m.toNat ^^^ n.toNat : Nat) := by rw [BitVec.toNat_xor, bv_nat hm, bv_nat hn]
    have e2 : IntKind.i64.bits = 64 := rfl
    simp only [binOp, Op.intArith, Op.intBits, ne_eq, not_true_eq_false, if_false]
    show (pure (Value.int .i64 (IntKind.i64.wrap ((BitVec.ofInt 64 m ^^^ BitVec.ofInt 64 n).toNat : Int))) : Sem Value).run P _ = _
    rw [e, wrap_nat (xor_lt (by omega) (by omega))]; rfl, .int _ _⟩)

theorem Ctr.toG {f : FuncId} {n : Nat} {gs : List GV} {g : GV} (h : Ctr P f (gs.map .g) (.g g)) : CtrG P f n (gs.map fun y => .c (.g y)) [] (.c (.g g)) [] := by
  intro F w vs pl hag ha
  have hp0 : ∀ id, pl id = none := fun id => ha.non id (by simp)
  have hMB : ∀ b, ¬ MB (fun _ => none) b := by rintro b ⟨i, p, h, _⟩; cases h
  refine Calls.mono (h F w vs (fun _ => none) hag ?_) ?_
  · refine ⟨by rw [ha.len]; simp, ?_, fun _ _ => rfl, (fun _ _ _ h => by cases h), (fun _ _ _ _ h => by cases h), (fun _ _ _ _ _ h => by cases h)⟩
    intro i a hi
    rw [List.getElem?_map, Option.map_eq_some_iff] at hi
    obtain ⟨y, hy, rfl⟩ := hi
    exact ⟨ha.arg i (.c (.g y)) (by rw [List.getElem?_map, hy]; rfl), rfl⟩
  · rintro e w' he
    cases e with
    | panicked ch => exact he.elim
    | outgrown => exact he.elim
    | returned v =>
      obtain ⟨F', pr, hp⟩ := he
      exact ⟨F', fun _ => none, {
        ag := hp.ag
        fr := ⟨hp.fr.os, hp.fr.tape, hp.fr.output, hp.fr.size, fun k hk _ => hp.fr.block k hk (hMB k)⟩
        ext := hp.ext
        fx := fun b o hb _ => hp.fx b o hb (hMB b)
        rs := hp.res.1
        out := by simp
        non := fun _ _ => rfl
        pin := fun id _ => (hp0 id).symm
        own := fun _ _ _ h => by cases h
        free := fun _ _ _ _ h => by cases h
        inj := fun _ _ _ _ _ h => by cases h }⟩
/-- A fresh slice as the only result. -/
theorem Ctr.toGo {f : FuncId} {n id : Nat} {gs : List GV} {e : TypeId} {fz : Nat} {es : List (List GV)} (hid : id < n) (h : Ctr P f (gs.map .g) (.own e fz es)) : CtrG P f n (gs.map fun y => .c (.g y)) [] (.c (.osl id 0 es.length)) [(id, ⟨e, fz, .gnd es⟩)] := by
  intro F w vs pl hag ha
  have hp0 : ∀ id, pl id = none := fun id => ha.non id (by simp)
  have hMB : ∀ b, ¬ MB (fun _ => none) b := by rintro b ⟨i, p, h, _⟩; cases h
  refine Calls.mono (h F w vs (fun _ => none) hag ?_) ?_
  · refine ⟨by rw [ha.len]; simp, ?_, fun _ _ => rfl, (fun _ _ _ h => by cases h), (fun _ _ _ _ h => by cases h), (fun _ _ _ _ _ h => by cases h)⟩
    intro i a hi
    rw [List.getElem?_map, Option.map_eq_some_iff] at hi
    obtain ⟨y, hy, rfl⟩ := hi
    exact ⟨ha.arg i (.c (.g y)) (by rw [List.getElem?_map, hy]; rfl), rfl⟩
  · rintro e w' he
    cases e with
    | panicked ch => exact he.elim
    | outgrown => exact he.elim
    | returned v =>
      obtain ⟨F', pr, hp⟩ := he
      obtain ⟨p, hpr, hsl, hat⟩ := hp.res
      have hu : ∀ i q, updL (fun _ => none) id (some p) i = some q → i = id ∧ q = p := by
        intro i q hq
        unfold updL at hq
        split at hq
        · rename_i he; cases hq; exact ⟨he, rfl⟩
        · cases hq
      exact ⟨F', updL (fun _ => none) id (some p), {
        ag := hp.ag
        fr := ⟨hp.fr.os, hp.fr.tape, hp.fr.output, hp.fr.size, fun k hk _ => hp.fr.block k hk (hMB k)⟩
        ext := hp.ext
        fx := fun b o hb _ => hp.fx b o hb (hMB b)
        rs := slAt_to (F := F') (updL_same _ _ _) hsl
        out := by
          intro x hx
          rw [List.mem_singleton] at hx
          subst hx
          exact objOk_of (updL_same _ _ _) hat
        non := fun i hi => by
          show (if i = id then some p else none) = none
          rw [if_neg (fun h => hi (id, ⟨e, fz, .gnd es⟩) (by simp) h.symm)]
        pin := fun i hi => by
          rw [hp0]
          show (if i = id then some p else none) = none
          rw [if_neg (by omega)]
        own := fun i q b hq hb => by
          obtain ⟨rfl, rfl⟩ := hu i q hq
          obtain ⟨h1, h2⟩ := hp.rblk q b hpr hb
          exact ⟨h1.elim .inl (fun h => (hMB b h).elim), h2⟩
        free := fun i q b o hq hb hle => by
          obtain ⟨rfl, rfl⟩ := hu i q hq
          exact hp.rfree q b o hpr hb hle
        inj := fun i j q q' b hq hq' _ _ => by
          rw [(hu i q hq).1, (hu j q' hq').1] }⟩
end

section
variable {P : Program} {c : Ctx} {Q : Exit → St → Prop} {s : St}
/-- A nil slice in a variable of the call's own, as an own slice without elements. -/
theorem PW_nilC {code : Code} (i id off : Nat) (e : TypeId) {e2 : TypeId} {fz : Nat} {cs : List GV} {sz : Nat} [hz : TSz P e sz] (ho : lookO s.objs i = some ⟨e2, fz, .gnd [cs]⟩) (hc : cs[off]? = some .nil) (hid : Nat.blt id c.n = true) (hne : Nat.beq id i = false)
    (h : PW P c code Q ⟨.kill id :: s.regs, .set i ⟨e2, fz, .loc [(cs.map .g).set off (.osl id 0 0)]⟩ :: .set id ⟨e, 0, .gnd []⟩ :: .free id :: s.objs⟩) : PW P c code Q s := by
  rintro a w ⟨F, L, hs⟩
  have hnil := (hs.free id (Nat.blt_lt hid)).adopt (id := id) (Nat.blt_lt hid) (by simp [freeO]) ⟨e, 0, .gnd []⟩ ⟨none, 0, 0, sz, 0⟩ (Nat.le_refl _) hz.h (by simp [Cont.cells]) (by simp [Cont.cells]) (by simp) (.inl ⟨rfl, rfl⟩)
  refine h a w ⟨F, _, { hnil with ob := ?_, fe := ?_ }⟩
  · intro i' o' ho'
    simp only [lookO] at ho'
    cases hb : Nat.beq i i' with
    | false =>
      rw [hb] at ho'
      exact hnil.ob i' o' (by simp only [lookO]; exact ho')
    | true =>
      rw [hb] at ho'
      have := beq_of hb
      subst this
      cases ho'
      have hold := hnil.ob i ⟨e2, fz, .gnd [cs]⟩ (by simp only [lookO, hne, cond_false, ho]; rfl)
      obtain ⟨p, q1, q2, q3, q4, q5, q6, q7⟩ := hold
      refine ⟨p, q1, q2, q3, ?_, by simpa [Cont.cells] using q5, q6, ?_⟩
      · intro el hel
        simp only [Cont.cells, List.mem_singleton] at hel
        subst hel
        have := q4 (cs.map .g) (by simp [Cont.cells])
        simpa using this
      · rcases q7 with ⟨_, q8⟩ | ⟨b, cur, j1, j2, j3, j4⟩
        · simp [Cont.cells] at q8
        · refine .inr ⟨b, cur, j1, j2, j3, fun k j el y hk hj => ?_⟩
          cases k with
          | succ k => simp [Cont.cells] at hk
          | zero =>
            simp only [Cont.cells, List.getElem?_cons_zero, Option.some.injEq] at hk
            subst hk
            by_cases hjo : j = off
            · subst hjo
              have hlt := (List.getElem?_eq_some_iff.1 hc).1
              rw [List.getElem?_set_self (by simpa using hlt)] at hj
              cases hj
              obtain ⟨v, v1, v2, v3⟩ := j4 0 j (cs.map .g) (.g .nil) (by simp [Cont.cells]) (by rw [List.getElem?_map, hc]; rfl)
              refine ⟨v, v1, v2, ?_⟩
              simp only [RL] at v3
              cases v3
              exact ⟨_, updL_same _ _ _, by simp, .inl ⟨rfl, rfl, rfl, rfl⟩⟩
            · rw [List.getElem?_set_ne (fun e => hjo e.symm)] at hj
              exact j4 0 j (cs.map .g) y (by simp [Cont.cells]) hj
  · intro i' hi'
    simp only [freeO] at hi'
    cases hb : Nat.beq i i' with
    | true => rw [hb] at hi'; cases hi'
    | false => rw [hb] at hi'; exact hnil.fe i' (by simp only [freeO]; exact hi')
end
end Go.Pu
/- The pure layer, part 23: another number for an own slice. Any program. -/
namespace Go.Pu
open Go
section
variable {P : Program} {c : Ctx} {Q : Exit → St → Prop} {s : St}
theorem updL_two {L : LMap} {a b i : Nat} {q : Plc} (h : updL (updL L a none) b none i = some q) : i ≠ a ∧ i ≠ b ∧ L i = some q := by
  unfold updL at h
  split at h
  · cases h
  · rename_i h1
    split at h
    · cases h
    · rename_i h2; exact ⟨h2, h1, h⟩
theorem SimFL.renum {a : Act} {w : World} {F : FMap} {L : LMap} (hs : SimFL P c s a w F L) {x y fz : Nat} {e : TypeId} {es : List (List GV)} {p : Plc} (hp : L x = some p) (hat : ObjAt P F w p e fz es) (hx : x < c.n) (hy : y < c.n) :
    SimFL P c ⟨.kill y :: .kill x :: s.regs, .set y ⟨e, fz, .gnd es⟩ :: .free y :: .free x :: s.objs⟩ a w F (updL (updL (updL L x none) y none) y (some p)) := by
  obtain ⟨q1, q2, q3, q4, q5, q6⟩ := hat
  refine ((hs.free x hx).free y hy).adopt hy (by simp [freeO]) ⟨e, fz, .gnd es⟩ p q1 q2 ?_ (by simpa [Cont.cells] using q4) q5 ?_
  · intro el hel
    simp only [Cont.cells, List.mem_map] at hel
    obtain ⟨l, hl, rfl⟩ := hel
    simpa using q3 l hl
  · rcases q6 with ⟨q6, q7⟩ | ⟨b, cur, k1, k2, k3, k4⟩
    · exact .inl ⟨q6, by simp [Cont.cells, q7]⟩
    · refine .inr ⟨b, cur, k1, k2, k3, (hs.lk.own x p b hp k1).1, fun o h => hs.lk.free x p b o hp k1 h, ?_, ?_⟩
      · intro i q hq hb
        obtain ⟨h1, _, h3⟩ := updL_two hq
        exact h1 (hs.lk.inj i x q p b h3 hp hb k1)
      · intro i j el z hi hz
        obtain ⟨l, hl, rfl⟩ := gnd_get hi
        obtain ⟨g, hg, rfl⟩ := map_get hz
        exact k4 i j l g hl hg
theorem PW_mvS {code : Code} (t x y : Nat) {off k fz : Nat} {e : TypeId} {es : List (List GV)} (ht : look s.regs t = some (.c (.osl x off k))) (ho : lookO s.objs x = some ⟨e, fz, .gnd es⟩) (hx : Nat.blt x c.n = true) (hy : Nat.blt y c.n = true)
    (h : PW P c code Q ⟨.set t (.c (.osl y off k)) :: .kill y :: .kill x :: s.regs, .set y ⟨e, fz, .gnd es⟩ :: .free y :: .free x :: s.objs⟩) : PW P c code Q s := by
  rintro a w ⟨F, L, hs⟩
  obtain ⟨p, hp, hat⟩ := objAt_of (hs.ob _ _ ho)
  have h2 := hs.renum hp hat (Nat.blt_lt hx) (Nat.blt_lt hy)
  have hv : RP F (updL (updL (updL L x none) y none) y (some p)) (.c (.osl y off k)) (a.tmps.getD t undef) := by
    obtain ⟨q, hq, hr⟩ := hs.rg t _ ht
    rw [hp] at hq
    cases hq
    exact ⟨p, updL_same _ _ _, hr⟩
  refine h a w ⟨F, _, { h2 with rg := ?_ }⟩
  intro t' v' ht'
  simp only [look] at ht'
  cases hb : Nat.beq t t' with
  | true => rw [hb] at ht'; cases ht'; rw [← beq_of hb]; exact hv
  | false => rw [hb] at ht'; exact h2.rg t' v' (by simpa [look] using ht')
end
end Go.Pu
/- The pure layer, part 24: from a law's contract to what its row asks. Any program. -/
namespace Go.Pu
open Go
def byteRows (bs : List Nat) : List (List GV) := bs.map fun b : Nat => [.int .u8 (b : Int)]
theorem wf_u8 {n : Int} (h : (Lit.int .u8 n).wf = true) : 0 ≤ n ∧ n < 256 := by
  simp [Lit.wf, IntKind.min, IntKind.max, IntKind.bits, IntKind.signed] at h
  omega
theorem rg_bytes {w : World} {a : Option Addr} {len cap : Nat} {zs : List Int}
    (h : (a = none ∧ len = 0 ∧ cap = 0 ∧ zs = []) ∨ ∃ x, a = some x ∧ len ≤ cap ∧ cap ≤ maxLen ∧ zs.length = cap ∧ (∀ i, i < zs.length → w.cell? (x.add i) = some (.int .u8 (zs.getD i 0))) ∧ ∀ n ∈ zs, (Lit.int .u8 n).wf = true) :
    ∃ bs : List Nat, (∀ b ∈ bs, b < 256) ∧ RG (fun b o => w.cell? ⟨b, o, none⟩) (.sl (byteRows bs)) (.slice a len cap) := by
  rcases h with ⟨rfl, rfl, rfl, rfl⟩ | ⟨x, rfl, hl, hm, hz, hcell, hwf⟩
  · exact ⟨[], by simp, .sl0 _ _⟩
  · have hin : ∀ b ∈ (zs.take len).map Int.toNat, b < 256 := by
      intro b hb
      obtain ⟨n, hn, rfl⟩ := List.mem_map.1 hb
      have := wf_u8 (hwf n (List.mem_of_mem_take hn))
      omega
    refine ⟨(zs.take len).map Int.toNat, hin, ?_⟩
    rcases Nat.eq_zero_or_pos len with h0 | h0
    · subst h0; exact .sl0 _ _
    · obtain ⟨b, o, s⟩ := x
      have hs : s = none := by
        have := hcell 0 (by omega)
        cases s with
        | none => rfl
        | some s =>
          simp only [World.cell?, Addr.add, Option.isSome] at this
          split at this <;> simp at this
      subst hs
      have hlen : (byteRows ((zs.take len).map Int.toNat)).length = len := by simp [byteRows]; omega
      have := RG.sl (F := fun b o => w.cell? ⟨b, o, none⟩) (byteRows ((zs.take len).map Int.toNat)) b o cap 1 (fun i _ => .int .u8 (zs.getD i 0)) (by intro el hel; obtain ⟨n, _, rfl⟩ := List.mem_map.1 hel; rfl) ?_ ?_ (by omega)
      · rwa [hlen] at this
      · intro i j hi hj
        have hj0 : j = 0 := by omega
        subst hj0
        have := hcell i (by omega)
        rw [add_off] at this
        rw [Nat.mul_one, Nat.add_zero]
        exact this
      · intro i j el c hi hj
        simp only [byteRows, List.getElem?_map, Option.map_eq_some_iff] at hi
        obtain ⟨m, ⟨n, hn, rfl⟩, rfl⟩ := hi
        cases j with
        | succ j => simp at hj
        | zero =>
          simp only [List.getElem?_cons_zero, Option.some.injEq] at hj
          subst hj
          rw [List.getElem?_take] at hn
          split at hn
          · have h1 := wf_u8 (hwf n (List.mem_of_getElem? hn))
            have h2 : zs.getD i 0 = n := by rw [List.getD_eq_getElem?_getD, hn]; rfl
            rw [h2, show ((n.toNat : Nat) : Int) = n by omega]
            exact .int _ _
          · cases hn
/-- A law of bytes that answers true: what its row asks of the call. -/
theorem law_row {P : Program} {f : FuncId} (h : ∀ bs : List Nat, (∀ b ∈ bs, b < 256) → Ctr P f [.g (.sl (byteRows bs))] (.g (.bool true))) {w : World} {a : Option Addr} {len cap : Nat} {zs : List Int}
    (hr : (a = none ∧ len = 0 ∧ cap = 0 ∧ zs = []) ∨ ∃ x, a = some x ∧ len ≤ cap ∧ cap ≤ maxLen ∧ zs.length = cap ∧ (∀ i, i < zs.length → w.cell? (x.add i) = some (.int .u8 (zs.getD i 0))) ∧ ∀ n ∈ zs, (Lit.int .u8 n).wf = true) :
    Calls P f #[.slice a len cap] w fun e w' => e = .returned (.bool true) ∧ RowKit.Below w.heap.size w w' := by
  obtain ⟨bs, hb, hrg⟩ := rg_bytes hr
  refine Calls.mono (h bs hb (fun b o => w.cell? ⟨b, o, none⟩) w #[.slice a len cap] (fun _ => none) (fun b o v h => h) ?_) ?_
  · refine ⟨rfl, ?_, fun _ _ => rfl, (fun _ _ _ h => by cases h), (fun _ _ _ _ h => by cases h), (fun _ _ _ _ _ h => by cases h)⟩
    intro i y hi
    cases i with
    | zero => simp at hi; subst hi; exact ⟨hrg, rfl⟩
    | succ i => simp at hi
  · rintro e w' he
    cases e with
    | panicked ch => exact he.elim
    | outgrown => exact he.elim
    | returned v =>
      obtain ⟨F', pr, hp⟩ := he
      have hv : v = .bool true := by
        have := hp.res.1
        cases this; rfl
      refine ⟨by rw [hv], hp.fr.os, hp.fr.tape, hp.fr.output, hp.fr.size, fun k hk => hp.fr.block k hk ?_⟩
      rintro ⟨i, p, h, _⟩
      cases h
end Go.Pu
/- The pure layer, part 25: short names for the steps that look for their own rule. Any program. -/
namespace Go.Pu
open Go
section
variable {P : Program} {c : Ctx} {nd : Bool} {ops : Array Oper} {Q : List Foot → St → Prop} {rest : List Oper} {acc : List Foot}
variable {r : List REv} {o : List OEv} {dst : Option Nat} {op : Op} {ty : TypeId} {pos : String} {af : Array Edge} {gd : Option (Nat × Bool)} {ex rr : List (Nat × PV)} {ro : List (Nat × Pu.Obj)} {e1 e2 : REv} {f1 f2 : OEv}
theorem qMv (hg : GOk ops r gd ex) (k : PD P c nd ops rest (⟨ex ++ rr, ro, [e1], []⟩ :: acc) Q ⟨e1 :: r, o⟩) (h : Op1 P c ops dst op ty pos af ⟨r, o⟩ ⟨rr, ro, [e1], []⟩ := by first | exact S_move rfl rfl | exact S_assign rfl rfl | exact S_assignJ rfl) : PD P c nd ops (⟨dst, op, ty, pos, af, gd⟩ :: rest) acc Q ⟨r, o⟩ := P10 hg h k
theorem qLd (hg : GOk ops r gd ex) (k : PD P c nd ops rest (⟨ex ++ rr, ro, [e1], []⟩ :: acc) Q ⟨e1 :: r, o⟩) (h : Op1 P c ops dst op ty pos af ⟨r, o⟩ ⟨rr, ro, [e1], []⟩ := by first | exact S_loadO1 rfl rfl rfl rfl rfl | exact S_loadR1 rfl rfl rfl | exact S_loadL1 rfl rfl rfl rfl rfl | exact S_loadOW rfl rfl rfl rfl rfl | exact S_loadRW rfl rfl rfl | exact S_loadLA rfl rfl rfl (Nat.le_of_ble_eq_true rfl) rfl | exact S_loadOA rfl rfl rfl (Nat.le_of_ble_eq_true rfl) rfl | exact S_loadRA rfl (Nat.le_of_ble_eq_true rfl) rfl) : PD P c nd ops (⟨dst, op, ty, pos, af, gd⟩ :: rest) acc Q ⟨r, o⟩ := P10 hg h k
theorem qFd (hg : GOk ops r gd ex) (k : PD P c nd ops rest (⟨ex ++ rr, ro, [e1], []⟩ :: acc) Q ⟨e1 :: r, o⟩) (h : Op1 P c ops dst op ty pos af ⟨r, o⟩ ⟨rr, ro, [e1], []⟩ := by first | exact S_fieldO rfl rfl rfl | exact S_fieldR rfl rfl rfl | exact S_nilO rfl rfl | exact S_nilR rfl rfl) : PD P c nd ops (⟨dst, op, ty, pos, af, gd⟩ :: rest) acc Q ⟨r, o⟩ := P10 hg h k
theorem qLn (hg : GOk ops r gd ex) (k : PD P c nd ops rest (⟨ex ++ rr, ro, [e1], []⟩ :: acc) Q ⟨e1 :: r, o⟩) (h : Op1 P c ops dst op ty pos af ⟨r, o⟩ ⟨rr, ro, [e1], []⟩ := by first | exact S_lenR rfl rfl | exact S_lenO rfl rfl | exact S_lenN rfl rfl | exact S_lenS rfl rfl) : PD P c nd ops (⟨dst, op, ty, pos, af, gd⟩ :: rest) acc Q ⟨r, o⟩ := P10 hg h k
theorem qEx1 (hg : GOk ops r gd ex) (k : PD P c nd ops rest (⟨ex ++ rr, ro, [e1], []⟩ :: acc) Q ⟨e1 :: r, o⟩) (h : Op1 P c ops dst op ty pos af ⟨r, o⟩ ⟨rr, ro, [e1], []⟩ := by first | exact S_extractG rfl rfl rfl | exact S_extractC rfl rfl rfl | exact S_extractA rfl rfl rfl) : PD P c nd ops (⟨dst, op, ty, pos, af, gd⟩ :: rest) acc Q ⟨r, o⟩ := P10 hg h k
theorem qCm (hg : GOk ops r gd ex) (k : PD P c nd ops rest (⟨ex ++ rr, ro, [e1], []⟩ :: acc) Q ⟨e1 :: r, o⟩) (h : Op1 P c ops dst op ty pos af ⟨r, o⟩ ⟨rr, ro, [e1], []⟩ := by first | exact S_lss rfl rfl rfl | exact S_leq rfl rfl rfl | exact S_gtr rfl rfl rfl | exact S_geq rfl rfl rfl | exact S_eql rfl rfl rfl | exact S_neq rfl rfl rfl | exact S_eqb rfl rfl rfl | exact S_neb rfl rfl rfl | exact S_not rfl rfl | exact S_max2 rfl rfl rfl | exact S_min2 rfl rfl rfl) : PD P c nd ops (⟨dst, op, ty, pos, af, gd⟩ :: rest) acc Q ⟨r, o⟩ := P10 hg h k
theorem qAd (hg : GOk ops r gd ex) (k : PD P c nd ops rest (⟨ex ++ rr, ro, [e1], []⟩ :: acc) Q ⟨e1 :: r, o⟩) (h : Op1 P c ops dst op ty pos af ⟨r, o⟩ ⟨rr, ro, [e1], []⟩ := by exact S_add rfl rfl rfl (And.intro (by omega) (by omega))) : PD P c nd ops (⟨dst, op, ty, pos, af, gd⟩ :: rest) acc Q ⟨r, o⟩ := P10 hg h k
theorem qSb (hg : GOk ops r gd ex) (k : PD P c nd ops rest (⟨ex ++ rr, ro, [e1], []⟩ :: acc) Q ⟨e1 :: r, o⟩) (h : Op1 P c ops dst op ty pos af ⟨r, o⟩ ⟨rr, ro, [e1], []⟩ := by exact S_sub rfl rfl rfl (And.intro (by omega) (by omega))) : PD P c nd ops (⟨dst, op, ty, pos, af, gd⟩ :: rest) acc Q ⟨r, o⟩ := P10 hg h k
theorem qMl (hg : GOk ops r gd ex) (k : PD P c nd ops rest (⟨ex ++ rr, ro, [e1], []⟩ :: acc) Q ⟨e1 :: r, o⟩) (h : Op1 P c ops dst op ty pos af ⟨r, o⟩ ⟨rr, ro, [e1], []⟩ := by exact S_mul rfl rfl rfl (And.intro (by omega) (by omega))) : PD P c nd ops (⟨dst, op, ty, pos, af, gd⟩ :: rest) acc Q ⟨r, o⟩ := P10 hg h k
theorem qSr (hg : GOk ops r gd ex) (k : PD P c nd ops rest (⟨ex ++ rr, ro, [], [f1]⟩ :: acc) Q ⟨r, f1 :: o⟩) (h : Op1 P c ops dst op ty pos af ⟨r, o⟩ ⟨rr, ro, [], [f1]⟩ := by first | exact S_store1 rfl rfl rfl rfl rfl | exact S_storeL rfl rfl rfl rfl rfl | exact S_storeH rfl rfl rfl rfl | exact S_storeW rfl rfl rfl rfl rfl rfl | exact S_storeP rfl rfl rfl rfl rfl (Nat.le_of_ble_eq_true rfl) | exact S_storeLW rfl rfl rfl rfl rfl rfl rfl) : PD P c nd ops (⟨dst, op, ty, pos, af, gd⟩ :: rest) acc Q ⟨r, o⟩ := P01 hg h k
theorem qBx (hg : GOk ops r gd ex) (k : PD P c nd ops rest (⟨ex ++ rr, ro, [e1, e2], [f1, f2]⟩ :: acc) Q ⟨e1 :: e2 :: r, f1 :: f2 :: o⟩) (h : Op1 P c ops dst op ty pos af ⟨r, o⟩ ⟨rr, ro, [e1, e2], [f1, f2]⟩ := by first | exact S_alloc rfl | exact S_box1 rfl rfl rfl | exact S_boxO rfl rfl rfl | exact S_boxA rfl rfl rfl rfl | exact S_boxL rfl rfl rfl rfl rfl) : PD P c nd ops (⟨dst, op, ty, pos, af, gd⟩ :: rest) acc Q ⟨r, o⟩ := P22 hg h k
end
end Go.Pu
